import PyProof.Rows.All
import Wide.All
import OpenK.AllK
import Wide.FinOn
import HandS.ForMost
import HandS.ForExc
import HandS.Walk
import HandS.CallSlots
import HandS.Deep
import HandS.TupAny
import HandS.TupLe
import HandS.TupMul
import HandS.IsInst
import HandS.More
import HandS.Zip
import HandS.TryMany
import HandS.ExcSuper
import HandS.ExcField
import HandS.ExcIs
import KE.KSuper
import KE.GoesMore
import PySem.Challenge.RW_cutweave_k04_possible_deeds
set_option Elab.async false
set_option maxRecDepth 100000
set_option maxHeartbeats 4000000
set_option linter.all false
set_option autoImplicit false
/-! Values as plain data, a small store of live cells, and what it means that the heap bears them. -/
namespace Cw
open PySem L2

/-- a value: data, with references to live cells -/
inductive D where
  | non | bl (b : Bool) | int (i : Int) | str (x : Str)
  | tup (xs : List D) | lst (xs : List D) | scr (ns : List Int)
  | obj (c : Nat) (ks : List Nat) (xs : List D)
  | ref (n : Nat)
  | exn (c : Nat) (x : D)

/-- what a live cell holds -/
inductive Cell where
  | lst (xs : List D)
  | ins (c : Nat) (ks : List Nat) (xs : List D)
  | dK (ks : List Key) (xs : List D)
  | dT (ks : List (List Key)) (xs : List D)

abbrev Sto := List Cell
abbrev En := List (Option D)
abbrev Rho := Nat → Addr

inductive Res (α : Type) where
  | ok (a : α) (st : Sto)
  | exc (c : Nat) (d : D) (st : Sto)
  | bad
def Res.bind {α β : Type} (x : Res α) (f : α → Sto → Res β) : Res β :=
  match x with
  | .ok a st => f a st
  | .exc c d st => .exc c d st
  | .bad => .bad

/-- classes and attributes by number -/
structure Stat where
  K : PySem.W.Frag
  CA : Nat → Addr
  AN : Nat → Str
  EN : Nat → Str
  ex : Option (Addr × Addr × Value)

/-- the script: a frozen list, or one that is written out -/
def ScrAt (K : PySem.W.Frag) (H : Hp) (a : Addr) (xs : List V) : Prop :=
  (∃ o, H a = some (.frz o (.lst xs))) ∨ ∃ (o : Obj) (its : Array Value) (n : Nat), K.lookup a = some o ∧ o.cls = .type "list" ∧ o.dict = none ∧ o.data = .seq its n ∧ its.size ≤ sizeLine ∧ Vals xs its.toList
theorem ScrAt.sql {K : PySem.W.Frag} {H : Hp} {a : Addr} {xs : List V} (h : ScrAt K H a xs) : SqL K H a xs := by
  rcases h with ⟨o, h⟩ | h
  · exact .inl (.inr ⟨o, h⟩)
  · exact .inr h
theorem ScrAt.of {K : PySem.W.Frag} {H : Hp} {a : Addr} {xs : List V} (h : SqL K H a xs) (n : ∀ b, H b = none ∨ ∃ o ys, H b = some (.frz o (.lst ys))) : ScrAt K H a xs := by
  rcases h with (h | ⟨o, h⟩) | h
  · rcases n a with e | ⟨o, ys, e⟩
    · rw [e] at h; cases h
    · rw [e] at h; cases h
  · exact .inl ⟨o, h⟩
  · exact .inr h
def Off (r : Rho) (n : Nat) (a : Addr) : Prop := ∀ k, k < n → r k ≠ a

mutual
def Rep (S : Stat) (r : Rho) (n : Nat) (H : Hp) : D → V → Prop
  | .non, v => v = .non
  | .bl b, v => v = .bl b
  | .int i, v => v = .int i
  | .str x, v => v = .str x
  | .tup ds, v => ∃ a xs, v = .ref a ∧ SqT S.K H a xs ∧ RepL S r n H ds xs
  | .lst ds, v => ∃ a xs, v = .ref a ∧ H a = some (.lst xs) ∧ Off r n a ∧ RepL S r n H ds xs
  | .scr ns, v => ∃ a, v = .ref a ∧ ScrAt S.K H a (ns.map V.int)
  | .obj c ks ds, v => ∃ a dx fs, v = .ref a ∧ H a = some (.ins (S.CA c) dx fs) ∧ Off r n a ∧ fs.map (·.1) = ks.map S.AN ∧ RepL S r n H ds (fs.map (·.2))
  | .ref k, v => k < n ∧ v = .ref (r k)
  | .exn c x, v => ∃ a dx w, S.ex = some (a, dx, .ref (S.CA c)) ∧ v = .ref a ∧ H dx = some (.xd [(S.EN c, w)]) ∧ Rep S r n H x w
def RepL (S : Stat) (r : Rho) (n : Nat) (H : Hp) : List D → List V → Prop
  | [], vs => vs = []
  | d :: ds, vs => ∃ v w, vs = v :: w ∧ Rep S r n H d v ∧ RepL S r n H ds w
end

def MutO : HO → Prop
  | .lst _ => True
  | .dK _ => True
  | .dT _ => True
  | .ins _ _ _ => True
  | _ => False

/-- what was tracked and is no live cell stands, and is none later -/
structure Le (r : Rho) (n : Nat) (H : Hp) (r' : Rho) (n' : Nat) (H' : Hp) : Prop where
  len : n ≤ n'
  eq : ∀ k, k < n → r' k = r k
  liv : ∀ k, k < n → ∃ o, H (r k) = some o ∧ MutO o
  keep : ∀ b o, H b = some o → Off r n b → H' b = some o ∧ Off r' n' b

theorem Le.off_tup {r : Rho} {n : Nat} {H : Hp} {r' : Rho} {n' : Nat} {H' : Hp} (l : Le r n H r' n' H') {a : Addr} {o : HO} (h : H a = some o) (hm : ¬ MutO o) : Off r n a := fun k hk e => by
  obtain ⟨o', h1, h2⟩ := l.liv k hk
  rw [e, h] at h1
  cases h1
  exact hm h2

section
variable {S : Stat} {r r' : Rho} {n n' : Nat} {H H' : Hp}
theorem sqT_mono (l : Le r n H r' n' H') {a : Addr} {xs : List V} (h : SqT S.K H a xs) : SqT S.K H' a xs := by
  rcases h with (h | ⟨o, h⟩) | h
  · exact .inl (.inl (l.keep a _ h (l.off_tup h (fun z => z))).1)
  · exact .inl (.inr ⟨o, (l.keep a _ h (l.off_tup h (fun z => z))).1⟩)
  · exact .inr h
mutual
theorem Rep.mono (l : Le r n H r' n' H') : ∀ (d : D) (v : V), Rep S r n H d v → Rep S r' n' H' d v
  | .non, _, h => by simpa [Rep] using h
  | .bl _, _, h => by simpa [Rep] using h
  | .int _, _, h => by simpa [Rep] using h
  | .str _, _, h => by simpa [Rep] using h
  | .tup ds, v, h => by
    unfold Rep at h ⊢
    obtain ⟨a, xs, e, h1, h2⟩ := h
    exact ⟨a, xs, e, sqT_mono l h1, RepL.mono l ds xs h2⟩
  | .lst ds, v, h => by
    unfold Rep at h ⊢
    obtain ⟨a, xs, e, h1, ho, h2⟩ := h
    exact ⟨a, xs, e, (l.keep a _ h1 ho).1, (l.keep a _ h1 ho).2, RepL.mono l ds xs h2⟩
  | .scr ns, v, h => by
    unfold Rep at h ⊢
    obtain ⟨a, e, h1⟩ := h
    rcases h1 with ⟨o, h1⟩ | h1
    · exact ⟨a, e, .inl ⟨o, (l.keep a _ h1 (l.off_tup h1 (fun z => z))).1⟩⟩
    · exact ⟨a, e, .inr h1⟩
  | .obj c ks ds, v, h => by
    unfold Rep at h ⊢
    obtain ⟨a, dx, fs, e, h1, ho, h2, h3⟩ := h
    exact ⟨a, dx, fs, e, (l.keep a _ h1 ho).1, (l.keep a _ h1 ho).2, h2, RepL.mono l ds _ h3⟩
  | .ref k, v, h => by
    unfold Rep at h ⊢
    exact ⟨Nat.lt_of_lt_of_le h.1 l.len, by rw [l.eq k h.1]; exact h.2⟩
  | .exn c x, v, h => by
    unfold Rep at h ⊢
    obtain ⟨a, dx, w, e1, e2, e3, e4⟩ := h
    exact ⟨a, dx, w, e1, e2, (l.keep dx _ e3 (l.off_tup e3 fun z => z)).1, Rep.mono l x w e4⟩
theorem RepL.mono (l : Le r n H r' n' H') : ∀ (ds : List D) (vs : List V), RepL S r n H ds vs → RepL S r' n' H' ds vs
  | [], _, h => by simpa [RepL] using h
  | d :: ds, vs, h => by
    unfold RepL at h ⊢
    obtain ⟨v, w, e, h1, h2⟩ := h
    exact ⟨v, w, e, Rep.mono l d v h1, RepL.mono l ds w h2⟩
end
theorem Le.trans {r2 : Rho} {n2 : Nat} {H2 : Hp} (a : Le r n H r' n' H') (b : Le r' n' H' r2 n2 H2) : Le r n H r2 n2 H2 :=
  ⟨Nat.le_trans a.len b.len, fun k hk => (b.eq k (Nat.lt_of_lt_of_le hk a.len)).trans (a.eq k hk), a.liv, fun c o h ho =>
    let z := a.keep c o h ho
    b.keep c o z.1 z.2⟩
end

/-! ### lists of values -/
section
variable {S : Stat} {r : Rho} {n : Nat} {H : Hp}
theorem RepL.length : ∀ {ds : List D} {vs : List V}, RepL S r n H ds vs → ds.length = vs.length
  | [], vs, h => by unfold RepL at h; simp [h]
  | d :: ds, vs, h => by
    unfold RepL at h
    obtain ⟨v, w, rfl, _, h2⟩ := h
    simp [RepL.length h2]
theorem RepL.nil : RepL S r n H [] [] := by simp [RepL]
theorem RepL.cons {d : D} {v : V} {ds : List D} {vs : List V} (h : Rep S r n H d v) (t : RepL S r n H ds vs) : RepL S r n H (d :: ds) (v :: vs) := by
  unfold RepL
  exact ⟨v, vs, rfl, h, t⟩
theorem RepL.uncons {d : D} {v : V} {ds : List D} {vs : List V} (h : RepL S r n H (d :: ds) (v :: vs)) : Rep S r n H d v ∧ RepL S r n H ds vs := by
  unfold RepL at h
  obtain ⟨v', w, e, h1, h2⟩ := h
  cases e
  exact ⟨h1, h2⟩
theorem RepL.append : ∀ {ds es : List D} {vs ws : List V}, RepL S r n H ds vs → RepL S r n H es ws → RepL S r n H (ds ++ es) (vs ++ ws)
  | [], es, vs, ws, h, k => by
    have e : vs = [] := by unfold RepL at h; exact h
    subst e
    exact k
  | d :: ds, es, vs, ws, h, k => by
    unfold RepL at h
    obtain ⟨v, w, rfl, h1, h2⟩ := h
    exact RepL.cons h1 (RepL.append h2 k)
theorem RepL.get : ∀ {ds : List D} {vs : List V} {i : Nat} {d : D}, RepL S r n H ds vs → ds[i]? = some d → ∃ v, vs[i]? = some v ∧ Rep S r n H d v
  | [], _, _, _, _, e => by simp at e
  | d :: ds, vs, 0, x, h, e => by
    unfold RepL at h
    obtain ⟨v, w, rfl, h1, h2⟩ := h
    simp at e
    subst e
    exact ⟨v, by simp, h1⟩
  | d :: ds, vs, i + 1, x, h, e => by
    unfold RepL at h
    obtain ⟨v, w, rfl, h1, h2⟩ := h
    obtain ⟨u, e1, e2⟩ := RepL.get (i := i) h2 (by simpa using e)
    exact ⟨u, by simpa using e1, e2⟩
theorem RepL.set : ∀ {ds : List D} {vs : List V} {i : Nat} {d : D} {v : V}, RepL S r n H ds vs → Rep S r n H d v → RepL S r n H (ds.set i d) (vs.set i v)
  | [], vs, _, _, _, h, _ => by
    have e : vs = [] := by unfold RepL at h; exact h
    subst e
    simpa using h
  | d :: ds, vs, 0, x, y, h, k => by
    unfold RepL at h
    obtain ⟨v, w, rfl, h1, h2⟩ := h
    exact RepL.cons k h2
  | d :: ds, vs, i + 1, x, y, h, k => by
    unfold RepL at h
    obtain ⟨v, w, rfl, h1, h2⟩ := h
    exact RepL.cons h1 (RepL.set h2 k)
theorem RepL.take : ∀ {ds : List D} {vs : List V} (i : Nat), RepL S r n H ds vs → RepL S r n H (ds.take i) (vs.take i)
  | [], vs, i, h => by
    have e : vs = [] := by unfold RepL at h; exact h
    subst e
    simpa using h
  | d :: ds, vs, 0, h => by simpa using RepL.nil
  | d :: ds, vs, i + 1, h => by
    unfold RepL at h
    obtain ⟨v, w, rfl, h1, h2⟩ := h
    exact RepL.cons h1 (RepL.take i h2)
theorem RepL.drop : ∀ {ds : List D} {vs : List V} (i : Nat), RepL S r n H ds vs → RepL S r n H (ds.drop i) (vs.drop i)
  | [], vs, i, h => by
    have e : vs = [] := by unfold RepL at h; exact h
    subst e
    simpa using h
  | d :: ds, vs, 0, h => by simpa using h
  | d :: ds, vs, i + 1, h => by
    unfold RepL at h
    obtain ⟨v, w, rfl, h1, h2⟩ := h
    simpa using RepL.drop i h2
theorem RepL.none_of {ds : List D} {vs : List V} {i : Nat} (h : RepL S r n H ds vs) (e : ds[i]? = none) : vs[i]? = none := by
  have h1 := h.length
  have h2 := List.getElem?_eq_none_iff.mp e
  exact List.getElem?_eq_none_iff.mpr (by omega)
end

/-! ### the store -/
def CellOk (S : Stat) (r : Rho) (n : Nat) (H : Hp) (a : Addr) : Cell → Prop
  | .lst ds => ∃ xs, H a = some (.lst xs) ∧ RepL S r n H ds xs
  | .ins c ks ds => ∃ dx fs, H a = some (.ins (S.CA c) dx fs) ∧ fs.map (·.1) = ks.map S.AN ∧ RepL S r n H ds (fs.map (·.2))
  | .dK ks ds => ∃ kvs, H a = some (.dK kvs) ∧ kvs.map (·.1) = ks ∧ RepL S r n H ds (kvs.map (·.2))
  | .dT ks ds => ∃ kvs, H a = some (.dT kvs) ∧ kvs.map (·.1) = ks ∧ RepL S r n H ds (kvs.map (·.2))
structure Ok (S : Stat) (r : Rho) (st : Sto) (H : Hp) : Prop where
  inj : ∀ j k, j < st.length → k < st.length → r j = r k → j = k
  cel : ∀ k c, st[k]? = some c → CellOk S r st.length H (r k) c

section
variable {S : Stat} {r r' : Rho} {n n' : Nat} {H H' : Hp} {st : Sto}
theorem CellOk.mut {a : Addr} {c : Cell} (h : CellOk S r n H a c) : ∃ o, H a = some o ∧ MutO o := by
  cases c with
  | lst ds => obtain ⟨xs, e, _⟩ := h; exact ⟨_, e, trivial⟩
  | ins c ks ds => obtain ⟨dx, fs, e, _⟩ := h; exact ⟨_, e, trivial⟩
  | dK ks ds => obtain ⟨xs, e, _⟩ := h; exact ⟨_, e, trivial⟩
  | dT ks ds => obtain ⟨xs, e, _⟩ := h; exact ⟨_, e, trivial⟩
theorem Ok.liv (o : Ok S r st H) : ∀ k, k < st.length → ∃ o, H (r k) = some o ∧ MutO o := fun k hk =>
  (o.cel k st[k] (by simp [hk])).mut
theorem Ok.refl (o : Ok S r st H) : Le r st.length H r st.length H := ⟨Nat.le_refl _, fun _ _ => rfl, o.liv, fun _ _ h ho => ⟨h, ho⟩⟩
theorem CellOk.mono (l : Le r n H r' n' H') {a a' : Addr} {c : Cell} (h : CellOk S r n H a c) (e : ∀ o, H a = some o → H' a' = some o) : CellOk S r' n' H' a' c := by
  cases c with
  | lst ds => obtain ⟨xs, q, h⟩ := h; exact ⟨xs, e _ q, RepL.mono l _ _ h⟩
  | ins c ks ds => obtain ⟨dx, fs, q, h0, h⟩ := h; exact ⟨dx, fs, e _ q, h0, RepL.mono l _ _ h⟩
  | dK ks ds => obtain ⟨xs, q, h0, h⟩ := h; exact ⟨xs, e _ q, h0, RepL.mono l _ _ h⟩
  | dT ks ds => obtain ⟨xs, q, h0, h⟩ := h; exact ⟨xs, e _ q, h0, RepL.mono l _ _ h⟩
/-- a new object that is no cell -/
theorem Ok.fresh (o : Ok S r st H) {p : Addr} {u : HO} (hp : H p = none) : Le r st.length H r st.length (upd H p u) ∧ Ok S r st (upd H p u) := by
  have l : Le r st.length H r st.length (upd H p u) := ⟨Nat.le_refl _, fun _ _ => rfl, o.liv, fun b v h ho => ⟨by rw [upd_ne (ne_of_none h hp)]; exact h, ho⟩⟩
  exact ⟨l, o.inj, fun k c e => (o.cel k c e).mono l fun v h => by rw [upd_ne (ne_of_none h hp)]; exact h⟩
theorem Ok.off_new (o : Ok S r st H) {p : Addr} (hp : H p = none) : Off r st.length p := fun k hk e => by
  obtain ⟨u, h, _⟩ := o.liv k hk
  rw [e, hp] at h
  cases h
def ext (r : Rho) (n : Nat) (p : Addr) : Rho := fun k => if k = n then p else r k
theorem ext_lt {p : Addr} {k : Nat} (h : k < n) : ext r n p k = r k := by unfold ext; rw [if_neg (Nat.ne_of_lt h)]
theorem ext_same {p : Addr} : ext r n p n = p := by unfold ext; rw [if_pos rfl]
/-- a new cell -/
theorem Ok.alloc (o : Ok S r st H) {p : Addr} {u : HO} {c : Cell} (hp : H p = none)
    (hc : ∀ (r' : Rho) (n' : Nat) (H' : Hp), Le r st.length H r' n' H' → H' p = some u → CellOk S r' n' H' p c) :
    Le r st.length H (ext r st.length p) (st ++ [c]).length (upd H p u) ∧ Ok S (ext r st.length p) (st ++ [c]) (upd H p u) := by
  have hl : (st ++ [c]).length = st.length + 1 := by simp
  have l : Le r st.length H (ext r st.length p) (st ++ [c]).length (upd H p u) := by
    refine ⟨by omega, fun k hk => ext_lt hk, o.liv, fun b v h ho => ⟨by rw [upd_ne (ne_of_none h hp)]; exact h, fun k hk => ?_⟩⟩
    by_cases e : k = st.length
    · subst e
      rw [ext_same]
      exact (ne_of_none h hp).symm
    · rw [ext_lt (by omega)]
      exact ho k (by omega)
  refine ⟨l, fun j k hj hk e => ?_, fun k c' e => ?_⟩
  · by_cases hj' : j = st.length
    · by_cases hk' : k = st.length
      · omega
      · subst hj'
        rw [ext_same, ext_lt (by omega)] at e
        exact absurd e.symm (o.off_new hp k (by omega))
    · by_cases hk' : k = st.length
      · subst hk'
        rw [ext_same, ext_lt (by omega)] at e
        exact absurd e (o.off_new hp j (by omega))
      · rw [ext_lt (by omega), ext_lt (by omega)] at e
        exact o.inj j k (by omega) (by omega) e
  · by_cases hk : k < st.length
    · rw [List.getElem?_append_left hk] at e
      rw [ext_lt hk]
      exact (o.cel k c' e).mono l fun v h => by rw [upd_ne (ne_of_none h hp)]; exact h
    · have hk2 : k = st.length := by
        have := (List.getElem?_eq_some_iff.mp e).1
        omega
      subst hk2
      have e2 : c = c' := by simpa using e
      subst e2
      rw [ext_same]
      exact hc _ _ _ l upd_same
/-- a live cell is written -/
theorem Ok.write (o : Ok S r st H) {k : Nat} {u : HO} {c : Cell} (hk : k < st.length) (hm : MutO u)
    (hc : ∀ (H' : Hp), Le r st.length H r st.length H' → H' (r k) = some u → CellOk S r st.length H' (r k) c) :
    Le r st.length H r (st.set k c).length (upd H (r k) u) ∧ Ok S r (st.set k c) (upd H (r k) u) := by
  have hl : (st.set k c).length = st.length := by simp
  have l : Le r st.length H r st.length (upd H (r k) u) := ⟨Nat.le_refl _, fun _ _ => rfl, o.liv, fun b v h ho => ⟨by rw [upd_ne (ho k hk).symm]; exact h, ho⟩⟩
  rw [hl]
  refine ⟨l, by rw [hl]; exact o.inj, fun j c' e => ?_⟩
  rw [hl]
  by_cases hj : j = k
  · subst hj
    rw [List.getElem?_set_self hk] at e
    cases e
    exact hc _ l upd_same
  · rw [List.getElem?_set_ne (Ne.symm hj)] at e
    refine (o.cel j c' e).mono l fun v h => ?_
    rw [upd_ne]
    · exact h
    · intro z
      have := (List.getElem?_eq_some_iff.mp e).1
      exact hj (o.inj j k this hk z)
end

/-! ### slots -/
structure EnvOk (S : Stat) (r : Rho) (n : Nat) (H : Hp) (env : En) (σ : St) : Prop where
  len : env.length = σ.length
  at_ : ∀ (i : Nat) (d : D), env[i]? = some (some d) → ∃ v, σ[i]? = some (some v) ∧ Rep S r n H d v
theorem EnvOk.mono {S : Stat} {r r' : Rho} {n n' : Nat} {H H' : Hp} {env : En} {σ : St} (l : Le r n H r' n' H') (h : EnvOk S r n H env σ) : EnvOk S r' n' H' env σ :=
  ⟨h.len, fun i d e => let ⟨v, a, b⟩ := h.at_ i d e; ⟨v, a, Rep.mono l _ _ b⟩⟩
theorem EnvOk.set {S : Stat} {r : Rho} {n : Nat} {H : Hp} {env : En} {σ : St} (h : EnvOk S r n H env σ) {i : Nat} {d : D} {v : V} (hr : Rep S r n H d v) : EnvOk S r n H (env.set i (some d)) (σ.set i (some v)) := by
  refine ⟨by simp [h.len], fun j d' e => ?_⟩
  by_cases hj : i = j
  · subst hj
    by_cases hl : i < env.length
    · rw [List.getElem?_set_self hl] at e
      cases e
      exact ⟨v, by rw [List.getElem?_set_self (by rw [← h.len]; exact hl)], hr⟩
    · rw [List.getElem?_eq_none (by simp; omega)] at e
      cases e
  · rw [List.getElem?_set_ne hj] at e
    rw [List.getElem?_set_ne hj]
    exact h.at_ j d' e
theorem EnvOk.unset {S : Stat} {r : Rho} {n : Nat} {H : Hp} {env : En} {σ : St} (h : EnvOk S r n H env σ) {i : Nat} : EnvOk S r n H (env.set i none) (σ.set i none) := by
  refine ⟨by simp [h.len], fun j d' e => ?_⟩
  by_cases hj : i = j
  · subst hj
    by_cases hl : i < env.length
    · rw [List.getElem?_set_self hl] at e
      cases e
    · rw [List.getElem?_eq_none (by simp; omega)] at e
      cases e
  · rw [List.getElem?_set_ne hj] at e
    rw [List.getElem?_set_ne hj]
    exact h.at_ j d' e

/-! ### readings by functions -/
abbrev EM (α : Type) := En → Sto → Res α
/-- what is wanted behind a result -/
def End (S : Stat) {α β : Type} (R : Rho → Nat → Hp → α → β → Prop) (W : WX) (σ : St) (r : Rho) (n : Nat) (H : Hp) (Q : β → Hp → Prop) : Res α → Prop
  | .ok a st' => ∀ r' H' v, Le r n H r' st'.length H' → Ok S r' st' H' → R r' st'.length H' a v → Q v H'
  | .exc c d st' => ∀ r' H' dx v, Le r n H r' st'.length H' → Ok S r' st' H' → H' dx = some (.xd [(S.EN c, v)]) → Rep S r' st'.length H' d v → W (.ref (S.CA c)) (some dx) σ H'
  | .bad => False
def rd (S : Stat) {α β : Type} (R : Rho → Nat → Hp → α → β → Prop) (W : WX) (f : EM α) : St → Hp → (β → Hp → Prop) → Prop := fun σ H Q =>
  ∃ r env st, Ok S r st H ∧ EnvOk S r st.length H env σ ∧ End S R W σ r st.length H Q (f env st)
def RB : Rho → Nat → Hp → Bool → Bool → Prop := fun _ _ _ a b => b = a
abbrev rdE (S : Stat) (W : WX) (f : EM D) : TE := rd S (Rep S) W f
abbrev rdB (S : Stat) (W : WX) (f : EM Bool) : TT := rd S RB W f
abbrev rdA (S : Stat) (W : WX) (f : EM (List D)) : TA := rd S (RepL S) W f

theorem End.le {S : Stat} {α β : Type} {R : Rho → Nat → Hp → α → β → Prop} {W : WX} {σ : St} {r r1 : Rho} {n n1 : Nat} {H H1 : Hp} {Q : β → Hp → Prop} {x : Res α} (l : Le r n H r1 n1 H1) (h : End S R W σ r n H Q x) : End S R W σ r1 n1 H1 Q x := by
  cases x with
  | ok a st => exact fun r' H' v l' o => h r' H' v (l.trans l') o
  | exc c d st => exact fun r' H' dx v l' o => h r' H' dx v (l.trans l') o
  | bad => exact h
theorem End.imp {S : Stat} {α β : Type} {R : Rho → Nat → Hp → α → β → Prop} {W : WX} {σ : St} {r : Rho} {n : Nat} {H : Hp} {Q Q' : β → Hp → Prop} {x : Res α} (h : End S R W σ r n H Q x) (q : ∀ v H, Q v H → Q' v H) : End S R W σ r n H Q' x := by
  cases x with
  | ok a st => exact fun r' H' v l' o h' => q _ _ (h r' H' v l' o h')
  | exc c d st => exact h
  | bad => exact h
/-- the first of two in a row: what is left is told behind it -/
theorem End.bind {S : Stat} {α β γ δ : Type} {R : Rho → Nat → Hp → α → β → Prop} {R2 : Rho → Nat → Hp → γ → δ → Prop} {W : WX} {σ : St} {r : Rho} {n : Nat} {H : Hp} {Q : δ → Hp → Prop} {Q' : β → Hp → Prop} {x : Res α} {g : α → Sto → Res γ}
    (h : End S R2 W σ r n H Q (x.bind g)) (k : ∀ a st1 r1 H1 v, Le r n H r1 st1.length H1 → Ok S r1 st1 H1 → R r1 st1.length H1 a v → End S R2 W σ r1 st1.length H1 Q (g a st1) → Q' v H1) : End S R W σ r n H Q' x := by
  cases x with
  | ok a st =>
    intro r1 H1 v l o hr
    exact k a st r1 H1 v l o hr (End.le l h)
  | exc c d st => exact h
  | bad => exact h

theorem PE.weak {X : Cx} {e : Expr} {t t' : TE} (h : PE X e t) (k : ∀ σ H Q, t' σ H Q → t σ H Q) : PE X e t' := ⟨fun pins s σ H Q I q => h.run pins s σ H Q I (k σ H Q q)⟩
theorem PT.weak {X : Cx} {e : Expr} {t t' : TT} (h : PT X e t) (k : ∀ σ H Q, t' σ H Q → t σ H Q) : PT X e t' := ⟨fun pins s σ H Q I q => h.run pins s σ H Q I (k σ H Q q)⟩
theorem PW.weak {X : Cx} {e : Expr} {t t' : TT} (h : PW X e t) (k : ∀ σ H Q, t' σ H Q → t σ H Q) : PW X e t' := ⟨fun wh pins s σ H Q I q => h.run wh pins s σ H Q I (k σ H Q q)⟩
theorem PA.weak {X : Cx} {e : List Expr} {t t' : TA} (h : PA X e t) (k : ∀ σ H Q, t' σ H Q → t σ H Q) : PA X e t' := ⟨fun pos pins s σ H Q I q => h.run pos pins s σ H Q I (k σ H Q q)⟩
theorem PS.weak {X : Cx} {e : Stmt} {t t' : TS} (h : PS X e t) (k : ∀ σ H D, t' D σ H → t D σ H) : PS X e t' := ⟨fun pins s σ H Q I q => h.run pins s σ H Q I (k σ H Q q)⟩
theorem PSs.weak {X : Cx} {e : List Stmt} {t t' : TS} (h : PSs X e t) (k : ∀ σ H D, t' D σ H → t D σ H) : PSs X e t' := ⟨fun pins s σ H Q I q => h.run pins s σ H Q I (k σ H Q q)⟩
theorem OpR.weak {X : Cx} {f : Value → Value → Sem Value} {t t' : R2} (h : OpR X f t) (k : ∀ x y H Q, t' x y H Q → t x y H Q) : OpR X f t' := fun pins s σ H x y v u Q I rx ry q => h pins s σ H x y v u Q I rx ry (k _ _ _ _ q)

/-! ### names, constants -/
section
variable {S : Stat} {W : WX} {X : Cx}
def mVar (i : Nat) : EM D := fun env st => match env[i]? with
  | some (some d) => .ok d st
  | _ => .bad
def mC (d : D) : EM D := fun _ st => .ok d st
theorem md_var {i : Nat} : ∀ σ H Q, rdE S W (mVar i) σ H Q → tVar i σ H Q := fun σ H Q h => by
  obtain ⟨r, env, st, o, eo, h⟩ := h
  unfold mVar at h
  split at h
  · rename_i d e
    obtain ⟨v, e1, e2⟩ := eo.at_ i d e
    exact ⟨v, e1, h r H v o.refl o e2⟩
  · exact h.elim
theorem e_var (i : Nat) {x : Str} {pos : Pos} (hN : X.N[i]? = some x := by rfl) (hv : Vis X.env.scope x := by first | exact Or.inl rfl | exact Or.inr (Or.inl rfl) | exact Or.inr (Or.inr rfl)) (hd : (x == ("__debug__" : Str)) = false := by decide)
    (hcd : (x == ("__classdict__" : Str)) = false := by decide) : PE X (.Name x pos) (rdE S W (mVar i)) := PE.weak (pv i hN hv hd hcd) md_var
theorem md_c {d : D} {v : V} (hr : ∀ r n H, Rep S r n H d v) : ∀ σ H Q, rdE S W (mC d) σ H Q → Q v H := fun σ H Q h => by
  obtain ⟨r, env, st, o, eo, h⟩ := h
  exact h r H v o.refl o (hr _ _ _)
theorem e_int {i : Int} {k pos} : PE X (.Constant (.int i) k pos) (rdE S W (mC (.int i))) := PE.weak pe_int (md_c fun _ _ _ => by simp [Rep])
theorem e_str {x k pos} : PE X (.Constant (.str x) k pos) (rdE S W (mC (.str x))) := PE.weak pe_str (md_c fun _ _ _ => by simp [Rep])
theorem e_bl {b k pos} : PE X (.Constant (.bool b) k pos) (rdE S W (mC (.bl b))) := PE.weak pe_bl (md_c fun _ _ _ => by simp [Rep])
theorem e_non {k pos} : PE X (.Constant .none k pos) (rdE S W (mC .non)) := PE.weak pe_non (md_c fun _ _ _ => by simp [Rep])
end
end Cw

/-! Operators, tests, displays, subscripts over plain data. -/
namespace Cw
open PySem L2

abbrev O2 := D → D → Sto → Option (D × Sto)
def pu (f : D → D → Option D) : O2 := fun a b st => match f a b with
  | some d => some (d, st)
  | none => none
/-- what is wanted behind a step that raises nothing -/
def EndO (S : Stat) (r : Rho) (n : Nat) (H : Hp) (Q : VK) : Option (D × Sto) → Prop
  | some (d, st') => ∀ r' H' v, Le r n H r' st'.length H' → Ok S r' st' H' → Rep S r' st'.length H' d v → Q v H'
  | none => False
def r2 (S : Stat) (op : O2) : R2 := fun x y H Q => ∃ r st a b, Ok S r st H ∧ Rep S r st.length H a x ∧ Rep S r st.length H b y ∧ EndO S r st.length H Q (op a b st)
def lift {α : Type} (x : Option (α × Sto)) : Res α := match x with
  | some (d, st) => .ok d st
  | none => .bad
def mBin (op : O2) (fa fb : EM D) : EM D := fun env st => (fa env st).bind fun a st1 => (fb env st1).bind fun b st2 => lift (op a b st2)
def mUn (op : D → Option D) (fa : EM D) : EM D := fun env st => (fa env st).bind fun a st1 => match op a with
  | some d => .ok d st1
  | none => .bad
theorem End.lift {S : Stat} {W : WX} {σ : St} {r : Rho} {n : Nat} {H : Hp} {Q : VK} {x : Option (D × Sto)} (h : End S (Rep S) W σ r n H Q (lift x)) : EndO S r n H Q x := by
  cases x with
  | none => exact h
  | some p => exact h

section
variable {S : Stat} {W : WX} {X : Cx} {a b c : Expr} {fa fb fc : EM D} {op : O2} {pos : Pos}
theorem md_bin : ∀ σ H Q, rdE S W (mBin op fa fb) σ H Q → tOp (r2 S op) (rdE S W fa) (rdE S W fb) σ H Q := fun σ H Q h => by
  obtain ⟨r, env, st, o, eo, h⟩ := h
  refine ⟨r, env, st, o, eo, End.bind h fun da st1 r1 H1 x l1 o1 rx h1 => ⟨r1, env, st1, o1, eo.mono l1, End.bind h1 fun db st2 r2 H2 y l2 o2 ry h2 => ?_⟩⟩
  exact ⟨r2, st2, da, db, o2, Rep.mono l2 _ _ rx, ry, h2.lift⟩
theorem e_bin {o : Operator} (ho : OpR X (binaryOp o) (r2 S op)) (ha : PE X a (rdE S W fa)) (hb : PE X b (rdE S W fb)) : PE X (.BinOp a o b pos) (rdE S W (mBin op fa fb)) := PE.weak (pe_op ho ha hb) md_bin
theorem e_cmp {o : CmpOp} (ho : OpR X (compareOp o) (r2 S op)) (ha : PE X a (rdE S W fa)) (hb : PE X b (rdE S W fb)) (hm : behindInMarks o b = false := by first | exact nomark _ | rfl) : PE X (.Compare a [o] [b] pos) (rdE S W (mBin op fa fb)) :=
  PE.weak (pe_cmpR ho ha hb hm) md_bin
/-- a value that is a bool, as a test -/
def mT (f : EM D) : EM Bool := fun env st => (f env st).bind fun a st1 => match a with
  | .bl b => .ok b st1
  | _ => .bad
theorem md_T {t : TE} (k : ∀ σ H Q, rdE S W fa σ H Q → t σ H Q) : ∀ σ H Q, rdB S W (mT fa) σ H Q → tTest t σ H Q := fun σ H Q h => by
  obtain ⟨r, env, st, o, eo, h⟩ := h
  refine k σ H _ ⟨r, env, st, o, eo, End.bind h fun da st1 r1 H1 x l1 o1 rx h1 => ?_⟩
  cases da with
  | bl b =>
    unfold Rep at rx
    exact ⟨b, rx, h1 r1 H1 b o1.refl o1 rfl⟩
  | _ => exact h1.elim
theorem t_cmp {o : CmpOp} (ho : OpR X (compareOp o) (r2 S op)) (ha : PE X a (rdE S W fa)) (hb : PE X b (rdE S W fb)) (hm : behindInMarks o b = false := by first | exact nomark _ | rfl) : PT X (.Compare a [o] [b] pos) (rdB S W (mT (mBin op fa fb))) :=
  PT.weak (pt_cmpR ho ha hb hm) (md_T md_bin)
theorem t_val {e : Expr} (h : PE X e (rdE S W fa)) (he : ∀ whole, isTrue e X.env whole = (do let v ← whole; standAt e.pos; holding [v] (truthy v)) := by intro _; rfl) : PT X e (rdB S W (mT fa)) :=
  PT.weak (pt_val h he) (md_T fun _ _ _ h => h)
/-- and, or, not of tests -/
def mAndT (f g : EM Bool) : EM Bool := fun env st => (f env st).bind fun c st1 => if c = true then g env st1 else .ok false st1
def mOrT (f g : EM Bool) : EM Bool := fun env st => (f env st).bind fun c st1 => if c = true then .ok true st1 else g env st1
def mNotT (f : EM Bool) : EM Bool := fun env st => (f env st).bind fun c st1 => .ok (!c) st1
section
variable {ga gb : EM Bool} {rest : List Expr}
theorem md_and : ∀ σ H Q, rdB S W (mAndT ga gb) σ H Q → tAnd (rdB S W ga) (rdB S W gb) σ H Q := fun σ H Q h => by
  obtain ⟨r, env, st, o, eo, h⟩ := h
  refine ⟨r, env, st, o, eo, End.bind h fun c st1 r1 H1 x l1 o1 rx h1 => ?_⟩
  obtain rfl : x = c := rx
  cases x with
  | true => exact iteT ⟨r1, env, st1, o1, eo.mono l1, h1⟩
  | false => exact iteF (h1 r1 H1 false o1.refl o1 rfl)
theorem md_or : ∀ σ H Q, rdB S W (mOrT ga gb) σ H Q → tOr (rdB S W ga) (rdB S W gb) σ H Q := fun σ H Q h => by
  obtain ⟨r, env, st, o, eo, h⟩ := h
  refine ⟨r, env, st, o, eo, End.bind h fun c st1 r1 H1 x l1 o1 rx h1 => ?_⟩
  obtain rfl : x = c := rx
  cases x with
  | true => exact iteT (h1 r1 H1 true o1.refl o1 rfl)
  | false => exact iteF ⟨r1, env, st1, o1, eo.mono l1, h1⟩
theorem md_not : ∀ σ H Q, rdB S W (mNotT ga) σ H Q → tNot (rdB S W ga) σ H Q := fun σ H Q h => by
  obtain ⟨r, env, st, o, eo, h⟩ := h
  refine ⟨r, env, st, o, eo, End.bind h fun c st1 r1 H1 x l1 o1 rx h1 => ?_⟩
  obtain rfl : x = c := rx
  exact h1 r1 H1 (!x) o1.refl o1 rfl
theorem w_and1 (ha : PT X a (rdB S W ga)) : PW X (.BoolOp .And [a] pos) (rdB S W ga) := pw_and1 ha
theorem w_or1 (ha : PT X a (rdB S W ga)) : PW X (.BoolOp .Or [a] pos) (rdB S W ga) := pw_or1 ha
theorem w_and (ha : PT X a (rdB S W ga)) (hb : PW X (.BoolOp .And (b :: rest) pos) (rdB S W gb)) : PW X (.BoolOp .And (a :: b :: rest) pos) (rdB S W (mAndT ga gb)) := PW.weak (pw_and ha hb) md_and
theorem w_or (ha : PT X a (rdB S W ga)) (hb : PW X (.BoolOp .Or (b :: rest) pos) (rdB S W gb)) : PW X (.BoolOp .Or (a :: b :: rest) pos) (rdB S W (mOrT ga gb)) := PW.weak (pw_or ha hb) md_or
theorem t_not (ha : PT X a (rdB S W ga)) : PT X (.UnaryOp .Not a pos) (rdB S W (mNotT ga)) := PT.weak (pt_not ha) md_not
end
/-- .. as values: all but the last are bools -/
def mAnd (f g : EM D) : EM D := fun env st => (f env st).bind fun c st1 => match c with
  | .bl true => g env st1
  | .bl false => .ok (.bl false) st1
  | _ => .bad
def mOr (f g : EM D) : EM D := fun env st => (f env st).bind fun c st1 => match c with
  | .bl true => .ok (.bl true) st1
  | .bl false => g env st1
  | _ => .bad
def mNot (f : EM D) : EM D := fun env st => (f env st).bind fun c st1 => match c with
  | .bl b => .ok (.bl (!b)) st1
  | _ => .bad
theorem rep_bl {r : Rho} {n : Nat} {H : Hp} {b : Bool} : Rep S r n H (.bl b) (.bl b) := by simp [Rep]
theorem rep_int {r : Rho} {n : Nat} {H : Hp} {i : Int} : Rep S r n H (.int i) (.int i) := by simp [Rep]
theorem rep_str {r : Rho} {n : Nat} {H : Hp} {i : Str} : Rep S r n H (.str i) (.str i) := by simp [Rep]
theorem rep_non {r : Rho} {n : Nat} {H : Hp} : Rep S r n H .non .non := by simp [Rep]
theorem md_andV : ∀ σ H Q, rdE S W (mAnd fa fb) σ H Q → tAndV (rdE S W fa) (rdE S W fb) σ H Q := fun σ H Q h => by
  obtain ⟨r, env, st, o, eo, h⟩ := h
  refine ⟨r, env, st, o, eo, End.bind h fun c st1 r1 H1 x l1 o1 rx h1 => ?_⟩
  cases c with
  | bl b =>
    unfold Rep at rx
    refine ⟨b, rx, ?_⟩
    cases b with
    | true => exact iteT ⟨r1, env, st1, o1, eo.mono l1, h1⟩
    | false => exact iteF (h1 r1 H1 _ o1.refl o1 rep_bl)
  | _ => exact h1.elim
theorem md_orV : ∀ σ H Q, rdE S W (mOr fa fb) σ H Q → tOrV (rdE S W fa) (rdE S W fb) σ H Q := fun σ H Q h => by
  obtain ⟨r, env, st, o, eo, h⟩ := h
  refine ⟨r, env, st, o, eo, End.bind h fun c st1 r1 H1 x l1 o1 rx h1 => ?_⟩
  cases c with
  | bl b =>
    unfold Rep at rx
    refine ⟨b, rx, ?_⟩
    cases b with
    | true => exact iteT (h1 r1 H1 _ o1.refl o1 rep_bl)
    | false => exact iteF ⟨r1, env, st1, o1, eo.mono l1, h1⟩
  | _ => exact h1.elim
theorem md_notV : ∀ σ H Q, rdE S W (mNot fa) σ H Q → tNotV (rdE S W fa) σ H Q := fun σ H Q h => by
  obtain ⟨r, env, st, o, eo, h⟩ := h
  refine ⟨r, env, st, o, eo, End.bind h fun c st1 r1 H1 x l1 o1 rx h1 => ?_⟩
  cases c with
  | bl b =>
    unfold Rep at rx
    exact ⟨b, rx, h1 r1 H1 _ o1.refl o1 rep_bl⟩
  | _ => exact h1.elim
section
variable {rest : List Expr}
theorem e_one {o} (h : PE X a (rdE S W fa)) : PE X (.BoolOp o [a] pos) (rdE S W fa) := pe_one h
theorem e_and (ha : PE X a (rdE S W fa)) (hb : PE X (.BoolOp .And (b :: rest) pos) (rdE S W fb)) : PE X (.BoolOp .And (a :: b :: rest) pos) (rdE S W (mAnd fa fb)) := PE.weak (pe_and ha hb) md_andV
theorem e_or (ha : PE X a (rdE S W fa)) (hb : PE X (.BoolOp .Or (b :: rest) pos) (rdE S W fb)) : PE X (.BoolOp .Or (a :: b :: rest) pos) (rdE S W (mOr fa fb)) := PE.weak (pe_or ha hb) md_orV
theorem e_not (ha : PE X a (rdE S W fa)) : PE X (.UnaryOp .Not a pos) (rdE S W (mNot fa)) := PE.weak (pe_not ha) md_notV
end
def mIf (t : EM Bool) (f g : EM D) : EM D := fun env st => (t env st).bind fun c st1 => if c = true then f env st1 else g env st1
theorem e_if {t : Expr} {ft : EM Bool} (ht : PT X t (rdB S W ft)) (ha : PE X a (rdE S W fa)) (hb : PE X b (rdE S W fb)) : PE X (.IfExp t a b pos) (rdE S W (mIf ft fa fb)) := PE.weak (pe_ifExp ht ha hb) fun σ H Q h => by
  obtain ⟨r, env, st, o, eo, h⟩ := h
  refine ⟨r, env, st, o, eo, End.bind h fun c st1 r1 H1 x l1 o1 rx h1 => ?_⟩
  obtain rfl : x = c := rx
  cases x with
  | true => exact iteT ⟨r1, env, st1, o1, eo.mono l1, h1⟩
  | false => exact iteF ⟨r1, env, st1, o1, eo.mono l1, h1⟩

/-! ### displays -/
def mNil : EM (List D) := fun _ st => .ok [] st
def mCons (f : EM D) (g : EM (List D)) : EM (List D) := fun env st => (f env st).bind fun a st1 => (g env st1).bind fun l st2 => .ok (a :: l) st2
theorem a_nil : PA X [] (rdA S W mNil) := PA.weak pa_nil fun σ H Q h => by
  obtain ⟨r, env, st, o, eo, h⟩ := h
  exact h r H [] o.refl o RepL.nil
theorem a_cons {es : List Expr} {g : EM (List D)} (ha : PE X a (rdE S W fa)) (hr : PA X es (rdA S W g)) (hs : starEach (a :: es) X.env = (false, eval a X.env) :: starEach es X.env := by rfl) : PA X (a :: es) (rdA S W (mCons fa g)) := PA.weak (pa_cons ha hr hs) fun σ H Q h => by
  obtain ⟨r, env, st, o, eo, h⟩ := h
  refine ⟨r, env, st, o, eo, End.bind h fun c st1 r1 H1 x l1 o1 rx h1 => ⟨r1, env, st1, o1, eo.mono l1, End.bind h1 fun cs st2 r2 H2 xs l2 o2 rxs h2 => ?_⟩⟩
  exact h2 r2 H2 _ o2.refl o2 (RepL.cons (Rep.mono l2 _ _ rx) rxs)
/-- a size that the lists keep -/
def LIM : Nat := 16777216
theorem lim_ok {n : Nat} (h : n ≤ LIM) : n ≤ sizeLine := by rw [sizeLine_eq]; exact h
theorem lim_lt {n : Nat} (h : n < LIM) : n < sizeLine := by rw [sizeLine_eq]; exact h
def mTup (g : EM (List D)) : EM D := fun env st => (g env st).bind fun l st1 => if l.length ≤ LIM then .ok (.tup l) st1 else .bad
/-- a list: data that nobody changes, or (cell) a live cell -/
def mkL (cell : Bool) (l : List D) (st : Sto) : D × Sto := if cell then (.ref st.length, st ++ [.lst l]) else (.lst l, st)
def mLst (cell : Bool) (g : EM (List D)) : EM D := fun env st => (g env st).bind fun l st1 => if l.length ≤ LIM then .ok (mkL cell l st1).1 (mkL cell l st1).2 else .bad
theorem new_tup {r : Rho} {st : Sto} {H : Hp} {l : List D} {xs : List V} {p : Addr} (o : Ok S r st H) (h : RepL S r st.length H l xs) (hp : H p = none) :
    Le r st.length H r st.length (upd H p (.tup xs)) ∧ Ok S r st (upd H p (.tup xs)) ∧ Rep S r st.length (upd H p (.tup xs)) (.tup l) (.ref p) := by
  obtain ⟨l1, o1⟩ := o.fresh (u := .tup xs) hp
  refine ⟨l1, o1, ?_⟩
  unfold Rep
  exact ⟨p, xs, rfl, SqT.of upd_same, RepL.mono l1 _ _ h⟩
theorem new_lst {r : Rho} {st : Sto} {H : Hp} {l : List D} {xs : List V} {p : Addr} (o : Ok S r st H) (h : RepL S r st.length H l xs) (hp : H p = none) :
    Le r st.length H r st.length (upd H p (.lst xs)) ∧ Ok S r st (upd H p (.lst xs)) ∧ Rep S r st.length (upd H p (.lst xs)) (.lst l) (.ref p) := by
  obtain ⟨l1, o1⟩ := o.fresh (u := .lst xs) hp
  refine ⟨l1, o1, ?_⟩
  unfold Rep
  exact ⟨p, xs, rfl, upd_same, o.off_new hp, RepL.mono l1 _ _ h⟩
theorem new_cel {r : Rho} {st : Sto} {H : Hp} {l : List D} {xs : List V} {p : Addr} (o : Ok S r st H) (h : RepL S r st.length H l xs) (hp : H p = none) :
    Le r st.length H (ext r st.length p) (st ++ [Cell.lst l]).length (upd H p (.lst xs)) ∧ Ok S (ext r st.length p) (st ++ [Cell.lst l]) (upd H p (.lst xs)) ∧ Rep S (ext r st.length p) (st ++ [Cell.lst l]).length (upd H p (.lst xs)) (.ref st.length) (.ref p) := by
  obtain ⟨l1, o1⟩ := o.alloc (u := .lst xs) (c := .lst l) hp fun r' n' H' l' e => ⟨xs, e, RepL.mono l' _ _ h⟩
  refine ⟨l1, o1, ?_⟩
  unfold Rep
  exact ⟨by simp, by rw [ext_same]⟩
theorem new_mk {r : Rho} {st : Sto} {H : Hp} {l : List D} {xs : List V} {p : Addr} {cell : Bool} (o : Ok S r st H) (h : RepL S r st.length H l xs) (hp : H p = none) :
    ∃ r', Le r st.length H r' (mkL cell l st).2.length (upd H p (.lst xs)) ∧ Ok S r' (mkL cell l st).2 (upd H p (.lst xs)) ∧ Rep S r' (mkL cell l st).2.length (upd H p (.lst xs)) (mkL cell l st).1 (.ref p) := by
  cases cell with
  | true => exact ⟨_, new_cel o h hp⟩
  | false => exact ⟨_, new_lst o h hp⟩
theorem e_tup {es : List Expr} {g : EM (List D)} {k} (h : PA X es (rdA S W g)) : PE X (.Tuple es k pos) (rdE S W (mTup g)) := PE.weak (pe_tup h) fun σ H Q h => by
  obtain ⟨r, env, st, o, eo, h⟩ := h
  refine ⟨r, env, st, o, eo, End.bind h fun l st1 r1 H1 xs l1 o1 rx h1 => ?_⟩
  split at h1
  · rename_i hl
    refine ⟨by rw [← rx.length]; exact lim_ok hl, fun p hp => ?_⟩
    obtain ⟨a1, a2, a3⟩ := new_tup o1 rx hp
    exact h1 r1 _ _ a1 a2 a3
  · exact h1.elim
theorem e_lst (cell : Bool) {es : List Expr} {g : EM (List D)} (h : PA X es (rdA S W g)) : PE X (.List es pos) (rdE S W (mLst cell g)) := PE.weak (pe_lst h) fun σ H Q h => by
  obtain ⟨r, env, st, o, eo, h⟩ := h
  refine ⟨r, env, st, o, eo, End.bind h fun l st1 r1 H1 xs l1 o1 rx h1 => ?_⟩
  split at h1
  · rename_i hl
    refine ⟨by rw [← rx.length]; exact lim_ok hl, fun p hp => ?_⟩
    obtain ⟨r', a1, a2, a3⟩ := new_mk (cell := cell) o1 rx hp
    exact h1 r' _ _ a1 a2 a3
  · exact h1.elim
end
end Cw

/-! The operators by values. -/
namespace Cw
open PySem L2

/-- a list that may be read: a frozen one, a live cell, the script -/
def seqW (st : Sto) : D → Option (List D)
  | .lst ds => some ds
  | .ref k => match st[k]? with
    | some (.lst ds) => some ds
    | _ => none
  | _ => none
def seqR (st : Sto) : D → Option (List D)
  | .scr ns => some (ns.map D.int)
  | d => seqW st d
section
variable {S : Stat} {r : Rho} {st : Sto} {H : Hp}
theorem seqW_ok (o : Ok S r st H) {d : D} {v : V} {ds : List D} (h : Rep S r st.length H d v) (e : seqW st d = some ds) : ∃ a xs, v = .ref a ∧ H a = some (.lst xs) ∧ RepL S r st.length H ds xs := by
  cases d with
  | lst es =>
    cases e
    unfold Rep at h
    obtain ⟨a, xs, e1, e2, _, e3⟩ := h
    exact ⟨a, xs, e1, e2, e3⟩
  | ref k =>
    unfold Rep at h
    cases q : st[k]? with
    | none => simp [seqW, q] at e
    | some c =>
      cases c with
      | lst es =>
        simp only [seqW, q] at e
        cases e
        obtain ⟨xs, e1, e2⟩ := o.cel k _ q
        exact ⟨_, xs, h.2, e1, e2⟩
      | _ => simp [seqW, q] at e
  | _ => cases e
theorem repL_ints {n : Nat} : ∀ ns : List Int, RepL S r n H (ns.map D.int) (ns.map V.int)
  | [] => RepL.nil
  | i :: ns => RepL.cons rep_int (repL_ints ns)
theorem seqR_ok (o : Ok S r st H) {d : D} {v : V} {ds : List D} (h : Rep S r st.length H d v) (e : seqR st d = some ds) : ∃ a xs, v = .ref a ∧ SqL S.K H a xs ∧ RepL S r st.length H ds xs := by
  cases d with
  | scr ns =>
    cases e
    unfold Rep at h
    obtain ⟨a, e1, e2⟩ := h
    exact ⟨a, _, e1, e2.sql, repL_ints ns⟩
  | lst es =>
    obtain ⟨a, xs, e1, e2, e3⟩ := seqW_ok o h e
    exact ⟨a, xs, e1, SqL.of e2, e3⟩
  | ref k =>
    obtain ⟨a, xs, e1, e2, e3⟩ := seqW_ok o h e
    exact ⟨a, xs, e1, SqL.of e2, e3⟩
  | _ => cases e

/-! ### as the library's data -/
mutual
def toPy : D → Option PyData
  | .non => some .none
  | .bl b => some (.bool b)
  | .int i => some (.int i)
  | .str x => some (.str x)
  | .tup ds => match toPyL ds with
    | some ps => some (.tuple ps)
    | none => none
  | .lst ds => match toPyL ds with
    | some ps => some (.list ps)
    | none => none
  | .scr _ => none
  | .obj _ _ _ => none
  | .ref _ => none
  | .exn _ _ => none
def toPyL : List D → Option (List PyData)
  | [] => some []
  | d :: ds => match toPy d, toPyL ds with
    | some p, some ps => some (p :: ps)
    | _, _ => none
end
mutual
theorem dp_of {n : Nat} : ∀ (d : D) (v : V) (p : PyData), Rep S r n H d v → toPy d = some p → Dp S.K H v p
  | .non, v, p, h, e => by
    unfold Rep at h
    unfold toPy at e
    cases e
    subst h
    exact .non
  | .bl b, v, p, h, e => by
    unfold Rep at h
    unfold toPy at e
    cases e
    subst h
    exact .bl b
  | .int b, v, p, h, e => by
    unfold Rep at h
    unfold toPy at e
    cases e
    subst h
    exact .int b
  | .str b, v, p, h, e => by
    unfold Rep at h
    unfold toPy at e
    cases e
    subst h
    exact .str b
  | .tup ds, v, p, h, e => by
    unfold Rep at h
    obtain ⟨a, xs, rfl, h1, h2⟩ := h
    unfold toPy at e
    split at e
    · rename_i ps q
      cases e
      exact .tup h1 (dpL_of ds xs ps h2 q)
    · cases e
  | .lst ds, v, p, h, e => by
    unfold Rep at h
    obtain ⟨a, xs, rfl, h1, _, h2⟩ := h
    unfold toPy at e
    split at e
    · rename_i ps q
      cases e
      exact .lst (SqL.of h1) (dpL_of ds xs ps h2 q)
    · cases e
  | .scr _, v, p, h, e => by unfold toPy at e; cases e
  | .obj _ _ _, v, p, h, e => by unfold toPy at e; cases e
  | .ref _, v, p, h, e => by unfold toPy at e; cases e
  | .exn _ _, v, p, h, e => by unfold toPy at e; cases e
theorem dpL_of {n : Nat} : ∀ (ds : List D) (vs : List V) (ps : List PyData), RepL S r n H ds vs → toPyL ds = some ps → DpAll S.K H vs ps
  | [], vs, ps, h, e => by
    unfold RepL at h
    unfold toPyL at e
    cases e
    subst h
    exact .nil
  | d :: ds, vs, ps, h, e => by
    unfold RepL at h
    obtain ⟨v, w, rfl, h1, h2⟩ := h
    unfold toPyL at e
    split at e
    · rename_i p qs e1 e2
      cases e
      exact .cons (dp_of d v p h1 e1) (dpL_of ds w qs h2 e2)
    · cases e
end
/-- one live list is followed -/
def pyOf (st : Sto) (d : D) : Option PyData := match d with
  | .ref _ => match seqW st d with
    | some ds => match toPyL ds with
      | some ps => some (.list ps)
      | none => none
    | none => none
  | d => toPy d
theorem pyOf_ok (o : Ok S r st H) {d : D} {v : V} {p : PyData} (h : Rep S r st.length H d v) (e : pyOf st d = some p) : Dp S.K H v p := by
  cases d with
  | ref k =>
    unfold pyOf at e
    split at e
    · split at e
      · rename_i es q
        split at e
        · rename_i ps q2
          cases e
          obtain ⟨a, xs, rfl, h2, h3⟩ := seqW_ok o h q
          exact .lst (SqL.of h2) (dpL_of _ _ _ h3 q2)
        · cases e
      · cases e
    · rename_i hx
      exact (hx k rfl).elim
  | _ => exact dp_of _ _ _ h e
end

/-! ### + - * // % ** -/
def oAdd (cell : Bool) : O2 := fun a b st => match a, b with
  | .int i, .int j => some (.int (i + j), st)
  | .str x, .str y => if x.length + y.length ≤ LIM then some (.str (x ++ y), st) else none
  | .tup xs, .tup ys => if xs.length + ys.length ≤ LIM then some (.tup (xs ++ ys), st) else none
  | a, b => match seqW st a, seqW st b with
    | some xs, some ys => if xs.length + ys.length ≤ LIM then some (mkL cell (xs ++ ys) st) else none
    | _, _ => none
def oSub : O2 := pu fun a b => match a, b with
  | .int i, .int j => some (.int (i - j))
  | _, _ => none
def small64 (i : Int) : Bool := decide (i.natAbs < 18446744073709551616)
theorem small64_iff {i : Int} : small64 i = true ↔ -(2 ^ 64) < i ∧ i < 2 ^ 64 := by
  unfold small64
  rw [decide_eq_true_eq]
  omega
def oFdiv : O2 := pu fun a b => match a, b with
  | .int i, .int j => if 0 < j ∧ j < 1073741824 then some (.int (i / j)) else none
  | _, _ => none
def oMod : O2 := pu fun a b => match a, b with
  | .int i, .int j => if 0 < j then some (.int (i % j)) else none
  | _, _ => none
def oPow : O2 := pu fun a b => match a, b with
  | .int i, .int j => if 0 ≤ j ∧ j ≤ 1000000 ∧ i.natAbs < 2 ^ 64 then some (.int (i ^ j.toNat)) else none
  | _, _ => none
section
variable {S : Stat} {X : Cx}
theorem end_ok {r : Rho} {st : Sto} {H : Hp} {Q : VK} {d : D} {v : V} (o : Ok S r st H) (h : EndO S r st.length H Q (some (d, st))) (hr : Rep S r st.length H d v) : Q v H := h r H v o.refl o hr
theorem or_sub : OpR X (binaryOp .Sub) (r2 S oSub) := OpR.weak op_sub fun x y H Q h => by
  obtain ⟨r, st, a, b, o, ra, rb, h⟩ := h
  cases a <;> cases b <;> first | exact h.elim | skip
  rename_i i j
  unfold Rep at ra rb
  exact ⟨i, j, ra, rb, end_ok o h rep_int⟩
theorem or_fdiv : OpR X (binaryOp .FloorDiv) (r2 S oFdiv) := OpR.weak op_fdiv fun x y H Q h => by
  obtain ⟨r, st, a, b, o, ra, rb, h⟩ := h
  cases a <;> cases b <;> first | exact h.elim | skip
  rename_i i j
  unfold Rep at ra rb
  unfold oFdiv pu at h
  by_cases hc : 0 < j ∧ j < 1073741824
  · simp only [if_pos hc] at h
    exact ⟨i, j, ra, rb, hc, end_ok o h rep_int⟩
  · simp only [if_neg hc] at h
    exact h.elim
theorem or_mod : OpR X (binaryOp .Mod) (r2 S oMod) := OpR.weak op_mod fun x y H Q h => by
  obtain ⟨r, st, a, b, o, ra, rb, h⟩ := h
  cases a <;> cases b <;> first | exact h.elim | skip
  rename_i i j
  unfold Rep at ra rb
  unfold oMod pu at h
  by_cases hc : 0 < j
  · simp only [if_pos hc] at h
    exact ⟨i, j, ra, rb, hc, end_ok o h rep_int⟩
  · simp only [if_neg hc] at h
    exact h.elim
theorem or_pow : OpR X (binaryOp .Pow) (r2 S oPow) := OpR.weak op_pow fun x y H Q h => by
  obtain ⟨r, st, a, b, o, ra, rb, h⟩ := h
  cases a <;> cases b <;> first | exact h.elim | skip
  rename_i i j
  unfold Rep at ra rb
  unfold oPow pu at h
  by_cases hc : 0 ≤ j ∧ j ≤ 1000000 ∧ i.natAbs < 2 ^ 64
  · simp only [if_pos hc] at h
    exact ⟨i, j, ra, rb, hc, end_ok o h rep_int⟩
  · simp only [if_neg hc] at h
    exact h.elim
theorem add_lst (cell : Bool) {r : Rho} {st : Sto} {H : Hp} {Q : VK} {a b : D} {x y : V} (o : Ok S r st H) (ra : Rep S r st.length H a x) (rb : Rep S r st.length H b y)
    (h : EndO S r st.length H Q (match seqW st a, seqW st b with
      | some xs, some ys => if xs.length + ys.length ≤ LIM then some (mkL cell (xs ++ ys) st) else none
      | _, _ => none)) : rCat x y H Q := by
  split at h
  · rename_i xs ys e1 e2
    obtain ⟨p, us, rfl, hp, hx⟩ := seqW_ok o ra e1
    obtain ⟨q, ws, rfl, hq, hy⟩ := seqW_ok o rb e2
    split at h
    · rename_i hl
      refine ⟨p, q, us, ws, rfl, rfl, hp, hq, by rw [← hx.length, ← hy.length]; exact lim_ok hl, fun l hl => ?_⟩
      obtain ⟨r', a1, a2, a3⟩ := new_mk (cell := cell) o (hx.append hy) hl
      exact h r' _ _ a1 a2 a3
    · exact h.elim
  · exact h.elim
theorem or_add (cell : Bool) (hK : X.K = S.K := by rfl) : OpR X (binaryOp .Add) (r2 S (oAdd cell)) := by
  intro pins s σ H x y v u Q I rx ry h
  obtain ⟨r, st, a, b, o, ra, rb, h⟩ := h
  have lists := fun h' => op_cat pins s σ H x y v u Q I rx ry (add_lst (S := S) (r := r) (st := st) (a := a) (b := b) cell o ra rb h')
  cases a with
  | int i =>
    cases b with
    | int j =>
      unfold Rep at ra rb
      exact op_add pins s σ H x y v u Q I rx ry ⟨i, j, ra, rb, end_ok o h rep_int⟩
    | _ => exact lists h
  | str i =>
    cases b with
    | str j =>
      unfold Rep at ra rb
      by_cases hc : i.length + j.length ≤ LIM
      · simp only [oAdd, if_pos hc] at h
        exact op_add_str pins s σ H x y v u Q I rx ry ⟨i, j, ra, rb, lim_ok hc, end_ok o h rep_str⟩
      · simp only [oAdd, if_neg hc] at h
        exact h.elim
    | _ => exact lists h
  | tup i =>
    cases b with
    | tup j =>
      by_cases hc : i.length + j.length ≤ LIM
      · simp only [oAdd, if_pos hc] at h
        have ra' := ra
        have rb' := rb
        unfold Rep at ra rb
        obtain ⟨p, us, rfl, hp, hx⟩ := ra
        obtain ⟨q, ws, rfl, hq, hy⟩ := rb
        refine op_catA pins s σ H _ _ v u Q I rx ry ⟨p, q, us, ws, rfl, rfl, by rw [hK]; exact hp, by rw [hK]; exact hq, by rw [← hx.length, ← hy.length]; exact lim_ok hc, fun e => ?_, fun _ e => ?_, fun _ _ l hl => ?_⟩
        · have e2 : i = [] := by
            have := hx.length
            rw [e] at this
            exact List.length_eq_zero_iff.mp this
          subst e2
          exact end_ok o h rb'
        · have e2 : j = [] := by
            have := hy.length
            rw [e] at this
            exact List.length_eq_zero_iff.mp this
          subst e2
          rw [List.append_nil] at h
          exact end_ok o h ra'
        · obtain ⟨a1, a2, a3⟩ := new_tup o (hx.append hy) hl
          exact h r _ _ a1 a2 a3
      · simp only [oAdd, if_neg hc] at h
        exact h.elim
    | _ => exact lists h
  | _ => exact lists h

/-! ### products -/
def oMul : O2 := pu fun a b => match a, b with
  | .int i, .int j => if (small64 i || small64 j) = true then some (.int (i * j)) else none
  | _, _ => none
theorem or_mul : OpR X (binaryOp .Mult) (r2 S oMul) := OpR.weak op_mul fun x y H Q h => by
  obtain ⟨r, st, a, b, o, ra, rb, h⟩ := h
  cases a <;> cases b <;> first | exact h.elim | skip
  rename_i i j
  unfold Rep at ra rb
  unfold oMul pu at h
  by_cases hc : (small64 i || small64 j) = true
  · simp only [if_pos hc] at h
    refine ⟨i, j, ra, rb, ?_, end_ok o h rep_int⟩
    simp only [Bool.or_eq_true, small64_iff] at hc
    exact hc
  · simp only [if_neg hc] at h
    exact h.elim
/-! ### comparisons -/
def oCmp (f : Int → Int → Bool) : O2 := pu fun a b => match a, b with
  | .int i, .int j => some (.bl (f i j))
  | _, _ => none
theorem or_cmp {o : CmpOp} {f : Int → Int → Bool} (h0 : OpR X (compareOp o) (rI0 fun i j => .bl (f i j))) : OpR X (compareOp o) (r2 S (oCmp f)) := OpR.weak h0 fun x y H Q h => by
  obtain ⟨r, st, a, b, o, ra, rb, h⟩ := h
  cases a <;> cases b <;> first | exact h.elim | skip
  rename_i i j
  unfold Rep at ra rb
  exact ⟨i, j, ra, rb, end_ok o h rep_bl⟩
def oLt : O2 := oCmp fun i j => decide (i < j)
def oLe : O2 := oCmp fun i j => decide (i ≤ j)
def oGt : O2 := oCmp fun i j => decide (j < i)
def oGe : O2 := oCmp fun i j => decide (j ≤ i)
theorem or_lt : OpR X (compareOp .Lt) (r2 S oLt) := or_cmp op_lt
theorem or_le : OpR X (compareOp .LtE) (r2 S oLe) := or_cmp op_le
theorem or_gt : OpR X (compareOp .Gt) (r2 S oGt) := or_cmp op_gt
theorem or_ge : OpR X (compareOp .GtE) (r2 S oGe) := or_cmp op_ge
/-- == of data: scalars by themselves, else what the library reads -/
def eqD (st : Sto) (a b : D) : Option Bool := match a, b with
  | .int i, .int j => some (decide (i = j))
  | .str x, .str y => some (decide (x = y))
  | .bl x, .bl y => some (decide (x = y))
  | .non, .non => some true
  | .non, .int _ => some false
  | .int _, .non => some false
  | .non, .str _ => some false
  | .str _, .non => some false
  | .int _, .str _ => some false
  | .str _, .int _ => some false
  | a, b => match pyOf st a, pyOf st b with
    | some p, some q => if (SeqAt.shaped p && SeqAt.shaped q) = true then some (PyData.eqv p q) else none
    | _, _ => none
def oEq (neg : Bool) : O2 := fun a b st => match eqD st a b with
  | some c => some (.bl (if neg then !c else c), st)
  | none => none
theorem shp2 {p q : PyData} (h : (SeqAt.shaped p && SeqAt.shaped q) = true) : SeqAt.shaped p = true ∧ SeqAt.shaped q = true := by simpa using h
theorem eq_gen {r : Rho} {st : Sto} {H : Hp} {a b : D} {x y : V} {c : Bool} (hK : X.K = S.K) (o : Ok S r st H) (ra : Rep S r st.length H a x) (rb : Rep S r st.length H b y)
    (h : (match pyOf st a, pyOf st b with
      | some p, some q => if (SeqAt.shaped p && SeqAt.shaped q) = true then some (PyData.eqv p q) else none
      | _, _ => none) = some c) : ∃ d e, Dp X.K H x d ∧ Dp X.K H y e ∧ SeqAt.shaped d = true ∧ SeqAt.shaped e = true ∧ PyData.eqv d e = c := by
  split at h
  · rename_i p q e1 e2
    split at h
    · rename_i hs
      cases h
      rw [hK]
      exact ⟨p, q, pyOf_ok o ra e1, pyOf_ok o rb e2, (shp2 hs).1, (shp2 hs).2, rfl⟩
    · cases h
  · cases h
theorem eq_or {r : Rho} {st : Sto} {H : Hp} {a b : D} {x y : V} {c : Bool} (hK : X.K = S.K) (o : Ok S r st H) (ra : Rep S r st.length H a x) (rb : Rep S r st.length H b y) (h : eqD st a b = some c) :
    (scal x y = true ∧ decide (x = y) = c) ∨ ∃ d e, Dp X.K H x d ∧ Dp X.K H y e ∧ SeqAt.shaped d = true ∧ SeqAt.shaped e = true ∧ PyData.eqv d e = c := by
  cases a <;> cases b <;> first
    | exact .inr (eq_gen hK o ra rb h)
    | (unfold Rep at ra rb
       subst ra rb
       simp only [eqD, Option.some.injEq] at h
       subst h
       refine .inl ⟨rfl, ?_⟩
       simp)
theorem or_eq (hu : X.A.units + 64 < cLine) (hK : X.K = S.K := by rfl) : OpR X (compareOp .Eq) (r2 S (oEq false)) := by
  intro pins s σ H x y v u Q I rx ry h
  obtain ⟨r, st, a, b, o, ra, rb, h⟩ := h
  unfold oEq at h
  cases q : eqD st a b with
  | none => simp only [q] at h; exact h.elim
  | some c =>
    simp only [q] at h
    have k := end_ok o h (v := .bl c) rep_bl
    rcases eq_or hK o ra rb q with ⟨h1, h2⟩ | ⟨d, e, h1, h2, h3, h4, h5⟩
    · exact op_eq pins s σ H x y v u Q I rx ry ⟨h1, by rw [h2]; exact k⟩
    · exact op_eqD hu pins s σ H x y v u Q I rx ry ⟨d, e, h1, h2, h3, h4, by rw [h5]; exact k⟩
theorem or_ne (hu : X.A.units + 64 < cLine) (hK : X.K = S.K := by rfl) : OpR X (compareOp .NotEq) (r2 S (oEq true)) := by
  intro pins s σ H x y v u Q I rx ry h
  obtain ⟨r, st, a, b, o, ra, rb, h⟩ := h
  unfold oEq at h
  cases q : eqD st a b with
  | none => simp only [q] at h; exact h.elim
  | some c =>
    simp only [q] at h
    have k := end_ok o h (v := .bl (!c)) rep_bl
    rcases eq_or hK o ra rb q with ⟨h1, h2⟩ | ⟨d, e, h1, h2, h3, h4, h5⟩
    · exact op_ne pins s σ H x y v u Q I rx ry ⟨h1, by rw [h2]; exact k⟩
    · exact op_neD hu pins s σ H x y v u Q I rx ry ⟨d, e, h1, h2, h3, h4, by rw [h5]; exact k⟩
/-! ### is None -/
def mIsN (neg : Bool) (fa : EM D) : EM D := fun env st => (fa env st).bind fun a st1 => .ok (.bl (match a with
  | .non => !neg
  | _ => neg)) st1
theorem isN_rep {r : Rho} {n : Nat} {H : Hp} {d : D} {v : V} (h : Rep S r n H d v) : decide (v = .non) = (match d with
  | .non => true
  | _ => false) := by
  cases d <;> unfold Rep at h
  case non => subst h; rfl
  case bl b => subst h; rfl
  case int b => subst h; rfl
  case str b => subst h; rfl
  case tup b => obtain ⟨_, _, rfl, _⟩ := h; rfl
  case lst b => obtain ⟨_, _, rfl, _⟩ := h; rfl
  case scr b => obtain ⟨_, rfl, _⟩ := h; rfl
  case obj b => obtain ⟨_, _, _, rfl, _⟩ := h; rfl
  case ref b => obtain ⟨_, rfl⟩ := h; rfl
  case exn b => obtain ⟨_, _, _, _, rfl, _⟩ := h; rfl
section
variable {W : WX} {a : Expr} {fa : EM D} {pos p1 : Pos}
theorem md_isN : ∀ σ H Q, rdE S W (mIsN false fa) σ H Q → tOp (fun x y H Q => y = .non ∧ Q (.bl (decide (x = .non))) H) (rdE S W fa) (fun _ H Q => Q .non H) σ H Q := fun σ H Q h => by
  obtain ⟨r, env, st, o, eo, h⟩ := h
  refine ⟨r, env, st, o, eo, End.bind h fun da st1 r1 H1 x l1 o1 rx h1 => ⟨rfl, ?_⟩⟩
  refine h1 r1 H1 _ o1.refl o1 ?_
  rw [isN_rep rx]
  cases da <;> exact rep_bl
theorem md_notN : ∀ σ H Q, rdE S W (mIsN true fa) σ H Q → tOp (fun x y H Q => y = .non ∧ Q (.bl (!decide (x = .non))) H) (rdE S W fa) (fun _ H Q => Q .non H) σ H Q := fun σ H Q h => by
  obtain ⟨r, env, st, o, eo, h⟩ := h
  refine ⟨r, env, st, o, eo, End.bind h fun da st1 r1 H1 x l1 o1 rx h1 => ⟨rfl, ?_⟩⟩
  refine h1 r1 H1 _ o1.refl o1 ?_
  rw [isN_rep rx]
  cases da <;> exact rep_bl
theorem e_isN {k} (ha : PE X a (rdE S W fa)) : PE X (.Compare a [.Is] [.Constant .none k p1] pos) (rdE S W (mIsN false fa)) := PE.weak (pe_cmpR op_isN ha pe_non (nomark _)) md_isN
theorem e_notN {k} (ha : PE X a (rdE S W fa)) : PE X (.Compare a [.IsNot] [.Constant .none k p1] pos) (rdE S W (mIsN true fa)) := PE.weak (pe_cmpR op_notN ha pe_non (nomark _)) md_notN
theorem t_isN {k} (ha : PE X a (rdE S W fa)) : PT X (.Compare a [.Is] [.Constant .none k p1] pos) (rdB S W (mT (mIsN false fa))) := PT.weak (pt_cmpR op_isN ha pe_non (nomark _)) (md_T md_isN)
theorem t_notN {k} (ha : PE X a (rdE S W fa)) : PT X (.Compare a [.IsNot] [.Constant .none k p1] pos) (rdB S W (mT (mIsN true fa))) := PT.weak (pt_cmpR op_notN ha pe_non (nomark _)) (md_T md_notN)
end
/-! ### a op b op c -/
def mChain (o1 o2 : O2) (fa fb fc : EM D) : EM D := fun env st => (fa env st).bind fun a st1 => (fb env st1).bind fun b st2 => (lift (o1 a b st2)).bind fun z st3 => match z with
  | .bl true => (fc env st3).bind fun c st4 => lift (o2 b c st4)
  | .bl false => .ok (.bl false) st3
  | _ => .bad
section
variable {W : WX} {a b c : Expr} {fa fb fc : EM D} {pos : Pos} {p1 p2 : O2}
theorem EndO.of_lift {σ : St} {r : Rho} {n : Nat} {H : Hp} {Q Q' : VK} {x : Option (D × Sto)} {g : D → Sto → Res D} (h : End S (Rep S) W σ r n H Q ((lift x).bind g))
    (k : ∀ d st' r' H' v, Le r n H r' st'.length H' → Ok S r' st' H' → Rep S r' st'.length H' d v → End S (Rep S) W σ r' st'.length H' Q (g d st') → Q' v H') : EndO S r n H Q' x := by
  cases x with
  | none => exact h
  | some p =>
    obtain ⟨d, st'⟩ := p
    intro r' H' v l o hr
    exact k d st' r' H' v l o hr (End.le l h)
theorem md_chain : ∀ σ H Q, rdE S W (mChain p1 p2 fa fb fc) σ H Q → tChain (r2 S p1) (r2 S p2) (rdE S W fa) (rdE S W fb) (rdE S W fc) σ H Q := fun σ H Q h => by
  obtain ⟨r, env, st, o, eo, h⟩ := h
  refine ⟨r, env, st, o, eo, End.bind h fun da st1 r1 H1 x l1 o1 rx h1 => ⟨r1, env, st1, o1, eo.mono l1, End.bind h1 fun db st2 r2 H2 y l2 o2 ry h2 => ?_⟩⟩
  refine ⟨r2, st2, da, db, o2, Rep.mono l2 _ _ rx, ry, EndO.of_lift h2 fun z st3 r3 H3 v l3 o3 rz h3 => ?_⟩
  cases z with
  | bl k =>
    unfold Rep at rz
    refine ⟨k, rz, ?_⟩
    cases k with
    | true => exact iteT ⟨r3, env, st3, o3, (eo.mono (l1.trans (l2.trans l3))), End.bind h3 fun dc st4 r4 H4 w l4 o4 rw' h4 => ⟨r4, st4, db, dc, o4, Rep.mono (l3.trans l4) _ _ ry, rw', h4.lift⟩⟩
    | false => exact iteF (h3 r3 H3 _ o3.refl o3 rep_bl)
  | _ => exact h3.elim
theorem e_chain {o1 o2 : CmpOp} (h1 : OpR X (compareOp o1) (r2 S p1)) (h2 : OpR X (compareOp o2) (r2 S p2)) (ha : PE X a (rdE S W fa)) (hb : PE X b (rdE S W fb)) (hc : PE X c (rdE S W fc)) (hm : lastMarks [o1, o2] [b, c] = false := by with_unfolding_all rfl) :
    PE X (.Compare a [o1, o2] [b, c] pos) (rdE S W (mChain p1 p2 fa fb fc)) := PE.weak (pe_chain h1 h2 ha hb hc hm) md_chain
theorem t_chain {o1 o2 : CmpOp} (h1 : OpR X (compareOp o1) (r2 S p1)) (h2 : OpR X (compareOp o2) (r2 S p2)) (ha : PE X a (rdE S W fa)) (hb : PE X b (rdE S W fb)) (hc : PE X c (rdE S W fc)) (hm : lastMarks [o1, o2] [b, c] = false := by with_unfolding_all rfl) :
    PT X (.Compare a [o1, o2] [b, c] pos) (rdB S W (mT (mChain p1 p2 fa fb fc))) := PT.weak (pt_chain h1 h2 ha hb hc hm) (md_T md_chain)
end
end
end Cw

/-! Subscripts, slices, built-in calls of one or two values, membership, isinstance. -/
namespace Cw
open PySem L2

section
variable {S : Stat} {X : Cx} {W : WX}
/-! ### items -/
theorem atI_rep {r : Rho} {n : Nat} {H : Hp} {ds : List D} {xs : List V} {i : Int} {d : D} (h : RepL S r n H ds xs) (e : atI ds i = some d) : ∃ v, atI xs i = some v ∧ Rep S r n H d v := by
  unfold atI at e ⊢
  rw [← h.length]
  cases q : ixN ds.length i with
  | none => rw [q] at e; cases e
  | some j =>
    rw [q] at e
    exact h.get e
def oIx : O2 := fun a b st => match a, b with
  | .tup ds, .int i => match atI ds i with
    | some d => some (d, st)
    | none => none
  | .str z, .int i => if z.length ≤ LIM then match atI z.cps.toList i with
    | some c => some (.str ⟨#[c]⟩, st)
    | none => none else none
  | a, .int i => match seqR st a with
    | some ds => match atI ds i with
      | some d => some (d, st)
      | none => none
    | none => none
  | _, _ => none
theorem ix_all (hK : X.K = S.K := by rfl) : IxR X (r2 S oIx) := by
  intro value slice pins s σ H x y v u Q I rx ry h hs
  refine ix_seq value slice pins s σ H x y v u Q I rx ry ?_ hs
  obtain ⟨r, st, a, b, o, ra, rb, h⟩ := h
  have rb' := rb
  cases b with
  | int i =>
    unfold Rep at rb
    have lists : (match seqR st a with
        | some ds => match atI ds i with
          | some d => some (d, st)
          | none => none
        | none => none) = oIx a (.int i) st → rIx X.K x y H Q := fun e => by
      rw [← e] at h
      cases q : seqR st a with
      | none => simp only [q] at h; exact h.elim
      | some ds =>
        simp only [q] at h
        cases q2 : atI ds i with
        | none => simp only [q2] at h; exact h.elim
        | some d =>
          simp only [q2] at h
          obtain ⟨p, xs, e1, e2, e3⟩ := seqR_ok o ra q
          obtain ⟨w, e4, e5⟩ := atI_rep e3 q2
          exact .inl ⟨p, xs, i, w, e1, rb, by rw [hK]; exact e2, e4, end_ok o h e5⟩
    cases a with
    | tup ds =>
      simp only [oIx] at h
      cases q2 : atI ds i with
      | none => simp only [q2] at h; exact h.elim
      | some d =>
        simp only [q2] at h
        unfold Rep at ra
        obtain ⟨p, xs, e1, e2, e3⟩ := ra
        obtain ⟨w, e4, e5⟩ := atI_rep e3 q2
        exact .inr (.inl ⟨p, xs, i, w, e1, rb, by rw [hK]; exact e2, e4, end_ok o h e5⟩)
    | str z =>
      simp only [oIx] at h
      unfold Rep at ra
      by_cases hl : z.length ≤ LIM
      · simp only [if_pos hl] at h
        cases q2 : atI z.cps.toList i with
        | none => simp only [q2] at h; exact h.elim
        | some c =>
          simp only [q2] at h
          exact .inr (.inr ⟨z, i, c, ra, rb, lim_ok hl, q2, end_ok o h rep_str⟩)
      · simp only [if_neg hl] at h; exact h.elim
    | _ => exact lists rfl
  | _ => cases a <;> exact h.elim
theorem e_ix {a b : Expr} {fa fb : EM D} {pos : Pos} (ha : PE X a (rdE S W fa)) (hb : PE X b (rdE S W fb)) (hs : PlainIx b := by exact fun _ _ => rfl) (hK : X.K = S.K := by rfl) : PE X (.Subscript a b pos) (rdE S W (mBin oIx fa fb)) :=
  PE.weak (pe_ix (ix_all hK) ha hb hs) md_bin

/-! ### slices -/
def RO : Rho → Nat → Hp → Option Int → Option Int → Prop := fun _ _ _ a b => b = a
abbrev rdO (S : Stat) (W : WX) (f : EM (Option Int)) : TO := rd S RO W f
def mNoP : EM (Option Int) := fun _ st => .ok none st
def mPart (f : EM D) : EM (Option Int) := fun env st => (f env st).bind fun a st1 => match a with
  | .int i => .ok (some i) st1
  | _ => .bad
theorem PO.weak {e : Option Expr} {t t' : TO} (h : PO X e t) (k : ∀ σ H Q, t' σ H Q → t σ H Q) : PO X e t' := ⟨fun pins s σ H Q I q => h.run pins s σ H Q I (k σ H Q q)⟩
theorem o_none : PO X none (rdO S W mNoP) := PO.weak po_none fun σ H Q h => by
  obtain ⟨r, env, st, o, eo, h⟩ := h
  exact h r H none o.refl o rfl
theorem o_some {e : Expr} {fa : EM D} (h : PE X e (rdE S W fa)) : PO X (some e) (rdO S W (mPart fa)) := PO.weak (po_some h) fun σ H Q h => by
  obtain ⟨r, env, st, o, eo, h⟩ := h
  refine ⟨r, env, st, o, eo, End.bind h fun da st1 r1 H1 x l1 o1 rx h1 => ?_⟩
  cases da with
  | int i =>
    unfold Rep at rx
    exact ⟨i, rx, h1 r1 H1 _ o1.refl o1 rfl⟩
  | _ => exact h1.elim
def cutD {α : Type} (xs : List α) (lo hi : Option Int) : List α := (xs.drop (HT.sIx xs.length 0 lo)).take (HT.sIx xs.length xs.length hi - HT.sIx xs.length 0 lo)
theorem cut_rep {r : Rho} {n : Nat} {H : Hp} {ds : List D} {xs : List V} {lo hi : Option Int} (h : RepL S r n H ds xs) : RepL S r n H (cutD ds lo hi) (cutV xs lo hi) := by
  unfold cutD cutV
  rw [h.length]
  exact (h.drop _).take _
theorem cut_len {α : Type} (xs : List α) (lo hi : Option Int) : (cutD xs lo hi).length ≤ xs.length := by
  unfold cutD
  rw [List.length_take, List.length_drop]
  omega
theorem cut_whole {α : Type} {xs : List α} {lo hi : Option Int} (h : HT.sIx xs.length 0 lo = 0 ∧ HT.sIx xs.length xs.length hi = xs.length) : cutD xs lo hi = xs := by
  unfold cutD
  rw [h.1, h.2]
  simp
def oSl (cell : Bool) (d : D) (lo hi : Option Int) (st : Sto) : Option (D × Sto) := match d with
  | .tup ds => some (.tup (cutD ds lo hi), st)
  | .str z => if z.length ≤ LIM then some (.str (cutS z lo hi), st) else none
  | d => match seqR st d with
    | some ds => some (mkL cell (cutD ds lo hi) st)
    | none => none
def mSlice (cell : Bool) (fa : EM D) (fl fh : EM (Option Int)) : EM D := fun env st => (fa env st).bind fun a st1 => (fl env st1).bind fun l st2 => (fh env st2).bind fun h st3 => lift (oSl cell a l h st3)
theorem e_slice (cell : Bool) {e : Expr} {lo hi : Option Expr} {fa : EM D} {fl fh : EM (Option Int)} {pos p2 : Pos} (he : PE X e (rdE S W fa)) (hl : PO X lo (rdO S W fl)) (hu : PO X hi (rdO S W fh)) (hK : X.K = S.K := by rfl) :
    PE X (.Subscript e (.Slice lo hi none p2) pos) (rdE S W (mSlice cell fa fl fh)) := by
  refine PE.weak (pe_slice (sl_list.or (sl_tupA.or sl_str)) he hl hu) fun σ H Q h => ?_
  obtain ⟨r, env, st, o, eo, h⟩ := h
  refine ⟨r, env, st, o, eo, End.bind h fun d st1 r1 H1 x l1 o1 rx h1 => ⟨r1, env, st1, o1, eo.mono l1, End.bind h1 fun i st2 r2 H2 i' l2 o2 ei h2 => ⟨r2, env, st2, o2, eo.mono (l1.trans l2), End.bind h2 fun j st3 r3 H3 j' l3 o3 ej h3 => ?_⟩⟩⟩
  have ei : i' = i := ei
  have ej : j' = j := ej
  subst ei ej
  have h4 := h3.lift
  have rx3 := Rep.mono (l2.trans l3) _ _ rx
  have lists : ∀ ds, seqR st3 d = some ds → EndO S r3 st3.length H3 Q (some (mkL cell (cutD ds i' j') st3)) → rSlL X.K x i' j' H3 Q := fun ds q h => by
    obtain ⟨p, xs, e1, e2, e3⟩ := seqR_ok o3 rx3 q
    refine ⟨p, xs, e1, by rw [hK]; exact e2, fun l hl => ?_⟩
    obtain ⟨r', a1, a2, a3⟩ := new_mk (cell := cell) o3 (cut_rep (lo := i') (hi := j') e3) hl
    exact h r' _ _ a1 a2 a3
  cases d with
  | tup ds =>
    refine .inr (.inl ?_)
    simp only [oSl] at h4
    have rx4 := rx3
    unfold Rep at rx4
    obtain ⟨p, xs, e1, e2, e3⟩ := rx4
    refine ⟨p, xs, e1, by rw [hK]; exact e2, fun hw => ?_, fun _ q hq => ?_⟩
    · rw [← e3.length] at hw
      rw [cut_whole hw] at h4
      rw [← e1]
      exact end_ok o3 h4 rx3
    · obtain ⟨a1, a2, a3⟩ := new_tup o3 (cut_rep (lo := i') (hi := j') e3) hq
      exact h4 r3 _ _ a1 a2 a3
  | str z =>
    refine .inr (.inr ?_)
    simp only [oSl] at h4
    unfold Rep at rx3
    by_cases hz : z.length ≤ LIM
    · simp only [if_pos hz] at h4
      exact ⟨z, rx3, lim_ok hz, end_ok o3 h4 rep_str⟩
    · simp only [if_neg hz] at h4; exact h4.elim
  | lst ds => exact .inl (lists ds rfl h4)
  | scr ns => exact .inl (lists _ rfl h4)
  | ref k =>
    cases q : seqR st3 (.ref k) with
    | none => simp only [oSl, q] at h4; exact h4.elim
    | some ds => simp only [oSl, q] at h4; exact .inl (lists ds q h4)
  | _ => exact h4.elim

/-! ### built-ins of one value -/
abbrev O1 := D → Sto → Option (D × Sto)
def c1 (S : Stat) (op : O1) : List V → Hp → VK → Prop := fun xs H Q => ∃ r st d v, xs = [v] ∧ Ok S r st H ∧ Rep S r st.length H d v ∧ EndO S r st.length H Q (op d st)
def m1 (op : O1) (fa : EM D) : EM D := fun env st => (fa env st).bind fun a st1 => lift (op a st1)
theorem CallR.weak {f : Value} {t t' : List V → Hp → VK → Prop} (h : CallR X f t) (k : ∀ x H Q, t' x H Q → t x H Q) : CallR X f t' := fun pins s σ H xs us Q I r q => h pins s σ H xs us Q I r (k _ _ _ q)
theorem md_1 {op : O1} {fa : EM D} : ∀ σ H Q, rdE S W (m1 op fa) σ H Q → tCB (c1 S op) (tCons (rdE S W fa) tNil) σ H Q := fun σ H Q h => by
  obtain ⟨r, env, st, o, eo, h⟩ := h
  refine ⟨r, env, st, o, eo, End.bind h fun d st1 r1 H1 x l1 o1 rx h1 => ?_⟩
  exact ⟨r1, st1, d, x, rfl, o1, rx, h1.lift⟩
theorem e_callB1 {op : O1} {id : String} {x : Str} {a : Expr} {fa : EM D} {p pos : Pos} (hc : CallR X (.builtin id) (c1 S op)) (hm : X.mg x = none) (ha : PE X a (rdE S W fa)) (hv : bootBuiltins x = some (.builtin id) := by decide +kernel) (hg : Gl X x := by rfl)
    (hn : x ≠ "__name__" := by decide) (hdb : (x == ("__debug__" : Str)) = false := by decide) (he : starEach [a] X.env = (false, eval a X.env) :: starEach [] X.env := by rfl) (hpl : (backTo pos (starEach [] X.env)).any (·.1) = false := by rfl) :
    PE X (.Call (.Name x p) [a] [] pos) (rdE S W (m1 op fa)) := PE.weak (pe_callB hc hg hm hv (pa_cons ha pa_nil he) hn hdb he hpl) md_1
theorem e_callT1 {op : O1} {T : String} {x : Str} {a : Expr} {fa : EM D} {p pos : Pos} (hc : CallR X (.type T) (c1 S op)) (hm : X.mg x = none) (ha : PE X a (rdE S W fa)) (hv : bootBuiltins x = some (.type T) := by decide +kernel) (hg : Gl X x := by rfl)
    (hn : x ≠ "__name__" := by decide) (hdb : (x == ("__debug__" : Str)) = false := by decide) (he : starEach [a] X.env = (false, eval a X.env) :: starEach [] X.env := by rfl) (hpl : (backTo pos (starEach [] X.env)).any (·.1) = false := by rfl) :
    PE X (.Call (.Name x p) [a] [] pos) (rdE S W (m1 op fa)) := PE.weak (pe_callTy hc hg hm hv (pa_cons ha pa_nil he) hn hdb he hpl) md_1
/-- len -/
def oLen : O1 := fun d st => match d with
  | .tup ds => some (.int ds.length, st)
  | .str z => if z.length ≤ LIM then some (.int z.length, st) else none
  | d => match seqR st d with
    | some ds => some (.int ds.length, st)
    | none => none
theorem cr_len (hK : X.K = S.K := by rfl) : CallR X (.builtin "len") (c1 S oLen) := by
  intro pins s σ H xs us Q I rr h
  obtain ⟨r, st, d, v, rfl, o, rd, h⟩ := h
  have lists : ∀ ds, seqR st d = some ds → EndO S r st.length H Q (some (.int ds.length, st)) → wpAny (model X.prog X.w) X.A (call (.builtin "len") us) (EP X pins σ Q) X.xe s := fun ds q h => by
    obtain ⟨p, xs, e1, e2, e3⟩ := seqR_ok o rd q
    subst e1
    refine call_len_seq pins s σ H _ us Q I rr ⟨p, xs, rfl, .inl (by rw [hK]; exact e2), ?_⟩
    rw [← e3.length]
    exact end_ok o h rep_int
  cases d with
  | tup ds =>
    unfold Rep at rd
    obtain ⟨p, xs, rfl, e2, e3⟩ := rd
    refine call_len_seq pins s σ H _ us Q I rr ⟨p, xs, rfl, .inr (by rw [hK]; exact e2), ?_⟩
    rw [← e3.length]
    exact end_ok o h rep_int
  | str z =>
    simp only [oLen] at h
    unfold Rep at rd
    subst rd
    by_cases hz : z.length ≤ LIM
    · simp only [if_pos hz] at h
      exact call_len_str pins s σ H _ us Q I rr ⟨z, rfl, lim_ok hz, end_ok o h rep_int⟩
    · simp only [if_neg hz] at h; exact h.elim
  | lst ds => exact lists ds rfl h
  | scr ns => exact lists _ rfl h
  | ref k =>
    cases q : seqR st (.ref k) with
    | none => simp only [oLen, q] at h; exact h.elim
    | some ds => simp only [oLen, q] at h; exact lists ds q h
  | _ => exact h.elim
/-- int of an int, of a bool -/
def oInt : O1 := fun d st => match d with
  | .int i => some (.int i, st)
  | .bl b => some (.int (if b then 1 else 0), st)
  | _ => none
theorem cr_int : CallR X (.type "int") (c1 S oInt) := CallR.weak call_int1 fun xs H Q h => by
  obtain ⟨r, st, d, v, rfl, o, rd, h⟩ := h
  cases d with
  | int i =>
    unfold Rep at rd
    subst rd
    exact .inl ⟨i, rfl, end_ok o h rep_int⟩
  | bl b =>
    unfold Rep at rd
    subst rd
    exact .inr ⟨b, rfl, end_ok o h rep_int⟩
  | _ => exact h.elim
/-- tuple(x), list(x) -/
def oTuple : O1 := fun d st => match d with
  | .tup ds => some (.tup ds, st)
  | d => match seqR st d with
    | some ds => some (.tup ds, st)
    | none => none
theorem cr_tuple (hK : X.K = S.K := by rfl) : CallR X (.type "tuple") (c1 S oTuple) := CallR.weak call_tuple_of fun xs H Q h => by
  obtain ⟨r, st, d, v, rfl, o, rd, h⟩ := h
  have lists : ∀ ds, seqR st d = some ds → EndO S r st.length H Q (some (.tup ds, st)) → ∃ p ys, [v] = [V.ref p] ∧ ((SqL X.K H p ys ∧ ∀ l, H l = none → Q (.ref l) (upd H l (.tup ys))) ∨ (SqT X.K H p ys ∧ Q (.ref p) H)) := fun ds q h => by
    obtain ⟨p, xs, e1, e2, e3⟩ := seqR_ok o rd q
    refine ⟨p, xs, by rw [e1], .inl ⟨by rw [hK]; exact e2, fun l hl => ?_⟩⟩
    obtain ⟨a1, a2, a3⟩ := new_tup o e3 hl
    exact h r _ _ a1 a2 a3
  cases d with
  | tup ds =>
    have rd' := rd
    unfold Rep at rd
    obtain ⟨p, xs, rfl, e2, e3⟩ := rd
    exact ⟨p, xs, rfl, .inr ⟨by rw [hK]; exact e2, end_ok o h rd'⟩⟩
  | lst ds => exact lists ds rfl h
  | scr ns => exact lists _ rfl h
  | ref k =>
    cases q : seqR st (.ref k) with
    | none => simp only [oTuple, q] at h; exact h.elim
    | some ds => simp only [oTuple, q] at h; exact lists ds q h
  | _ => exact h.elim
def oList (cell : Bool) : O1 := fun d st => match d with
  | .tup ds => some (mkL cell ds st)
  | d => match seqR st d with
    | some ds => some (mkL cell ds st)
    | none => none
theorem cr_list (cell : Bool) (hK : X.K = S.K := by rfl) : CallR X (.type "list") (c1 S (oList cell)) := CallR.weak call_list_of fun xs H Q h => by
  obtain ⟨r, st, d, v, rfl, o, rd, h⟩ := h
  have lists : ∀ ds, seqR st d = some ds → EndO S r st.length H Q (some (mkL cell ds st)) → ∃ p ys, [v] = [V.ref p] ∧ (SqL X.K H p ys ∨ SqT X.K H p ys) ∧ ∀ l, H l = none → Q (.ref l) (upd H l (.lst ys)) := fun ds q h => by
    obtain ⟨p, xs, e1, e2, e3⟩ := seqR_ok o rd q
    refine ⟨p, xs, by rw [e1], .inl (by rw [hK]; exact e2), fun l hl => ?_⟩
    obtain ⟨r', a1, a2, a3⟩ := new_mk (cell := cell) o e3 hl
    exact h r' _ _ a1 a2 a3
  cases d with
  | tup ds =>
    unfold Rep at rd
    obtain ⟨p, xs, rfl, e2, e3⟩ := rd
    refine ⟨p, xs, rfl, .inr (by rw [hK]; exact e2), fun l hl => ?_⟩
    obtain ⟨r', a1, a2, a3⟩ := new_mk (cell := cell) o e3 hl
    exact h r' _ _ a1 a2 a3
  | lst ds => exact lists ds rfl h
  | scr ns => exact lists _ rfl h
  | ref k =>
    cases q : seqR st (.ref k) with
    | none => simp only [oList, q] at h; exact h.elim
    | some ds => simp only [oList, q] at h; exact lists ds q h
  | _ => exact h.elim
/-- all, any of a list of bools -/
def blsOf : List D → Option (List Bool)
  | [] => some []
  | .bl b :: r => match blsOf r with
    | some l => some (b :: l)
    | none => none
  | _ :: _ => none
theorem bls_rep {r : Rho} {n : Nat} {H : Hp} : ∀ {ds : List D} {bs : List Bool} {xs : List V}, RepL S r n H ds xs → blsOf ds = some bs → xs = bs.map V.bl
  | [], bs, xs, h, e => by
    unfold RepL at h
    unfold blsOf at e
    cases e
    exact h
  | .bl b :: ds, bs, xs, h, e => by
    unfold RepL at h
    obtain ⟨v, w, rfl, h1, h2⟩ := h
    unfold blsOf at e
    cases q : blsOf ds with
    | none => rw [q] at e; cases e
    | some l =>
      rw [q] at e
      cases e
      unfold Rep at h1
      rw [bls_rep h2 q, h1]
      rfl
  | .non :: _, _, _, _, e => by unfold blsOf at e; cases e
  | .int _ :: _, _, _, _, e => by unfold blsOf at e; cases e
  | .str _ :: _, _, _, _, e => by unfold blsOf at e; cases e
  | .tup _ :: _, _, _, _, e => by unfold blsOf at e; cases e
  | .lst _ :: _, _, _, _, e => by unfold blsOf at e; cases e
  | .scr _ :: _, _, _, _, e => by unfold blsOf at e; cases e
  | .obj _ _ _ :: _, _, _, _, e => by unfold blsOf at e; cases e
  | .ref _ :: _, _, _, _, e => by unfold blsOf at e; cases e
  | .exn _ _ :: _, _, _, _, e => by unfold blsOf at e; cases e
def oAll : O1 := fun d st => match seqR st d with
  | some ds => match blsOf ds with
    | some bs => some (.bl (bs.all id), st)
    | none => none
  | none => none
def oAny : O1 := fun d st => match seqR st d with
  | some ds => match blsOf ds with
    | some bs => some (.bl (bs.any id), st)
    | none => none
  | none => none
theorem cr_allD (hc : X.calm = true := by rfl) (hK : X.K = S.K := by rfl) : CallR X (.builtin "all") (c1 S oAll) := CallR.weak (cr_all hc) fun xs H Q h => by
  obtain ⟨r, st, d, v, rfl, o, rd, h⟩ := h
  unfold oAll at h
  cases q : seqR st d with
  | none => simp only [q] at h; exact h.elim
  | some ds =>
    simp only [q] at h
    cases q2 : blsOf ds with
    | none => simp only [q2] at h; exact h.elim
    | some bs =>
      simp only [q2] at h
      obtain ⟨p, xs, e1, e2, e3⟩ := seqR_ok o rd q
      rw [bls_rep e3 q2] at e2
      exact ⟨p, bs, by rw [e1], by rw [hK]; exact e2, end_ok o h rep_bl⟩
theorem cr_anyD (hc : X.calm = true := by rfl) (hK : X.K = S.K := by rfl) : CallR X (.builtin "any") (c1 S oAny) := CallR.weak (cr_any hc) fun xs H Q h => by
  obtain ⟨r, st, d, v, rfl, o, rd, h⟩ := h
  unfold oAny at h
  cases q : seqR st d with
  | none => simp only [q] at h; exact h.elim
  | some ds =>
    simp only [q] at h
    cases q2 : blsOf ds with
    | none => simp only [q2] at h; exact h.elim
    | some bs =>
      simp only [q2] at h
      obtain ⟨p, xs, e1, e2, e3⟩ := seqR_ok o rd q
      rw [bls_rep e3 q2] at e2
      exact ⟨p, bs, by rw [e1], by rw [hK]; exact e2, end_ok o h rep_bl⟩
end
end Cw

/-! Membership, isinstance, fields, methods of lists. -/
namespace Cw
open PySem L2

section
variable {S : Stat} {X : Cx} {W : WX}
/-! ### in -/
def itemsPy : PyData → Option (List PyData)
  | .list l => some l
  | .tuple l => some l
  | _ => none
def inD (st : Sto) (a b : D) : Option Bool := match a, b with
  | .str x, .str z => match x.cps.toList with
    | [c] => some (decide (c ∈ z.cps.toList))
    | _ => some (!(Builtin.Str.occurrences z x 0 z.length 1).isEmpty)
  | a, b => match pyOf st a, pyOf st b with
    | some p, some q => match itemsPy q with
      | some l => if (SeqAt.shaped p && SeqAt.shaped q) = true then some (l.any fun y => PyData.eqv y p) else none
      | none => none
    | _, _ => none
def oIn (neg : Bool) : O2 := fun a b st => match inD st a b with
  | some c => some (.bl (if neg then !c else c), st)
  | none => none
theorem shp_all {l : List PyData} : (SeqAt.shaped (.list l) = true → PyData.canLayAll0 l = true) ∧ (SeqAt.shaped (.tuple l) = true → PyData.canLayAll0 l = true) := by
  constructor <;> intro h <;> have := SeqAt.canLay_of_shaped h <;> simpa [PyData.canLay0] using this
theorem in_room {A : Around} {p : PyData} {n : Nat} (h : SeqAt.shaped p = true) (hu : A.units + 65 < cLine) : A.units + 1 + min n p.depth < cLine := by
  have := SeqAt.depth_of_shaped h
  have : min n p.depth ≤ 64 := Nat.le_trans (Nat.min_le_right _ _) this
  omega
theorem in_gen {pins : List (Addr × Obj)} {s : Shared} {σ : St} {H : Hp} {x y : V} {v u : Value} {Q : VK} {r : Rho} {st : Sto} {a b : D} {c : Bool} (hu : X.A.units + 65 < cLine) (hK : X.K = S.K) (I : Inv X pins σ H s) (rx : RelV x v) (ry : RelV y u)
    (o : Ok S r st H) (ra : Rep S r st.length H a x) (rb : Rep S r st.length H b y)
    (h : (match pyOf st a, pyOf st b with
    | some p, some q => match itemsPy q with
      | some l => if (SeqAt.shaped p && SeqAt.shaped q) = true then some (l.any fun y => PyData.eqv y p) else none
      | none => none
    | _, _ => none) = some c) : (Q (.bl c) H → wpAny (model X.prog X.w) X.A (compareOp .In v u) (EP X pins σ Q) X.xe s) ∧ (Q (.bl (!c)) H → wpAny (model X.prog X.w) X.A (compareOp .NotIn v u) (EP X pins σ Q) X.xe s) := by
  split at h
  · rename_i p q e1 e2
    split at h
    · rename_i l el
      split at h
      · rename_i hs
        cases h
        obtain ⟨h1, h2⟩ := shp2 hs
        have da : Dp X.K H x p := by rw [hK]; exact pyOf_ok o ra e1
        have db : Dp X.K H y q := by rw [hK]; exact pyOf_ok o rb e2
        obtain ⟨as, k1⟩ := Dp.reads I p x v da rx
        obtain ⟨bs, k2⟩ := Dp.reads I q y u db ry
        cases q with
        | list l' =>
          cases el
          exact ⟨fun z => SeqAt.in_list_reads k2 k1 (shp_all.1 h2) (SeqAt.canLay_of_shaped h1) (in_room h1 hu) ⟨.bl _, H, I, rfl, z⟩,
            fun z => SeqAt.notIn_list_reads k2 k1 (shp_all.1 h2) (SeqAt.canLay_of_shaped h1) (in_room h1 hu) ⟨.bl _, H, I, rfl, z⟩⟩
        | tuple l' =>
          cases el
          exact ⟨fun z => SeqAt.in_tuple_reads k2 k1 (shp_all.2 h2) (SeqAt.canLay_of_shaped h1) (in_room h1 hu) ⟨.bl _, H, I, rfl, z⟩,
            fun z => SeqAt.notIn_tuple_reads k2 k1 (shp_all.2 h2) (SeqAt.canLay_of_shaped h1) (in_room h1 hu) ⟨.bl _, H, I, rfl, z⟩⟩
        | _ => cases el
      · cases h
    · cases h
  · cases h
theorem in_str {pins : List (Addr × Obj)} {s : Shared} {σ : St} {H : Hp} {v u : Value} {Q : VK} {x z : Str} {c : Bool} (I : Inv X pins σ H s) (rx : RelV (.str x) v) (ry : RelV (.str z) u)
    (h : (match x.cps.toList with
    | [c] => some (decide (c ∈ z.cps.toList))
    | _ => some (!(Builtin.Str.occurrences z x 0 z.length 1).isEmpty)) = some c) : (Q (.bl c) H → wpAny (model X.prog X.w) X.A (compareOp .In v u) (EP X pins σ Q) X.xe s) ∧ (Q (.bl (!c)) H → wpAny (model X.prog X.w) X.A (compareOp .NotIn v u) (EP X pins σ Q) X.xe s) := by
  split at h
  · rename_i k e
    cases h
    have ex : x = ⟨#[k]⟩ := by
      cases x with
      | mk cps =>
        have : cps = #[k] := by
          apply Array.toList_inj.mp
          exact e
        rw [this]
    exact ⟨fun q => op_in_sign pins s σ H _ _ v u Q I rx ry ⟨k, z, by rw [ex], rfl, q⟩, fun q => op_notIn_sign pins s σ H _ _ v u Q I rx ry ⟨k, z, by rw [ex], rfl, q⟩⟩
  · cases h
    exact ⟨fun q => op_in_str pins s σ H _ _ v u Q I rx ry ⟨x, z, rfl, rfl, q⟩, fun q => op_notIn_str pins s σ H _ _ v u Q I rx ry ⟨x, z, rfl, rfl, q⟩⟩
theorem in_any {pins : List (Addr × Obj)} {s : Shared} {σ : St} {H : Hp} {x y : V} {v u : Value} {Q : VK} {r : Rho} {st : Sto} {a b : D} {c : Bool} (hu : X.A.units + 65 < cLine) (hK : X.K = S.K) (I : Inv X pins σ H s) (rx : RelV x v) (ry : RelV y u)
    (o : Ok S r st H) (ra : Rep S r st.length H a x) (rb : Rep S r st.length H b y) (h : inD st a b = some c) :
    (Q (.bl c) H → wpAny (model X.prog X.w) X.A (compareOp .In v u) (EP X pins σ Q) X.xe s) ∧ (Q (.bl (!c)) H → wpAny (model X.prog X.w) X.A (compareOp .NotIn v u) (EP X pins σ Q) X.xe s) := by
  cases a with
  | str x' =>
    cases b with
    | str z =>
      unfold Rep at ra rb
      subst ra rb
      exact in_str I rx ry h
    | _ => exact in_gen hu hK I rx ry o ra rb h
  | _ => exact in_gen hu hK I rx ry o ra rb h
theorem or_in (hu : X.A.units + 65 < cLine) (hK : X.K = S.K := by rfl) : OpR X (compareOp .In) (r2 S (oIn false)) := by
  intro pins s σ H x y v u Q I rx ry h
  obtain ⟨r, st, a, b, o, ra, rb, h⟩ := h
  unfold oIn at h
  cases q : inD st a b with
  | none => simp only [q] at h; exact h.elim
  | some c =>
    simp only [q] at h
    exact (in_any hu hK I rx ry o ra rb q).1 (end_ok o h rep_bl)
theorem or_notin (hu : X.A.units + 65 < cLine) (hK : X.K = S.K := by rfl) : OpR X (compareOp .NotIn) (r2 S (oIn true)) := by
  intro pins s σ H x y v u Q I rx ry h
  obtain ⟨r, st, a, b, o, ra, rb, h⟩ := h
  unfold oIn at h
  cases q : inD st a b with
  | none => simp only [q] at h; exact h.elim
  | some c =>
    simp only [q] at h
    exact (in_any hu hK I rx ry o ra rb q).2 (end_ok o h rep_bl)

/-! ### isinstance -/
/-- a built-in type by its number: 0 int, 1 bool, 2 str, 3 tuple, 4 list -/
def tyN : Nat → String
  | 0 => "int"
  | 1 => "bool"
  | 2 => "str"
  | 3 => "tuple"
  | _ => "list"
def tyOf (st : Sto) : D → Option String
  | .non => some "NoneType"
  | .bl _ => some "bool"
  | .int _ => some "int"
  | .str _ => some "str"
  | .tup _ => some "tuple"
  | .lst _ => some "list"
  | .scr _ => none
  | .obj _ _ _ => none
  | .exn _ _ => none
  | .ref k => match st[k]? with
    | some (.lst _) => some "list"
    | _ => none
theorem tyOf_ok {r : Rho} {st : Sto} {H : Hp} {d : D} {v : V} {T : String} (o : Ok S r st H) (h : Rep S r st.length H d v) (e : tyOf st d = some T) : TyX S.K H v (.type T) := by
  cases d with
  | non => unfold Rep at h; subst h; cases e; exact .base .non
  | bl b => unfold Rep at h; subst h; cases e; exact .base (.bl b)
  | int b => unfold Rep at h; subst h; cases e; exact .base (.int b)
  | str b => unfold Rep at h; subst h; cases e; exact .base (.str b)
  | tup ds =>
    unfold Rep at h
    cases e
    obtain ⟨a, xs, rfl, h1, _⟩ := h
    rcases h1 with (h1 | ⟨u, h1⟩) | ⟨u, its, n, h1, h2, _⟩
    · exact .base (.tup h1)
    · exact .fTuple h1
    · exact .kTuple h1 h2
  | lst ds =>
    unfold Rep at h
    cases e
    obtain ⟨a, xs, rfl, h1, _⟩ := h
    exact .base (.lst h1)
  | scr ns => cases e
  | obj _ _ _ => cases e
  | exn _ _ => cases e
  | ref k =>
    cases q : st[k]? with
    | none => simp [tyOf, q] at e
    | some c =>
      cases c with
      | lst ds =>
        simp only [tyOf, q] at e
        cases e
        unfold Rep at h
        obtain ⟨xs, h1, _⟩ := o.cel k _ q
        rw [h.2]
        exact .base (.lst h1)
      | _ => simp [tyOf, q] at e
/-- whether a type is below another one -/
def subT (a b : String) : Bool := a == b || (a == "bool" && b == "int")
def oIsi (T : String) : O1 := fun d st => match tyOf st d with
  | some t => some (.bl (subT t T), st)
  | none => none
def okT (T : String) : Bool := ["int", "bool", "str", "tuple", "list"].contains T
theorem kit_sub {t T : String} (ht : ["NoneType", "int", "bool", "str", "tuple", "list"].contains t = true) (hT : okT T = true) : kitB t T = some (subT t T) := by
  have all : ∀ t ∈ ["NoneType", "int", "bool", "str", "tuple", "list"], ∀ T ∈ ["int", "bool", "str", "tuple", "list"], kitB t T = some (subT t T) := by decide +kernel
  exact all t (by simpa using ht) T (by simpa [okT] using hT)
theorem tyOf_in {st : Sto} {d : D} {t : String} (e : tyOf st d = some t) : ["NoneType", "int", "bool", "str", "tuple", "list"].contains t = true := by
  cases d <;> simp only [tyOf, Option.some.injEq, reduceCtorEq] at e
  case ref k =>
    split at e
    · cases e; decide
    · cases e
  all_goals (subst e; decide)
theorem e_isi {T : String} {a : Expr} {fa : EM D} {p p2 pos : Pos} {x : Str} (ha : PE X a (rdE S W fa)) (hm : X.mg "isinstance" = none) (hmT : X.mg x = none) (hT : okT T = true := by decide) (hvT : bootBuiltins x = some (.type T) := by decide +kernel)
    (hg : Gl X "isinstance" := by rfl) (hgT : Gl X x := by rfl) (hnT : x ≠ "__name__" := by decide) (hdT : (x == ("__debug__" : Str)) = false := by decide)
    (he : starEach [a, .Name x p2] X.env = (false, eval a X.env) :: starEach [.Name x p2] X.env := by rfl) (he2 : starEach [.Name x p2] X.env = (false, eval (.Name x p2) X.env) :: starEach [] X.env := by rfl)
    (hpl : (backTo pos (starEach [.Name x p2] X.env)).any (·.1) = false := by rfl) (hK : X.K = S.K := by rfl) :
    PE X (.Call (.Name "isinstance" p) [a, .Name x p2] [] pos) (rdE S W (m1 (oIsi T) fa)) := by
  refine PE.weak (pe_callB call_isi hg hm (by decide +kernel) (pa_cons ha (pa_cons (pe_bltn (v := .ty T) hgT hmT hvT rfl hnT hdT) pa_nil he2) he) (by decide) (by decide) he hpl) fun σ H Q h => ?_
  obtain ⟨r, env, st, o, eo, h⟩ := h
  refine ⟨r, env, st, o, eo, End.bind h fun d st1 r1 H1 v l1 o1 rx h1 => ?_⟩
  have h2 := h1.lift
  unfold oIsi at h2
  cases q : tyOf st1 d with
  | none => simp only [q] at h2; exact h2.elim
  | some t =>
    simp only [q] at h2
    refine ⟨v, .ty T, .type t, .type T, subT t T, rfl, .ty T, by rw [hK]; exact tyOf_ok o1 rx q, kit_ty (kit_sub (tyOf_in q) hT), end_ok o1 h2 rep_bl⟩
/-- isinstance(x, (T1, T2)) -/
def oIsi2 (T1 T2 : String) : O1 := fun d st => match tyOf st d with
  | some t => some (.bl (subT t T1 || subT t T2), st)
  | none => none
theorem e_isi2 {T1 T2 : String} {a : Expr} {fa : EM D} {p p2 p3 p4 pos : Pos} {k} {x1 x2 : Str} (ha : PE X a (rdE S W fa)) (hm : X.mg "isinstance" = none) (hm1 : X.mg x1 = none) (hm2 : X.mg x2 = none) (hT1 : okT T1 = true := by decide) (hT2 : okT T2 = true := by decide)
    (hv1 : bootBuiltins x1 = some (.type T1) := by decide +kernel) (hv2 : bootBuiltins x2 = some (.type T2) := by decide +kernel)
    (hg : Gl X "isinstance" := by rfl) (hg1 : Gl X x1 := by rfl) (hg2 : Gl X x2 := by rfl) (hn1 : x1 ≠ "__name__" := by decide) (hd1 : (x1 == ("__debug__" : Str)) = false := by decide) (hn2 : x2 ≠ "__name__" := by decide) (hd2 : (x2 == ("__debug__" : Str)) = false := by decide)
    (he : starEach [a, .Tuple [.Name x1 p2, .Name x2 p3] k p4] X.env = (false, eval a X.env) :: starEach [.Tuple [.Name x1 p2, .Name x2 p3] k p4] X.env := by rfl)
    (he2 : starEach [.Tuple [.Name x1 p2, .Name x2 p3] k p4] X.env = (false, eval (.Tuple [.Name x1 p2, .Name x2 p3] k p4) X.env) :: starEach [] X.env := by rfl)
    (he3 : starEach [.Name x1 p2, .Name x2 p3] X.env = (false, eval (.Name x1 p2) X.env) :: starEach [.Name x2 p3] X.env := by rfl) (he4 : starEach [.Name x2 p3] X.env = (false, eval (.Name x2 p3) X.env) :: starEach [] X.env := by rfl)
    (hpl : (backTo pos (starEach [.Tuple [.Name x1 p2, .Name x2 p3] k p4] X.env)).any (·.1) = false := by rfl) (hK : X.K = S.K := by rfl) :
    PE X (.Call (.Name "isinstance" p) [a, .Tuple [.Name x1 p2, .Name x2 p3] k p4] [] pos) (rdE S W (m1 (oIsi2 T1 T2) fa)) := by
  refine PE.weak (pe_callB call_isiT hg hm (by decide +kernel) (pa_cons ha (pa_cons (pe_tup (pa_cons (pe_bltn (v := .ty T1) hg1 hm1 hv1 rfl hn1 hd1) (pa_cons (pe_bltn (v := .ty T2) hg2 hm2 hv2 rfl hn2 hd2) pa_nil he4) he3)) pa_nil he2) he) (by decide) (by decide) he hpl) fun σ H Q h => ?_
  obtain ⟨r, env, st, o, eo, h⟩ := h
  refine ⟨r, env, st, o, eo, End.bind h fun d st1 r1 H1 v l1 o1 rx h1 => ?_⟩
  have h2 := h1.lift
  unfold oIsi2 at h2
  cases q : tyOf st1 d with
  | none => simp only [q] at h2; exact h2.elim
  | some t =>
    simp only [q] at h2
    refine ⟨by show 2 ≤ sizeLine; decide, fun tp hp => ?_⟩
    obtain ⟨l2, o2⟩ := o1.fresh (u := .tup [.ty T1, .ty T2]) hp
    have z1 := kit_ty (K := X.K) (kit_sub (tyOf_in q) hT1)
    have z2 := kit_ty (K := X.K) (kit_sub (tyOf_in q) hT2)
    refine ⟨v, tp, [.ty T1, .ty T2], .type t, [.type T1, .type T2], subT t T1 || subT t T2, rfl, upd_same, .cons (.ty T1) (.cons (.ty T2) .nil), by rw [hK]; exact tyOf_ok o2 (Rep.mono l2 _ _ rx) q, ?_, ?_⟩
    · refine kitAny_cons z1 (fun hb => ?_) fun hb => by rw [hb]; rfl
      rw [hb, Bool.false_or]
      refine kitAny_cons z2 (fun hb2 => ?_) fun hb2 => by rw [hb2]
      rw [hb2]
      exact kitAny_nil
    · exact h2 r1 _ _ l2 o2 rep_bl

/-! ### fields -/
def lookA : List Nat → List D → Nat → Option D
  | k :: ks, d :: ds, a => if k = a then some d else lookA ks ds a
  | _, _, _ => none
def putA : List Nat → List D → Nat → D → List Nat × List D
  | k :: ks, d :: ds, a, x => if k = a then (k :: ks, x :: ds) else
    let p := putA ks ds a x
    (k :: p.1, d :: p.2)
  | _, _, a, x => ([a], [x])
/-- classes and attributes as they stand behind the top -/
structure FldOk (S : Stat) (c a : Nat) : Prop where
  cl : Cls S.K (S.CA c)
  na : NoAttr S.K (S.CA c) (S.AN a)
theorem lookA_ok (hi : ∀ a b, S.AN a = S.AN b → a = b) {r : Rho} {n : Nat} {H : Hp} : ∀ {ks : List Nat} {ds : List D} {fs : List (Str × V)} {a : Nat} {d : D}, fs.map (·.1) = ks.map S.AN → RepL S r n H ds (fs.map (·.2)) → lookA ks ds a = some d →
    ∃ v, fs.lookup (S.AN a) = some v ∧ Rep S r n H d v
  | [], _, _, _, _, _, _, e => by simp [lookA] at e
  | _ :: _, [], _, _, _, _, _, e => by simp [lookA] at e
  | k :: ks, d :: ds, [], a, x, h1, h2, e => by simp at h1
  | k :: ks, d :: ds, (f, v) :: fs, a, x, h1, h2, e => by
    simp only [List.map_cons, List.cons.injEq] at h1
    obtain ⟨g1, g2⟩ := RepL.uncons h2
    unfold lookA at e
    by_cases hk : k = a
    · rw [if_pos hk] at e
      cases e
      subst hk
      exact ⟨v, by rw [List.lookup_cons, h1.1]; simp, g1⟩
    · rw [if_neg hk] at e
      obtain ⟨w, e1, e2⟩ := lookA_ok hi h1.2 g2 e
      refine ⟨w, ?_, e2⟩
      have : (S.AN a == f) = false := by
        rw [h1.1]
        simp only [beq_eq_false_iff_ne, ne_eq]
        exact fun z => hk (hi _ _ z).symm
      rw [List.lookup_cons, this]
      exact e1
def fldD (st : Sto) (cs : List Nat) (a : Nat) (d : D) : Option D := match d with
  | .obj c ks ds => if cs.contains c then lookA ks ds a else none
  | .ref k => match st[k]? with
    | some (.ins c ks ds) => if cs.contains c then lookA ks ds a else none
    | _ => none
  | _ => none
def mFld (cs : List Nat) (a : Nat) (fa : EM D) : EM D := fun env st => (fa env st).bind fun d st1 => match fldD st1 cs a d with
  | some x => .ok x st1
  | none => .bad
theorem e_fld {cs : List Nat} (a : Nat) {e : Expr} {f : Str} {fa : EM D} {pos : Pos} (he : PE X e (rdE S W fa)) (hf : ∀ c ∈ cs, FldOk S c a) (hi : ∀ a b, S.AN a = S.AN b → a = b) (hn : S.AN a = f := by rfl) (hb : attributeBase e f X.env (eval e X.env) = eval e X.env := by rfl) (hK : X.K = S.K := by rfl) :
    PE X (.Attribute e f pos) (rdE S W (mFld cs a fa)) := PE.weak (pe_fld he hb) fun σ H Q h => by
  obtain ⟨r, env, st, o, eo, h⟩ := h
  refine ⟨r, env, st, o, eo, End.bind h fun d st1 r1 H1 x l1 o1 rx h1 => ?_⟩
  have go : ∀ {c : Nat} {ks : List Nat} {ds : List D} {y : D} {p dx : Addr} {fs : List (Str × V)}, x = .ref p → H1 p = some (.ins (S.CA c) dx fs) → fs.map (·.1) = ks.map S.AN → RepL S r1 st1.length H1 ds (fs.map (·.2)) → cs.contains c = true → lookA ks ds a = some y →
      End S (Rep S) W σ r1 st1.length H1 Q (.ok y st1) → ∃ p C dx fs v, x = .ref p ∧ H1 p = some (.ins C dx fs) ∧ Cls X.K C ∧ NoAttr X.K C f ∧ fs.lookup f = some v ∧ Q v H1 := fun e1 e2 e3 e4 e5 e6 e7 => by
    obtain ⟨v, q1, q2⟩ := lookA_ok hi e3 e4 e6
    have F := hf _ (by simpa using e5)
    rw [hn] at q1
    refine ⟨_, _, _, _, v, e1, e2, by rw [hK]; exact F.cl, ?_, q1, e7 r1 H1 v o1.refl o1 q2⟩
    rw [hK, ← hn]
    exact F.na
  cases d with
  | obj c ks ds =>
    unfold Rep at rx
    obtain ⟨p, dx, fs, e1, e2, _, e3, e4⟩ := rx
    by_cases hc : cs.contains c = true
    · cases q : lookA ks ds a with
      | none => simp only [fldD, if_pos hc, q] at h1; exact h1.elim
      | some y =>
        simp only [fldD, if_pos hc, q] at h1
        exact go e1 e2 e3 e4 hc q h1
    · simp only [fldD, if_neg hc] at h1; exact h1.elim
  | ref k =>
    unfold Rep at rx
    cases qk : st1[k]? with
    | none => simp only [fldD, qk] at h1; exact h1.elim
    | some cell =>
      cases cell with
      | ins c ks ds =>
        obtain ⟨dx, fs, e2, e3, e4⟩ := o1.cel k _ qk
        by_cases hc : cs.contains c = true
        · cases q : lookA ks ds a with
          | none => simp only [fldD, qk, if_pos hc, q] at h1; exact h1.elim
          | some y =>
            simp only [fldD, qk, if_pos hc, q] at h1
            exact go rx.2 e2 e3 e4 hc q h1
        · simp only [fldD, qk, if_neg hc] at h1; exact h1.elim
      | _ => simp only [fldD, qk] at h1; exact h1.elim
  | _ => exact h1.elim

/-! ### methods of built-in types -/
abbrev OM := D → List D → Sto → Option (D × Sto)
def rM (S : Stat) (op : OM) : V → List V → Hp → VK → Prop := fun x xs H Q => ∃ r st d ds, Ok S r st H ∧ Rep S r st.length H d x ∧ RepL S r st.length H ds xs ∧ EndO S r st.length H Q (op d ds st)
def tyM (T : String) (d : D) (st : Sto) : Bool := match d with
  | .str _ => T == "str"
  | .lst _ => T == "list"
  | .scr _ => T == "list"
  | .ref k => match st[k]? with
    | some (.lst _) => T == "list"
    | some (.dK _ _) => T == "dict"
    | some (.dT _ _) => T == "dict"
    | _ => false
  | _ => false
theorem tyM_ok {r : Rho} {st : Sto} {H : Hp} {d : D} {v : V} {T : String} (o : Ok S r st H) (h : Rep S r st.length H d v) (e : tyM T d st = true) : tyV S.K T v H := by
  cases d with
  | str z =>
    unfold Rep at h
    subst h
    show T = "str"
    simpa [tyM] using e
  | lst ds =>
    unfold Rep at h
    obtain ⟨a, xs, rfl, h1, _⟩ := h
    exact .inl ⟨by simpa [tyM] using e, xs, SqL.of h1⟩
  | scr ns =>
    unfold Rep at h
    obtain ⟨a, rfl, h1⟩ := h
    exact .inl ⟨by simpa [tyM] using e, _, h1.sql⟩
  | ref k =>
    unfold Rep at h
    rw [h.2]
    cases q : st[k]? with
    | none => simp [tyM, q] at e
    | some c =>
      have e' : tyM T (.ref k) st = true := e
      cases c with
      | lst ds =>
        obtain ⟨xs, h1, _⟩ := o.cel k _ q
        simp only [tyM, q] at e
        exact .inl ⟨by simpa using e, xs, SqL.of h1⟩
      | dK ks ds =>
        obtain ⟨xs, h1, _⟩ := o.cel k _ q
        simp only [tyM, q] at e
        exact .inr (.inr (.inl ⟨by simpa using e, .inl ⟨xs, h1⟩⟩))
      | dT ks ds =>
        obtain ⟨xs, h1, _⟩ := o.cel k _ q
        simp only [tyM, q] at e
        exact .inr (.inr (.inl ⟨by simpa using e, .inr ⟨xs, h1⟩⟩))
      | ins _ _ _ => simp [tyM, q] at e
  | _ => simp [tyM] at e
def mMeth (T : String) (op : OM) (fo : EM D) (g : EM (List D)) : EM D := fun env st => (fo env st).bind fun d st1 => if tyM T d st1 = true then (g env st1).bind fun ds st2 => lift (op d ds st2) else .bad
theorem md_meth {T : String} {op : OM} {fo : EM D} {g : EM (List D)} (hK : X.K = S.K) : ∀ σ H Q, rdE S W (mMeth T op fo g) σ H Q → tBM X.K T (rM S op) (rdE S W fo) (rdA S W g) σ H Q := fun σ H Q h => by
  obtain ⟨r, env, st, o, eo, h⟩ := h
  refine ⟨r, env, st, o, eo, End.bind h fun d st1 r1 H1 x l1 o1 rx h1 => ?_⟩
  split at h1
  · rename_i ht
    refine ⟨by rw [hK]; exact tyM_ok o1 rx ht, r1, env, st1, o1, eo.mono l1, End.bind h1 fun ds st2 r2 H2 xs l2 o2 rxs h2 => ?_⟩
    exact ⟨r2, st2, d, ds, o2, Rep.mono l2 _ _ rx, rxs, h2.lift⟩
  · exact h1.elim
theorem md_meth0 {T : String} {op : OM} {fo : EM D} (hK : X.K = S.K) : ∀ σ H Q, rdE S W (mMeth T op fo mNil) σ H Q → tBM0 X.K T (rM S op) (rdE S W fo) σ H Q := fun σ H Q h => by
  obtain ⟨r, env, st, o, eo, h⟩ := h
  refine ⟨r, env, st, o, eo, End.bind h fun d st1 r1 H1 x l1 o1 rx h1 => ?_⟩
  split at h1
  · rename_i ht
    exact ⟨by rw [hK]; exact tyM_ok o1 rx ht, r1, st1, d, [], o1, rx, RepL.nil, h1.lift⟩
  · exact h1.elim
theorem MtR.weak {id : String} {t t' : V → List V → Hp → VK → Prop} (h : MtR X id t) (k : ∀ x xs H Q, t' x xs H Q → t x xs H Q) : MtR X id t' := fun pins s σ H x xs v us Q I rx rs q => h pins s σ H x xs v us Q I rx rs (k _ _ _ _ q)
theorem e_meth {T id : String} {op : OM} {fo : EM D} {g : EM (List D)} {o e : Expr} {es : List Expr} {name : Str} {apos cpos : Pos} (pa : PlainAttrs T) (slot : Slot T name id) (hty : typeOf (.builtin id) = pure (.type "method_descriptor")) (hm : MtR X id (rM S op))
    (ho : PE X o (rdE S W fo)) (ha : PA X (e :: es) (rdA S W g)) (hK : X.K = S.K := by rfl) (hbase : attributeBase o name X.env (eval o X.env) = eval o X.env := by rfl)
    (hfew : ((backTo cpos (starEach (e :: es) X.env)).all (fun x => !x.1) && (backToKw cpos (keywordEach [] X.env)).all (fun x => x.1.isSome)
      && decide ((e :: es).length + ([] : List Keyword).length + (if ([] : List Keyword).isEmpty then 0 else 1) < 30)) = true := by rfl)
    (hline : (apos.endLine == cpos.line) = true := by rfl) (hs : starEach (e :: es) X.env = (false, eval e X.env) :: starEach es X.env := by rfl) (hplain : (backTo cpos (starEach es X.env)).any (·.1) = false := by rfl) :
    PE X (.Call (.Attribute o name apos) (e :: es) [] cpos) (rdE S W (mMeth T op fo g)) := PE.weak (pe_bm pa slot hty hm ho ha hbase hfew hline hs hplain) (md_meth hK)
theorem e_meth0 {T id : String} {op : OM} {fo : EM D} {o : Expr} {name : Str} {apos cpos : Pos} (pa : PlainAttrs T) (slot : Slot T name id) (hty : typeOf (.builtin id) = pure (.type "method_descriptor")) (hm : MtR X id (rM S op))
    (ho : PE X o (rdE S W fo)) (hK : X.K = S.K := by rfl) (hbase : attributeBase o name X.env (eval o X.env) = eval o X.env := by rfl) (hline : (apos.endLine == cpos.line) = true := by rfl) :
    PE X (.Call (.Attribute o name apos) [] [] cpos) (rdE S W (mMeth T op fo mNil)) := PE.weak (pe_bm0 pa slot hty hm ho hbase hline) (md_meth0 hK)

/-! ### methods of lists: the receiver is a live cell -/
/-- the list of a live cell is written -/
def onCell (st : Sto) (d : D) (f : List D → Option (D × List D)) : Option (D × Sto) := match d with
  | .ref k => match st[k]? with
    | some (.lst ds) => match f ds with
      | some (x, es) => some (x, st.set k (.lst es))
      | none => none
    | _ => none
  | _ => none
theorem onCell_ok {r : Rho} {st : Sto} {H : Hp} {d : D} {v : V} {f : List D → Option (D × List D)} {Q : VK} (o : Ok S r st H) (h : Rep S r st.length H d v) (e : EndO S r st.length H Q (onCell st d f)) :
    ∃ p xs ds x es, v = .ref p ∧ H p = some (.lst xs) ∧ RepL S r st.length H ds xs ∧ f ds = some (x, es) ∧ ∀ u ys, Rep S r st.length H x u → RepL S r st.length H es ys → Q u (upd H p (.lst ys)) := by
  cases d with
  | ref k =>
    unfold Rep at h
    cases q : st[k]? with
    | none => simp only [onCell, q] at e; exact e.elim
    | some c =>
      cases c with
      | lst ds =>
        simp only [onCell, q] at e
        cases q2 : f ds with
        | none => simp only [q2] at e; exact e.elim
        | some p =>
          obtain ⟨x, es⟩ := p
          simp only [q2] at e
          obtain ⟨xs, h1, h2⟩ := o.cel k _ q
          refine ⟨r k, xs, ds, x, es, h.2, h1, h2, q2, fun u ys ru rys => ?_⟩
          obtain ⟨l1, o1⟩ := o.write (k := k) (u := .lst ys) (c := .lst es) h.1 trivial fun H' l' e' => ⟨ys, e', RepL.mono l' _ _ rys⟩
          exact e r _ u l1 o1 (Rep.mono l1 _ _ ru)
      | _ => simp only [onCell, q] at e; exact e.elim
  | _ => exact e.elim
def oAppend : OM := fun d as st => match as with
  | [y] => onCell st d fun ds => if ds.length < LIM then some (.non, ds ++ [y]) else none
  | _ => none
theorem m_append : MtR X "list.append" (rM S oAppend) := by
  intro pins s σ H x xs v us Q I rx rs h
  obtain ⟨r, st, d, ds, o, rd, rds, h⟩ := h
  match ds, rds, h with
  | [y], rds, h =>
    obtain ⟨p, ys, es, z, ws, e1, e2, e3, e4, k⟩ := onCell_ok o rd h
    unfold RepL at rds
    obtain ⟨yv, w, e5, r1, r2⟩ := rds
    unfold RepL at r2
    subst r2
    by_cases hl : es.length < LIM
    · rw [if_pos hl] at e4
      cases e4
      exact (by exact mt_append : MtR X "list.append" rAppend) pins s σ H x xs v us Q I rx rs ⟨p, ys, yv, e1, e5, e2, by rw [← e3.length]; exact lim_lt hl, k _ _ rep_non (e3.append (RepL.cons r1 RepL.nil))⟩
    · rw [if_neg hl] at e4; cases e4
  | [], _, h => exact h.elim
  | _ :: _ :: _, _, h => exact h.elim
end
end Cw

/-! Statements, targets, calls of defs, the promise of a def by its function. -/
namespace Cw
open PySem L2

inductive Out where
  | nx (env : En) (st : Sto)
  | rt (d : D) (st : Sto)
  | bk (env : En) (st : Sto)
  | ct (env : En) (st : Sto)
  | exc (c : Nat) (d : D) (env : En) (st : Sto)
  | bad
abbrev SM := En → Sto → Out
def Res.toS {α : Type} (x : Res α) (env : En) (g : α → Sto → Out) : Out := match x with
  | .ok a st => g a st
  | .exc c d st => .exc c d env st
  | .bad => .bad
def EndS (S : Stat) (W : WX) (r : Rho) (n : Nat) (H : Hp) (E : Ends) : Out → Prop
  | .nx env st => ∀ r' σ' H', Le r n H r' st.length H' → Ok S r' st H' → EnvOk S r' st.length H' env σ' → E.nx σ' H'
  | .rt d st => ∀ r' H' v, Le r n H r' st.length H' → Ok S r' st H' → Rep S r' st.length H' d v → E.rt v H'
  | .bk env st => ∀ r' σ' H', Le r n H r' st.length H' → Ok S r' st H' → EnvOk S r' st.length H' env σ' → E.bk σ' H'
  | .ct env st => ∀ r' σ' H', Le r n H r' st.length H' → Ok S r' st H' → EnvOk S r' st.length H' env σ' → E.ct σ' H'
  | .exc c d env st => ∀ r' σ' H' dx v, Le r n H r' st.length H' → Ok S r' st H' → EnvOk S r' st.length H' env σ' → H' dx = some (.xd [(S.EN c, v)]) → Rep S r' st.length H' d v → W (.ref (S.CA c)) (some dx) σ' H'
  | .bad => False
def rdS (S : Stat) (W : WX) (f : SM) : TS := fun E σ H => ∃ r env st, Ok S r st H ∧ EnvOk S r st.length H env σ ∧ EndS S W r st.length H E (f env st)
section
variable {S : Stat} {W : WX} {X : Cx} {r : Rho} {n : Nat} {H : Hp} {E E' : Ends} {σ : St} {env : En} {st : Sto}
theorem EndS.le {r1 : Rho} {n1 : Nat} {H1 : Hp} {x : Out} (l : Le r n H r1 n1 H1) (h : EndS S W r n H E x) : EndS S W r1 n1 H1 E x := by
  cases x with
  | nx env st => exact fun r' σ' H' l' => h r' σ' H' (l.trans l')
  | rt d st => exact fun r' H' v l' => h r' H' v (l.trans l')
  | bk env st => exact fun r' σ' H' l' => h r' σ' H' (l.trans l')
  | ct env st => exact fun r' σ' H' l' => h r' σ' H' (l.trans l')
  | exc c d env st => exact fun r' σ' H' dx v l' => h r' σ' H' dx v (l.trans l')
  | bad => exact h
/-- an expression's result, then the rest of a statement -/
theorem EndS.bind {α β : Type} {R : Rho → Nat → Hp → α → β → Prop} {Q' : β → Hp → Prop} {x : Res α} {g : α → Sto → Out} (h : EndS S W r n H E (x.toS env g)) (eo : EnvOk S r n H env σ)
    (k : ∀ a st1 r1 H1 v, Le r n H r1 st1.length H1 → Ok S r1 st1 H1 → R r1 st1.length H1 a v → EndS S W r1 st1.length H1 E (g a st1) → Q' v H1) : End S R W σ r n H Q' x := by
  cases x with
  | ok a st => exact fun r' H' v l o hr => k a st r' H' v l o hr (EndS.le l h)
  | exc c d st => exact fun r' H' dx v l o hx hr => h r' σ H' dx v l o (eo.mono l) hx hr
  | bad => exact h
theorem PE.by {e : Expr} {t : TE} (h : ∀ σ H Q, t σ H Q → ∃ t', PE X e t' ∧ t' σ H Q) : PE X e t := ⟨fun pins s σ H Q I q => let ⟨t', a, b⟩ := h σ H Q q; a.run pins s σ H Q I b⟩
theorem PI.by {tg e : Expr} {t : TI} (h : ∀ σ H R, t σ H R → ∃ t', PI X tg e t' ∧ t' σ H R) : PI X tg e t := ⟨fun pins s σ H Q I q => let ⟨t', a, b⟩ := h σ H Q q; a.run pins s σ H Q I b⟩
theorem PI.weak {tg e : Expr} {t t' : TI} (h : PI X tg e t) (k : ∀ σ H Q, t' σ H Q → t σ H Q) : PI X tg e t' := ⟨fun pins s σ H Q I q => h.run pins s σ H Q I (k σ H Q q)⟩

/-! ### blocks -/
def sNil : SM := fun env st => .nx env st
def sSeq (f g : SM) : SM := fun env st => match f env st with
  | .nx env' st' => g env' st'
  | o => o
def sIf (c : EM Bool) (f g : SM) : SM := fun env st => (c env st).toS env fun b st1 => if b = true then f env st1 else g env st1
def sExpr (f : EM D) : SM := fun env st => (f env st).toS env fun _ st1 => .nx env st1
def sRet (f : EM D) : SM := fun env st => (f env st).toS env fun d st1 => .rt d st1
def sRetN : SM := fun _ st => .rt .non st
def sBrk : SM := fun env st => .bk env st
def sCont : SM := fun env st => .ct env st
def sSet (i : Nat) (f : EM D) : SM := fun env st => (f env st).toS env fun d st1 => .nx (env.set i (some d)) st1
section
variable {f g : SM} {s1 : Stmt} {rest : List Stmt} {pos p1 : Pos} {a c : Expr} {fa : EM D} {fc : EM Bool}
theorem ss_nil : PSs X [] (rdS S W sNil) := PSs.weak pss_nil fun σ H E h => by
  obtain ⟨r, env, st, o, eo, h⟩ := h
  exact h r σ H o.refl o eo
theorem ss_one (h1 : PS X s1 (rdS S W f)) : PSs X [s1] (rdS S W f) := pss_one h1
theorem ss_cons (h1 : PS X s1 (rdS S W f)) (h2 : PSs X rest (rdS S W g)) : PSs X (s1 :: rest) (rdS S W (sSeq f g)) := PSs.weak (pss_cons h1 h2) fun σ H E h => by
  obtain ⟨r, env, st, o, eo, h⟩ := h
  refine ⟨r, env, st, o, eo, ?_⟩
  unfold sSeq at h
  cases q : f env st with
  | nx env' st' =>
    rw [q] at h
    exact fun r' σ' H' l' o' eo' => ⟨r', env', st', o', eo', EndS.le l' h⟩
  | rt d st' => rw [q] at h; exact h
  | bk env' st' => rw [q] at h; exact h
  | ct env' st' => rw [q] at h; exact h
  | exc c d env' st' => rw [q] at h; exact h
  | bad => rw [q] at h; exact h
theorem s_pass : PS X (.Pass pos) (rdS S W sNil) := PS.weak ps_pass fun σ H E h => by
  obtain ⟨r, env, st, o, eo, h⟩ := h
  exact h r σ H o.refl o eo
theorem s_brk : PS X (.Break pos) (rdS S W sBrk) := PS.weak ps_break fun σ H E h => by
  obtain ⟨r, env, st, o, eo, h⟩ := h
  exact h r σ H o.refl o eo
theorem s_cont : PS X (.Continue pos) (rdS S W sCont) := PS.weak ps_continue fun σ H E h => by
  obtain ⟨r, env, st, o, eo, h⟩ := h
  exact h r σ H o.refl o eo
theorem s_if {b1 b2 : List Stmt} (hc : PT X c (rdB S W fc)) (h1 : PSs X b1 (rdS S W f)) (h2 : PSs X b2 (rdS S W g)) : PS X (.If c b1 b2 pos) (rdS S W (sIf fc f g)) := PS.weak (ps_if hc h1 h2) fun σ H E h => by
  obtain ⟨r, env, st, o, eo, h⟩ := h
  refine ⟨r, env, st, o, eo, EndS.bind h eo fun b st1 r1 H1 v l1 o1 rx h1 => ?_⟩
  obtain rfl : v = b := rx
  cases v with
  | true => exact iteT ⟨r1, env, st1, o1, eo.mono l1, h1⟩
  | false => exact iteF ⟨r1, env, st1, o1, eo.mono l1, h1⟩
theorem s_expr (he : PE X a (rdE S W fa)) (hs : swapsWith a none pos.line X.env = pure false := by rfl) : PS X (.Expr a pos) (rdS S W (sExpr fa)) := PS.weak (ps_expr he hs) fun σ H E h => by
  obtain ⟨r, env, st, o, eo, h⟩ := h
  refine ⟨r, env, st, o, eo, EndS.bind h eo fun d st1 r1 H1 v l1 o1 rx h1 => ?_⟩
  exact h1 r1 σ H1 o1.refl o1 (eo.mono l1)
theorem s_ret (he : PE X a (rdE S W fa)) : PS X (.Return (some a) pos) (rdS S W (sRet fa)) := PS.weak (ps_ret he) fun σ H E h => by
  obtain ⟨r, env, st, o, eo, h⟩ := h
  refine ⟨r, env, st, o, eo, EndS.bind h eo fun d st1 r1 H1 v l1 o1 rx h1 => ?_⟩
  exact h1 r1 H1 v o1.refl o1 rx
theorem s_retN : PS X (.Return none pos) (rdS S W sRetN) := PS.weak ps_retN fun σ H E h => by
  obtain ⟨r, env, st, o, eo, h⟩ := h
  exact h r H .non o.refl o rep_non
theorem s_set (i : Nat) {x : Str} (he : PE X a (rdE S W fa)) (hN : X.N.Nodup) (hi : X.N[i]? = some x := by rfl) (hx : Loc X.env.scope x := by first | exact Or.inl rfl | exact Or.inr rfl) (hs : swapsWith a (some (.Name x p1)) pos.line X.env = pure false := by rfl)
    (hf : X.fn x = true ∨ X.env.scope.names.lookup x = some .local := by first | exact .inl rfl | exact .inr rfl) : PS X (.Assign [.Name x p1] a pos) (rdS S W (sSet i fa)) := PS.weak (ps_set hN hi hx he hs hf) fun σ H E h => by
  obtain ⟨r, env, st, o, eo, h⟩ := h
  refine ⟨r, env, st, o, eo, EndS.bind h eo fun d st1 r1 H1 v l1 o1 rx h1 => ?_⟩
  exact h1 r1 _ H1 o1.refl o1 ((eo.mono l1).set rx)
end

/-! ### targets -/
abbrev GM := D → En → Sto → Option (En × Sto)
def EndG (S : Stat) (r : Rho) (n : Nat) (H : Hp) (Q : St → Hp → Prop) : Option (En × Sto) → Prop
  | some (env, st) => ∀ r' σ' H', Le r n H r' st.length H' → Ok S r' st H' → EnvOk S r' st.length H' env σ' → Q σ' H'
  | none => False
def rdG (S : Stat) (g : GM) : TG := fun v σ H Q => ∃ r env st d, Ok S r st H ∧ EnvOk S r st.length H env σ ∧ Rep S r st.length H d v ∧ EndG S r st.length H Q (g d env st)
def rdGs (S : Stat) (g : List D → En → Sto → Option (En × Sto)) : TGs := fun vs σ H Q => ∃ r env st ds, Ok S r st H ∧ EnvOk S r st.length H env σ ∧ RepL S r st.length H ds vs ∧ EndG S r st.length H Q (g ds env st)
theorem EndG.le {r1 : Rho} {n1 : Nat} {H1 : Hp} {Q : St → Hp → Prop} {x : Option (En × Sto)} (l : Le r n H r1 n1 H1) (h : EndG S r n H Q x) : EndG S r1 n1 H1 Q x := by
  cases x with
  | none => exact h
  | some p => exact fun r' σ' H' l' => h r' σ' H' (l.trans l')
theorem PG.weak {e : Expr} {t t' : TG} (h : PG X e t) (k : ∀ v σ H Q, t' v σ H Q → t v σ H Q) : PG X e t' := ⟨fun pins s σ H v u Q I rv q => h.run pins s σ H v u Q I rv (k v σ H Q q)⟩
theorem PGs.weak {e : List Expr} {t t' : TGs} (h : PGs X e t) (k : ∀ v σ H Q, t' v σ H Q → t v σ H Q) : PGs X e t' := ⟨fun pins s σ H v u Q I rv q => h.run pins s σ H v u Q I rv (k v σ H Q q)⟩
def gN (i : Nat) : GM := fun d env st => some (env.set i (some d), st)
def gsNil : List D → En → Sto → Option (En × Sto) := fun ds env st => if ds.isEmpty then some (env, st) else none
def gsCons (g : GM) (gs : List D → En → Sto → Option (En × Sto)) : List D → En → Sto → Option (En × Sto) := fun ds env st => match ds with
  | d :: ds => match g d env st with
    | some (env1, st1) => gs ds env1 st1
    | none => none
  | [] => none
def gT (n : Nat) (gs : List D → En → Sto → Option (En × Sto)) : GM := fun d env st => match d with
  | .tup ds => if ds.length = n then gs ds env st else none
  | _ => none
theorem g_name (i : Nat) {x : Str} {pos : Pos} (hN : X.N.Nodup) (hi : X.N[i]? = some x := by rfl) (hx : Loc X.env.scope x := by first | exact Or.inl rfl | exact Or.inr rfl) (hf : X.fn x = true ∨ X.env.scope.names.lookup x = some .local := by first | exact .inl rfl | exact .inr rfl) :
    PG X (.Name x pos) (rdG S (gN i)) := PG.weak (pg_name hN hi hx hf) fun v σ H Q h => by
  obtain ⟨r, env, st, d, o, eo, rv, h⟩ := h
  exact h r _ H o.refl o (eo.set rv)
theorem gs_nil : PGs X [] (rdGs S gsNil) := PGs.weak pgs_nil fun v σ H Q h => by
  obtain ⟨r, env, st, ds, o, eo, rv, h⟩ := h
  cases ds with
  | nil =>
    unfold RepL at rv
    exact ⟨rv, h r _ H o.refl o eo⟩
  | cons d ds => exact h.elim
theorem gs_cons {e : Expr} {es : List Expr} {g : GM} {gs : List D → En → Sto → Option (En × Sto)} (h1 : PG X e (rdG S g)) (h2 : PGs X es (rdGs S gs))
    (hs : (assignEach (e :: es) X.env).map (·.2) = assign e X.env :: (assignEach es X.env).map (·.2) := by rfl) : PGs X (e :: es) (rdGs S (gsCons g gs)) := PGs.weak (pgs_cons h1 h2 hs) fun v σ H Q h => by
  obtain ⟨r, env, st, ds, o, eo, rv, h⟩ := h
  cases ds with
  | nil => exact h.elim
  | cons d ds =>
    unfold RepL at rv
    obtain ⟨v1, w, e1, r1, r2⟩ := rv
    refine ⟨v1, w, e1, r, env, st, d, o, eo, r1, ?_⟩
    unfold gsCons at h
    cases q : g d env st with
    | none => simp only [q] at h; exact h.elim
    | some p =>
      obtain ⟨env1, st1⟩ := p
      simp only [q] at h
      exact fun r' σ' H' l' o' eo' => ⟨r', env1, st1, ds, o', eo', RepL.mono l' _ _ r2, EndG.le l' h⟩
theorem g_tup {es : List Expr} {k : Nat} {pos : Pos} {gs : List D → En → Sto → Option (En × Sto)} {n : Nat} (h : PGs X es (rdGs S gs)) (hn : (assignEach es X.env).length = n := by rfl) (hc : X.calm = true := by rfl)
    (hst : (assignEach es X.env).findIdx? (·.1) = none := by rfl) (hK : X.K = S.K := by rfl) : PG X (.Tuple es k pos) (rdG S (gT n gs)) := PG.weak (pg_tup hc h hn hst) fun v σ H Q h => by
  obtain ⟨r, env, st, d, o, eo, rv, h⟩ := h
  cases d with
  | tup ds =>
    unfold Rep at rv
    obtain ⟨p, xs, e1, e2, e3⟩ := rv
    unfold gT at h
    by_cases hl : ds.length = n
    · simp only [if_pos hl] at h
      exact ⟨p, xs, e1, by rw [hK]; exact e2, by rw [← e3.length]; exact hl, r, env, st, ds, o, eo, e3, h⟩
    · simp only [if_neg hl] at h; exact h.elim
  | _ => exact h.elim
/-- o[i] = .. of a live list -/
def gSet (fo fi : EM D) : GM := fun v env st => match fo env st with
  | .ok d st1 => match fi env st1 with
    | .ok (.int i) st2 => match d with
      | .ref k => match st2[k]? with
        | some (.lst ds) => match ixN ds.length i with
          | some j => some (env, st2.set k (.lst (ds.set j v)))
          | none => none
        | _ => none
      | _ => none
    | _ => none
  | _ => none
theorem g_sub {o i : Expr} {fo fi : EM D} {pos : Pos} (ho : PE X o (rdE S W fo)) (hi : PE X i (rdE S W fi)) (ha : ∀ v, assign (.Subscript o i pos) X.env v = (do
      let ov ← holding [v] (eval o X.env)
      let iv ← holding [v, ov] (eval i X.env)
      standAt pos
      holding [v, ov, iv] (setItem ov iv v)
      release [v, ov, iv] []) := by intro _; rfl) : PG X (.Subscript o i pos) (rdG S (gSet fo fi)) := PG.weak (pg_sub ho hi set_list ha) fun v σ H Q h => by
  obtain ⟨r, env, st, d, o, eo, rv, h⟩ := h
  refine ⟨r, env, st, o, eo, ?_⟩
  unfold gSet at h
  cases q1 : fo env st with
  | ok dl st1 =>
    simp only [q1] at h
    intro r1 H1 x l1 o1 rx
    refine ⟨r1, env, st1, o1, eo.mono l1, ?_⟩
    cases q2 : fi env st1 with
    | ok di st2 =>
      simp only [q2] at h
      intro r2 H2 y l2 o2 ry
      cases di with
      | int i =>
        simp only at h
        cases dl with
        | ref k =>
          simp only at h
          cases q3 : st2[k]? with
          | none => simp only [q3] at h; exact h.elim
          | some c =>
            cases c with
            | lst ds =>
              simp only [q3] at h
              cases q4 : ixN ds.length i with
              | none => simp only [q4] at h; exact h.elim
              | some j =>
                simp only [q4] at h
                have rx2 := Rep.mono l2 _ _ rx
                unfold Rep at rx2 ry
                obtain ⟨xs, e1, e2⟩ := o2.cel k _ q3
                refine ⟨r2 k, xs, i, j, rx2.2, ry, e1, by rw [← e2.length]; exact q4, ?_⟩
                have rv2 := Rep.mono (l1.trans l2) _ _ rv
                obtain ⟨l3, o3⟩ := o2.write (k := k) (u := .lst (xs.set j v)) (c := .lst (ds.set j d)) rx2.1 trivial fun H' l' e' => ⟨_, e', RepL.mono l' _ _ (e2.set rv2)⟩
                exact h r2 σ _ (l1.trans (l2.trans l3)) o3 (eo.mono (l1.trans (l2.trans l3)))
            | _ => simp only [q3] at h; exact h.elim
        | _ => exact h.elim
      | _ => exact h.elim
    | exc c d st2 => simp only [q2] at h; exact h.elim
    | bad => simp only [q2] at h; exact h.elim
  | exc c d st2 => simp only [q1] at h; exact h.elim
  | bad => simp only [q1] at h; exact h.elim
def sAsg (g : GM) (f : EM D) : SM := fun env st => (f env st).toS env fun d st1 => match g d env st1 with
  | some (env', st') => .nx env' st'
  | none => .bad
theorem s_asg {tg a : Expr} {fa : EM D} {g : GM} {pos : Pos} (he : PE X a (rdE S W fa)) (hg : PG X tg (rdG S g)) (hs : swapsWithSole [tg] a pos.line X.env = pure false := by rfl) (hw : swappedStores [tg] a X.env = pure none := by rfl)
    (h1 : (assignEach [tg] X.env).map (·.2) = [assign tg X.env] := by rfl) : PS X (.Assign [tg] a pos) (rdS S W (sAsg g fa)) := PS.weak (ps_asg he hg hs hw h1) fun σ H E h => by
  obtain ⟨r, env, st, o, eo, h⟩ := h
  refine ⟨r, env, st, o, eo, EndS.bind h eo fun d st1 r1 H1 v l1 o1 rx h1 => ⟨r1, env, st1, d, o1, eo.mono l1, rx, ?_⟩⟩
  cases q : g d env st1 with
  | none => simp only [q] at h1; exact h1.elim
  | some p =>
    obtain ⟨env', st'⟩ := p
    simp only [q] at h1
    exact h1
/-- x += e, x -= e of ints -/
def sAug (i : Nat) (f : Int → Int → Int) (fe : EM D) : SM := fun env st => match env[i]? with
  | some (some (.int a)) => (fe env st).toS env fun d st1 => match d with
    | .int b => .nx (env.set i (some (.int (f a b)))) st1
    | _ => .bad
  | _ => .bad
theorem s_aug (i : Nat) {op : Operator} {f : Int → Int → Int} {x : Str} {a : Expr} {fa : EM D} {pos p1 : Pos} (ho : PIp X op (ipI f)) (he : PE X a (rdE S W fa)) (hN : X.N.Nodup) (hi : X.N[i]? = some x := by rfl) (hx : Loc X.env.scope x := by first | exact Or.inl rfl | exact Or.inr rfl)
    (hf : X.fn x = true ∨ X.env.scope.names.lookup x = some .local := by first | exact .inl rfl | exact .inr rfl) : PS X (.AugAssign (.Name x p1) op a pos) (rdS S W (sAug i f fa)) := PS.weak (ps_aug hN hi hx he ho hf) fun σ H E h => by
  obtain ⟨r, env, st, o, eo, h⟩ := h
  unfold sAug at h
  cases q : env[i]? with
  | none => simp only [q] at h; exact h.elim
  | some y =>
    cases y with
    | none => simp only [q] at h; exact h.elim
    | some d =>
      cases d with
      | int n =>
        simp only [q] at h
        obtain ⟨v, e1, e2⟩ := eo.at_ i _ q
        unfold Rep at e2
        subst e2
        refine ⟨.int n, e1, r, env, st, o, eo, EndS.bind h eo fun d st1 r1 H1 w l1 o1 rx h1 => ?_⟩
        cases d with
        | int m =>
          unfold Rep at rx
          exact ⟨n, m, rfl, rx, h1 r1 _ H1 o1.refl o1 ((eo.mono l1).set rep_int)⟩
        | _ => exact h1.elim
      | _ => simp only [q] at h; exact h.elim
/-! ### while -/
def sWhile (c : EM Bool) (b : SM) : Nat → SM
  | 0 => fun _ _ => .bad
  | m + 1 => fun env st => (c env st).toS env fun t st1 => if t = true then match b env st1 with
    | .nx env2 st2 => sWhile c b m env2 st2
    | .ct env2 st2 => sWhile c b m env2 st2
    | .bk env2 st2 => .nx env2 st2
    | o => o else .nx env st1
theorem s_while (m : Nat) {c : Expr} {body : List Stmt} {fc : EM Bool} {fb : SM} {pos : Pos} (hp : PassesOwn (model X.prog X.w) X.A X.env X.xe) (hc : PT X c (rdB S W fc)) (hb : PSs X body (rdS S W fb)) : PS X (.While c body [] pos) (rdS S W (sWhile fc fb m)) :=
  PS.weak (ps_while hp hc hb) fun σ H E h => by
  refine ⟨fun k σ H => rdS S W (sWhile fc fb k) E σ H, ⟨m, h⟩, ?_⟩
  rintro k σ1 H1 ⟨r, env, st, o, eo, h⟩
  cases k with
  | zero => exact h.elim
  | succ k =>
    refine ⟨r, env, st, o, eo, EndS.bind h eo fun t st1 r1 H2 v l1 o1 rx h1 => ?_⟩
    obtain rfl : v = t := rx
    cases v with
    | false => exact iteF (h1 r1 σ1 H2 o1.refl o1 (eo.mono l1))
    | true =>
      refine iteT ⟨fun σ' H' => rdS S W (sWhile fc fb k) E σ' H', fun σ' H' z => ⟨k, Nat.lt_succ_self k, z⟩, r1, env, st1, o1, eo.mono l1, ?_⟩
      rw [if_pos rfl] at h1
      cases q : fb env st1 with
      | nx env' st' => rw [q] at h1; exact fun r' σ' H' l' o' eo' => ⟨r', env', st', o', eo', EndS.le l' h1⟩
      | ct env' st' => rw [q] at h1; exact fun r' σ' H' l' o' eo' => ⟨r', env', st', o', eo', EndS.le l' h1⟩
      | bk env' st' => rw [q] at h1; exact h1
      | rt d st' => rw [q] at h1; exact h1
      | exc c d env' st' => rw [q] at h1; exact h1
      | bad => rw [q] at h1; exact h1
end

/-! ### a def's end: what it made is frozen and dropped -/
mutual
def below (n : Nat) : D → Bool
  | .tup ds => belowL n ds
  | .lst ds => belowL n ds
  | .obj _ _ ds => belowL n ds
  | .ref k => decide (k < n)
  | .exn _ _ => false
  | _ => true
def belowL (n : Nat) : List D → Bool
  | [] => true
  | d :: ds => below n d && belowL n ds
end
def belowC (n : Nat) : Cell → Bool
  | .lst ds => belowL n ds
  | .ins _ _ ds => belowL n ds
  | .dK _ ds => belowL n ds
  | .dT _ ds => belowL n ds
mutual
def dbeq : D → D → Bool
  | .non, .non => true
  | .bl a, .bl b => a == b
  | .int a, .int b => a == b
  | .str a, .str b => decide (a = b)
  | .tup a, .tup b => dbeqL a b
  | .lst a, .lst b => dbeqL a b
  | .scr a, .scr b => a == b
  | .obj c ks a, .obj c' ks' b => c == c' && ks == ks' && dbeqL a b
  | .ref a, .ref b => a == b
  | .exn c a, .exn c' b => c == c' && dbeq a b
  | _, _ => false
def dbeqL : List D → List D → Bool
  | [], [] => true
  | a :: as, b :: bs => dbeq a b && dbeqL as bs
  | _, _ => false
end
mutual
theorem dbeq_eq : ∀ a b : D, dbeq a b = true → a = b
  | .non, b, h => by cases b <;> simp [dbeq] at h; rfl
  | .bl a, b, h => by cases b <;> simp [dbeq] at h; rw [h]
  | .int a, b, h => by cases b <;> simp [dbeq] at h; rw [h]
  | .str a, b, h => by cases b <;> simp [dbeq] at h; rw [h]
  | .tup a, b, h => by
    cases b <;> simp [dbeq] at h
    rw [dbeqL_eq _ _ h]
  | .lst a, b, h => by
    cases b <;> simp [dbeq] at h
    rw [dbeqL_eq _ _ h]
  | .scr a, b, h => by cases b <;> simp [dbeq] at h; rw [h]
  | .obj c ks a, b, h => by
    cases b <;> simp [dbeq] at h
    rw [h.1.1, h.1.2, dbeqL_eq _ _ h.2]
  | .ref a, b, h => by cases b <;> simp [dbeq] at h; rw [h]
  | .exn c a, b, h => by
    cases b <;> simp [dbeq] at h
    rw [h.1, dbeq_eq _ _ h.2]
theorem dbeqL_eq : ∀ a b : List D, dbeqL a b = true → a = b
  | [], b, h => by cases b <;> simp [dbeqL] at h; rfl
  | a :: as, b, h => by
    cases b with
    | nil => simp [dbeqL] at h
    | cons b bs =>
      simp [dbeqL] at h
      rw [dbeq_eq a b h.1, dbeqL_eq as bs h.2]
end
mutual
theorem dbeq_refl : ∀ a : D, dbeq a a = true
  | .non => by simp [dbeq]
  | .bl a => by simp [dbeq]
  | .int a => by simp [dbeq]
  | .str a => by simp [dbeq]
  | .tup a => by simp [dbeq, dbeqL_refl a]
  | .lst a => by simp [dbeq, dbeqL_refl a]
  | .scr a => by simp [dbeq]
  | .obj c ks a => by simp [dbeq, dbeqL_refl a]
  | .ref a => by simp [dbeq]
  | .exn c a => by simp [dbeq, dbeq_refl a]
theorem dbeqL_refl : ∀ a : List D, dbeqL a a = true
  | [] => by simp [dbeqL]
  | a :: as => by simp [dbeqL, dbeq_refl a, dbeqL_refl as]
end
def cbeq : Cell → Cell → Bool
  | .lst a, .lst b => dbeqL a b
  | .ins c ks a, .ins c' ks' b => c == c' && ks == ks' && dbeqL a b
  | .dK ks a, .dK ks' b => decide (ks = ks') && dbeqL a b
  | .dT ks a, .dT ks' b => decide (ks = ks') && dbeqL a b
  | _, _ => false
theorem cbeq_eq {a b : Cell} (h : cbeq a b = true) : a = b := by
  cases a <;> cases b <;> simp [cbeq] at h
  · rw [dbeqL_eq _ _ h]
  · rw [h.1.1, h.1.2, dbeqL_eq _ _ h.2]
  · rw [h.1, dbeqL_eq _ _ h.2]
  · rw [h.1, dbeqL_eq _ _ h.2]
theorem cbeq_refl (a : Cell) : cbeq a a = true := by cases a <;> simp [cbeq, dbeqL_refl]
def popB (st st' : Sto) : Bool := (List.range st.length).all fun k => match st[k]?, st'[k]? with
  | some a, some b => cbeq a b || belowC st.length b
  | _, _ => false
mutual
def frzG (on : Nat → Option D) : D → Option D
  | .ref k => on k
  | .tup ds => match frzL on ds with
    | some es => some (.tup es)
    | none => none
  | .lst ds => match frzL on ds with
    | some es => some (.lst es)
    | none => none
  | .obj c ks ds => match frzL on ds with
    | some es => some (.obj c ks es)
    | none => none
  | .exn _ _ => none
  | d => some d
def frzL (on : Nat → Option D) : List D → Option (List D)
  | [] => some []
  | d :: ds => match frzG on d, frzL on ds with
    | some e, some es => some (e :: es)
    | _, _ => none
end
def frz (st : Sto) (n : Nat) : Nat → D → Option D
  | 0 => frzG fun k => if k < n then some (.ref k) else none
  | f + 1 => frzG fun k => if k < n then some (.ref k) else match st[k]? with
    | some (.lst ds) => match frzL (fun j => frz st n f (.ref j)) ds with
      | some es => some (.lst es)
      | none => none
    | some (.ins c ks ds) => match frzL (fun j => frz st n f (.ref j)) ds with
      | some es => some (.obj c ks es)
      | none => none
    | _ => none
def popR (keep : Bool) (st : Sto) (x : Res D) : Res D := if keep then x else match x with
  | .ok d st' => match frz st' st.length 5 d with
    | some e => if popB st st' = true then .ok e (st'.take st.length) else .bad
    | none => .bad
  | .exc c d st' => if (popB st st' && below st.length d) = true then .exc c d (st'.take st.length) else .bad
  | .bad => .bad
def bodyR : Out → Res D
  | .nx _ st => .ok .non st
  | .rt d st => .ok d st
  | .exc c d _ st => .exc c d st
  | _ => .bad
def runF (keep : Bool) (slots : Nat) (f : SM) (ds : List D) (st : Sto) : Res D := popR keep st (bodyR (f (ds.map some ++ List.replicate (slots - ds.length) none) st))
section
variable {S : Stat} {r : Rho} {n n' : Nat} {H : Hp} {st : Sto}
mutual
theorem below_of (hx : S.ex = none) : ∀ (d : D) (v : V), Rep S r n H d v → below n d = true
  | .tup ds, v, h => by
    unfold Rep at h
    obtain ⟨_, _, _, _, h⟩ := h
    exact (by simpa [below] using belowL_of hx ds _ h)
  | .lst ds, v, h => by
    unfold Rep at h
    obtain ⟨_, _, _, _, _, h⟩ := h
    exact (by simpa [below] using belowL_of hx ds _ h)
  | .obj c ks ds, v, h => by
    unfold Rep at h
    obtain ⟨_, _, _, _, _, _, _, h⟩ := h
    exact (by simpa [below] using belowL_of hx ds _ h)
  | .ref k, v, h => by
    unfold Rep at h
    simpa [below] using h.1
  | .non, _, _ => rfl
  | .bl _, _, _ => rfl
  | .int _, _, _ => rfl
  | .str _, _, _ => rfl
  | .scr _, _, _ => rfl
  | .exn _ _, v, h => by
    unfold Rep at h
    obtain ⟨_, _, _, e, _⟩ := h
    rw [hx] at e
    cases e
theorem belowL_of (hx : S.ex = none) : ∀ (ds : List D) (vs : List V), RepL S r n H ds vs → belowL n ds = true
  | [], _, _ => rfl
  | d :: ds, vs, h => by
    unfold RepL at h
    obtain ⟨v, w, _, h1, h2⟩ := h
    simp [belowL, below_of hx d v h1, belowL_of hx ds w h2]
end
theorem Off.cut {a : Addr} (hn : n ≤ n') (h : Off r n' a) : Off r n a := fun k hk => h k (Nat.lt_of_lt_of_le hk hn)
mutual
theorem Rep.cut (hn : n ≤ n') : ∀ (d : D) (v : V), Rep S r n' H d v → below n d = true → Rep S r n H d v
  | .tup ds, v, h, b => by
    unfold Rep at h ⊢
    obtain ⟨a, xs, e, h1, h2⟩ := h
    exact ⟨a, xs, e, h1, RepL.cut hn ds xs h2 (by simpa [below] using b)⟩
  | .lst ds, v, h, b => by
    unfold Rep at h ⊢
    obtain ⟨a, xs, e, h1, ho, h2⟩ := h
    exact ⟨a, xs, e, h1, ho.cut hn, RepL.cut hn ds xs h2 (by simpa [below] using b)⟩
  | .obj c ks ds, v, h, b => by
    unfold Rep at h ⊢
    obtain ⟨a, dx, fs, e, h1, ho, h2, h3⟩ := h
    exact ⟨a, dx, fs, e, h1, ho.cut hn, h2, RepL.cut hn ds _ h3 (by simpa [below] using b)⟩
  | .ref k, v, h, b => by
    unfold Rep at h ⊢
    exact ⟨by simpa [below] using b, h.2⟩
  | .non, v, h, b => by unfold Rep at h ⊢; exact h
  | .bl _, v, h, b => by unfold Rep at h ⊢; exact h
  | .int _, v, h, b => by unfold Rep at h ⊢; exact h
  | .str _, v, h, b => by unfold Rep at h ⊢; exact h
  | .scr _, v, h, b => by unfold Rep at h ⊢; exact h
  | .exn _ _, v, h, b => by simp [below] at b
theorem RepL.cut (hn : n ≤ n') : ∀ (ds : List D) (vs : List V), RepL S r n' H ds vs → belowL n ds = true → RepL S r n H ds vs
  | [], vs, h, b => by unfold RepL at h ⊢; exact h
  | d :: ds, vs, h, b => by
    unfold RepL at h ⊢
    obtain ⟨v, w, e, h1, h2⟩ := h
    have b' : below n d = true ∧ belowL n ds = true := by simpa [belowL] using b
    exact ⟨v, w, e, Rep.cut hn d v h1 b'.1, RepL.cut hn ds w h2 b'.2⟩
end
mutual
theorem frzG_ok {on : Nat → Option D} (hn : n ≤ n') (hon : ∀ k d v, Rep S r n' H (.ref k) v → on k = some d → Rep S r n H d v) : ∀ (d e : D) (v : V), Rep S r n' H d v → frzG on d = some e → Rep S r n H e v
  | .ref k, e, v, h, q => hon k e v h (by simpa [frzG] using q)
  | .tup ds, e, v, h, q => by
    unfold frzG at q
    unfold Rep at h
    obtain ⟨a, xs, e1, h1, h2⟩ := h
    split at q
    · rename_i es q2
      cases q
      unfold Rep
      exact ⟨a, xs, e1, h1, frzL_ok hn hon ds es xs h2 q2⟩
    · cases q
  | .lst ds, e, v, h, q => by
    unfold frzG at q
    unfold Rep at h
    obtain ⟨a, xs, e1, h1, ho, h2⟩ := h
    split at q
    · rename_i es q2
      cases q
      unfold Rep
      exact ⟨a, xs, e1, h1, ho.cut hn, frzL_ok hn hon ds es xs h2 q2⟩
    · cases q
  | .obj c ks ds, e, v, h, q => by
    unfold frzG at q
    unfold Rep at h
    obtain ⟨a, dx, fs, e1, h1, ho, h2, h3⟩ := h
    split at q
    · rename_i es q2
      cases q
      unfold Rep
      exact ⟨a, dx, fs, e1, h1, ho.cut hn, h2, frzL_ok hn hon ds es _ h3 q2⟩
    · cases q
  | .non, e, v, h, q => by unfold frzG at q; cases q; unfold Rep at h ⊢; exact h
  | .bl _, e, v, h, q => by unfold frzG at q; cases q; unfold Rep at h ⊢; exact h
  | .int _, e, v, h, q => by unfold frzG at q; cases q; unfold Rep at h ⊢; exact h
  | .str _, e, v, h, q => by unfold frzG at q; cases q; unfold Rep at h ⊢; exact h
  | .scr _, e, v, h, q => by unfold frzG at q; cases q; unfold Rep at h ⊢; exact h
  | .exn _ _, e, v, h, q => by unfold frzG at q; cases q
theorem frzL_ok {on : Nat → Option D} (hn : n ≤ n') (hon : ∀ k d v, Rep S r n' H (.ref k) v → on k = some d → Rep S r n H d v) : ∀ (ds es : List D) (vs : List V), RepL S r n' H ds vs → frzL on ds = some es → RepL S r n H es vs
  | [], es, vs, h, q => by
    unfold frzL at q
    cases q
    unfold RepL at h ⊢
    exact h
  | d :: ds, es, vs, h, q => by
    unfold frzL at q
    unfold RepL at h
    obtain ⟨v, w, e, h1, h2⟩ := h
    split at q
    · rename_i e1 es1 q1 q2
      cases q
      unfold RepL
      exact ⟨v, w, e, frzG_ok hn hon d e1 v h1 q1, frzL_ok hn hon ds es1 w h2 q2⟩
    · cases q
end
theorem frz_ok (o : Ok S r st H) (hn : n ≤ st.length) : ∀ (f : Nat) (d e : D) (v : V), Rep S r st.length H d v → frz st n f d = some e → Rep S r n H e v
  | 0, d, e, v, h, q => by
    refine frzG_ok hn (fun k d' w h' q' => ?_) d e v h q
    split at q'
    · rename_i hk
      cases q'
      unfold Rep at h' ⊢
      exact ⟨hk, h'.2⟩
    · cases q'
  | f + 1, d, e, v, h, q => by
    refine frzG_ok hn (fun k d' w h' q' => ?_) d e v h q
    unfold Rep at h'
    split at q'
    · rename_i hk
      cases q'
      unfold Rep
      exact ⟨hk, h'.2⟩
    · rename_i hk
      have off : Off r n (r k) := fun j hj e => hk (o.inj j k (Nat.lt_of_lt_of_le hj hn) h'.1 e ▸ hj)
      cases q1 : st[k]? with
      | none => simp only [q1] at q'; cases q'
      | some c =>
        have hon := fun (j : Nat) (d2 : D) (v2 : V) (h2 : Rep S r st.length H (.ref j) v2) (e2 : frz st n f (.ref j) = some d2) => frz_ok o hn f (.ref j) d2 v2 h2 e2
        cases c with
        | lst ds =>
          simp only [q1] at q'
          split at q'
          · rename_i es q2
            cases q'
            obtain ⟨xs, e1, e2⟩ := o.cel k _ q1
            unfold Rep
            exact ⟨r k, xs, h'.2, e1, off, frzL_ok hn hon ds es xs e2 q2⟩
          · cases q'
        | ins c ks ds =>
          simp only [q1] at q'
          split at q'
          · rename_i es q2
            cases q'
            obtain ⟨dx, fs, e1, e2, e3⟩ := o.cel k _ q1
            unfold Rep
            exact ⟨r k, dx, fs, h'.2, e1, off, e2, frzL_ok hn hon ds es _ e3 q2⟩
          · cases q'
        | _ => simp only [q1] at q'; cases q'
theorem belowC_of (hx : S.ex = none) {a : Addr} {c : Cell} (h : CellOk S r n H a c) : belowC n c = true := by
  cases c with
  | lst ds => obtain ⟨_, _, h⟩ := h; exact belowL_of hx _ _ h
  | ins c ks ds => obtain ⟨_, _, _, _, h⟩ := h; exact belowL_of hx _ _ h
  | dK ks ds => obtain ⟨_, _, _, h⟩ := h; exact belowL_of hx _ _ h
  | dT ks ds => obtain ⟨_, _, _, h⟩ := h; exact belowL_of hx _ _ h
theorem CellOk.cut {a : Addr} {c : Cell} (hn : n ≤ n') (h : CellOk S r n' H a c) (b : belowC n c = true) : CellOk S r n H a c := by
  cases c with
  | lst ds => obtain ⟨xs, e, h⟩ := h; exact ⟨xs, e, RepL.cut hn _ _ h b⟩
  | ins c ks ds => obtain ⟨dx, fs, e, e2, h⟩ := h; exact ⟨dx, fs, e, e2, RepL.cut hn _ _ h b⟩
  | dK ks ds => obtain ⟨xs, e, e2, h⟩ := h; exact ⟨xs, e, e2, RepL.cut hn _ _ h b⟩
  | dT ks ds => obtain ⟨xs, e, e2, h⟩ := h; exact ⟨xs, e, e2, RepL.cut hn _ _ h b⟩
theorem pop_ok (hx : S.ex = none) {r' : Rho} {H' : Hp} {st' : Sto} (o : Ok S r st H) (l : Le r st.length H r' st'.length H') (o' : Ok S r' st' H') (hb : popB st st' = true) :
    Le r st.length H r' (st'.take st.length).length H' ∧ Ok S r' (st'.take st.length) H' := by
  have hl : (st'.take st.length).length = st.length := by
    rw [List.length_take]
    have := l.len
    omega
  rw [hl]
  refine ⟨⟨Nat.le_refl _, l.eq, l.liv, fun b u h ho => ⟨(l.keep b u h ho).1, (l.keep b u h ho).2.cut l.len⟩⟩, ⟨fun j k hj hk => o'.inj j k ?_ ?_, fun k c e => ?_⟩⟩
  · have := l.len; omega
  · have := l.len; omega
  · have hk : k < st.length := by
      have := (List.getElem?_eq_some_iff.mp e).1
      omega
    rw [List.getElem?_take_of_lt hk] at e
    have q := List.all_eq_true.mp hb k (List.mem_range.mpr hk)
    have e0 : st[k]? = some st[k] := by simp [hk]
    rw [e0, e] at q
    simp only [Bool.or_eq_true] at q
    rw [hl]
    refine CellOk.cut l.len (o'.cel k c e) ?_
    rcases q with q | q
    · rw [← cbeq_eq q]
      exact belowC_of hx (o.cel k _ e0)
    · exact q
end

/-! ### the promise of a def -/
open PyProof.Rows
def WC (E : XK) : WX := fun c d _ H => E c d H
def spM (S : Stat) (ar : Nat) (cf : List D → Sto → Res D) : Sp := fun vs H Q E => vs.length = ar ∧ ∃ r st ds, Ok S r st H ∧ RepL S r st.length H ds vs ∧ End S (Rep S) (WC E) [] r st.length H Q (cf ds st)
theorem End.wish {S : Stat} {r : Rho} {n : Nat} {H : Hp} {Q : VK} {W W' : WX} {σ σ' : L2.St} {x : Res D} (h : End S (Rep S) W σ r n H Q x) (k : ∀ c d H, W c d σ H → W' c d σ' H) : End S (Rep S) W' σ' r n H Q x := by
  cases x with
  | ok a st => exact h
  | exc c d st => exact fun r' H' dx v l o hx hr => k _ _ _ (h r' H' dx v l o hx hr)
  | bad => exact h
section
variable {S : Stat} {P : Program} {w : World} {K : PySem.W.Frag} {mg : Str → Option Value} {base : Heap}
theorem def_ok (hx0 : S.ex = none) {x qual : Str} {st : Stmt} {f : Addr} {fd : FuncData} {N ps : List Str} {k : Nat} (keep : Bool) {fb : SM} (F : Fun K x qual st f fd) (sc : FnScope N ps (defScope st))
    (hb : ∀ (cdv : Value) (A : Around) (outer : List Env) (s : Shared) (H : Hp) (E : XK), Room k (A.deeper (envOfC qual (defScope st) s.heap.objs.size f cdv)) →
      PSs (cxOf (L2.CX P w) P w K mg base N qual (defScope st) f cdv A outer s H E) (defBody st) (rdS S (WC E) fb)) :
    FnOk P w K mg base (L2.CX P w) (k + 1) f fd ps (spM S ps.length (runF keep N.length fb)) := by
  refine F.okX sc (fun vs H Q E h => h.1) fun cdv A outer s H vs Q E hr h => ⟨_, hb cdv A outer s H E hr, ?_⟩
  obtain ⟨hl, r, s0, ds, o, rv, h⟩ := h
  refine ⟨r, ds.map some ++ List.replicate (N.length - ds.length) none, s0, o, ?_, ?_⟩
  · refine ⟨by unfold L2.start; simp [rv.length], fun i d e => ?_⟩
    by_cases hi : i < ds.length
    · rw [List.getElem?_append_left (by simpa using hi), List.getElem?_map] at e
      have e' : ds[i]? = some d := by
        cases q : ds[i]? with
        | none => rw [q] at e; cases e
        | some z => rw [q] at e; simpa using e
      obtain ⟨v, e1, e2⟩ := rv.get e'
      refine ⟨v, ?_, e2⟩
      unfold L2.start
      rw [List.getElem?_append_left (by rw [List.length_map, ← rv.length]; exact hi), List.getElem?_map, e1]
      rfl
    · rw [List.getElem?_append_right (by simpa using hi)] at e
      have := List.getElem?_replicate ▸ e
      split at this <;> cases this
  · unfold runF at h
    generalize fb (ds.map some ++ List.replicate (N.length - ds.length) none) s0 = out at h ⊢
    have ret : ∀ d st', End S (Rep S) (WC E) [] r s0.length H Q (popR keep s0 (.ok d st')) → ∀ r' H' v, Le r s0.length H r' st'.length H' → Ok S r' st' H' → Rep S r' st'.length H' d v → Q v H' := fun d st' h r' H' v l o' rv => by
      unfold popR at h
      cases keep with
      | true => exact h r' H' v l o' rv
      | false =>
        simp only [Bool.false_eq_true, if_false] at h
        cases q : frz st' s0.length 5 d with
        | none => simp only [q] at h; exact h.elim
        | some e =>
          simp only [q] at h
          by_cases hp : popB s0 st' = true
          · simp only [if_pos hp] at h
            obtain ⟨l2, o2⟩ := pop_ok hx0 o l o' hp
            have hlen : (st'.take s0.length).length = s0.length := by
              rw [List.length_take]
              have := l.len
              omega
            exact h r' H' v l2 o2 (by rw [hlen]; exact frz_ok o' l.len 5 d e v rv q)
          · simp only [if_neg hp] at h; exact h.elim
    cases out with
    | nx env' st' => exact fun r' σ' H' l o' _ => ret .non st' h r' H' .non l o' rep_non
    | rt d st' => exact ret d st' h
    | bk env' st' =>
      have : False := by
        unfold bodyR popR at h
        cases keep <;> exact h
      exact this.elim
    | ct env' st' =>
      have : False := by
        unfold bodyR popR at h
        cases keep <;> exact h
      exact this.elim
    | bad =>
      have : False := by
        unfold bodyR popR at h
        cases keep <;> exact h
      exact this.elim
    | exc c d env' st' =>
      intro r' σ' H' dx v l o' _ hx hr
      unfold bodyR popR at h
      cases keep with
      | true => exact h r' H' dx v l o' hx hr
      | false =>
        simp only [Bool.false_eq_true, if_false] at h
        by_cases hp : (popB s0 st' && below s0.length d) = true
        · simp only [if_pos hp] at h
          have hp2 := (Bool.and_eq_true_iff.mp hp)
          obtain ⟨l2, o2⟩ := pop_ok hx0 o l o' hp2.1
          have hlen : (st'.take s0.length).length = s0.length := by
            rw [List.length_take]
            have := l.len
            omega
          exact h r' H' dx v l2 o2 hx (by rw [hlen]; exact Rep.cut l.len d v hr hp2.2)
        · simp only [if_neg hp] at h; exact h.elim
end

/-! ### calls -/
def mCall (cf : List D → Sto → Res D) (g : EM (List D)) : EM D := fun env st => (g env st).bind fun ds st1 => cf ds st1
section
variable {S : Stat} {X : Cx} {W : WX} {k ar : Nat} {f : Addr} {fd : FuncData} {ps : List Str} {x : Str} {e : Expr} {es : List Expr} {g : EM (List D)} {cf : List D → Sto → Res D} {p pos : Pos}
theorem md_call : ∀ σ H Q, rdE S W (fun env st => (g env st).bind fun ds st1 => if ds.length = ar then cf ds st1 else .bad) σ H Q → tCallSD (spM S ar cf) [] (L2.WE W) (rdA S W g) σ H Q := fun σ H Q h => by
  obtain ⟨r, env, st, o, eo, h⟩ := h
  refine ⟨r, env, st, o, eo, End.bind h fun ds st1 r1 H1 vs l1 o1 rx h1 => ?_⟩
  split at h1
  · rename_i hl
    refine ⟨by rw [List.append_nil, ← rx.length]; exact hl, r1, st1, ds, o1, by rw [List.append_nil]; exact rx, h1.wish fun c d H z => z⟩
  · exact h1.elim
def mCallN (ar : Nat) (cf : List D → Sto → Res D) (g : EM (List D)) : EM D := fun env st => (g env st).bind fun ds st1 => if ds.length = ar then cf ds st1 else .bad
theorem e_call (F : FnOk X.prog X.w X.K X.mg X.base (L2.CX X.prog X.w) k f fd ps (spM S ar cf)) (hr : Room k X.A) (hm : X.mg x = some (.ref f)) (hk : PySem.W.keepIn X.K (.ref f) = true) (hb : Binds X.K fd ps []) (tk : Takes X W)
    (ha : PA X (e :: es) (rdA S W g)) (hg : Gl X x := by rfl) (hdb : (x == ("__debug__" : Str)) = false := by decide) (he : starEach (e :: es) X.env = (false, eval e X.env) :: starEach es X.env := by rfl) (hpl : (backTo pos (starEach es X.env)).any (·.1) = false := by rfl) :
    PE X (.Call (.Name x p) (e :: es) [] pos) (rdE S W (mCallN ar cf g)) := PE.weak (pe_callSD F hr hg hm hk hb .nil (passAt tk) ha hdb he hpl) md_call
end
end Cw

/-! What is walked; for; comprehensions. -/
namespace Cw
open PySem L2

/-- what a loop walks: its items, and the live lists that must stay as they are meanwhile -/
structure IterD where
  items : List D
  lock : List (Nat × List D)
def lockB (l : List (Nat × List D)) (st : Sto) : Bool := l.all fun p => match st[p.1]? with
  | some c => cbeq c (.lst p.2)
  | none => false
structure WalkD (S : Stat) (it : IterD) (r0 : Rho) (n0 : Nat) (H0 : Hp) (J : It) : Prop where
  go : ∀ i r st H, i < it.items.length → Le r0 n0 H0 r st.length H → Ok S r st H → lockB it.lock st = true → J.go i H
  stop : ∀ r st H, Le r0 n0 H0 r st.length H → Ok S r st H → lockB it.lock st = true → J.stop it.items.length H
  yld : ∀ (i : Nat) r st H x H' (d : D), it.items[i]? = some d → Le r0 n0 H0 r st.length H → Ok S r st H → lockB it.lock st = true → J.yld i H x H' → Le r st.length H r st.length H' ∧ Ok S r st H' ∧ Rep S r st.length H' d x
def EndI (S : Stat) (W : WX) (σ : L2.St) (r : Rho) (n : Nat) (H : Hp) (R : It → Hp → Prop) : Res IterD → Prop
  | .ok it st' => ∀ r' H' J, Le r n H r' st'.length H' → Ok S r' st' H' → WalkD S it r' st'.length H' J → R J H'
  | .exc c d st' => ∀ r' H' dx v, Le r n H r' st'.length H' → Ok S r' st' H' → H' dx = some (.xd [(S.EN c, v)]) → Rep S r' st'.length H' d v → W (.ref (S.CA c)) (some dx) σ H'
  | .bad => False
def rdI (S : Stat) (W : WX) (f : EM IterD) : TI := fun σ H R => ∃ r env st, Ok S r st H ∧ EnvOk S r st.length H env σ ∧ EndI S W σ r st.length H R (f env st)
section
variable {S : Stat} {W : WX} {X : Cx} {r : Rho} {n : Nat} {H : Hp} {σ : L2.St} {env : En} {st : Sto}
theorem EndI.le {r1 : Rho} {n1 : Nat} {H1 : Hp} {R : It → Hp → Prop} {x : Res IterD} (l : Le r n H r1 n1 H1) (h : EndI S W σ r n H R x) : EndI S W σ r1 n1 H1 R x := by
  cases x with
  | ok it st => exact fun r' H' J l' => h r' H' J (l.trans l')
  | exc c d st => exact fun r' H' dx v l' => h r' H' dx v (l.trans l')
  | bad => exact h
theorem EndI.bind {α β : Type} {R : Rho → Nat → Hp → α → β → Prop} {Q' : β → Hp → Prop} {R' : It → Hp → Prop} {x : Res α} {g : α → Sto → Res IterD} (h : EndI S W σ r n H R' (x.bind g))
    (k : ∀ a st1 r1 H1 v, Le r n H r1 st1.length H1 → Ok S r1 st1 H1 → R r1 st1.length H1 a v → EndI S W σ r1 st1.length H1 R' (g a st1) → Q' v H1) : End S R W σ r n H Q' x := by
  cases x with
  | ok a st => exact fun r' H' v l o hr => k a st r' H' v l o hr (EndI.le l h)
  | exc c d st => exact h
  | bad => exact h
theorem lock_nil : lockB [] st = true := rfl
theorem lock_one {k : Nat} {ds : List D} (h : lockB [(k, ds)] st = true) : st[k]? = some (.lst ds) := by
  unfold lockB at h
  simp only [List.all_cons, List.all_nil, Bool.and_true] at h
  cases q : st[k]? with
  | none => simp only [q] at h; cases h
  | some c =>
    simp only [q] at h
    rw [cbeq_eq h]
/-- the items of a sequence, and what must stay -/
def iterOf (st : Sto) (d : D) : Option IterD := match d with
  | .tup ds => some ⟨ds, []⟩
  | .lst ds => some ⟨ds, []⟩
  | .scr ns => some ⟨ns.map D.int, []⟩
  | .str z => some ⟨z.cps.toList.map fun c => .str ⟨#[c]⟩, []⟩
  | .ref k => match st[k]? with
    | some (.lst ds) => some ⟨ds, [(k, ds)]⟩
    | _ => none
  | _ => none
def iSeq (fa : EM D) : EM IterD := fun env st => (fa env st).bind fun d st1 => match iterOf st1 d with
  | some it => .ok it st1
  | none => .bad
/-- a list that is walked: it is readable at all later states -/
def LstAt (S : Stat) (it : IterD) (r0 : Rho) (n0 : Nat) (H0 : Hp) (a : Addr) (xs : List V) : Prop :=
  ∀ r st H, Le r0 n0 H0 r st.length H → Ok S r st H → lockB it.lock st = true → ∃ ys, SqL S.K H a ys ∧ RepL S r st.length H it.items ys
theorem walk_lstD {it : IterD} {a : Addr} {xs : List V} (h : LstAt S it r n H a xs) : WalkD S it r n H (Itl S.K a) := by
  refine ⟨fun i r1 st1 H1 hi l o k => ?_, fun r1 st1 H1 l o k => ?_, fun i r1 st1 H1 x H' d hd l o k y => ?_⟩
  · obtain ⟨ys, q1, q2⟩ := h r1 st1 H1 l o k
    exact walk_list.goes i H1 (by rw [← q2.length]; exact hi) q1
  · obtain ⟨ys, q1, q2⟩ := h r1 st1 H1 l o k
    rw [q2.length]
    exact walk_list.stops H1 q1
  · obtain ⟨ys, q1, q2⟩ := h r1 st1 H1 l o k
    obtain ⟨v, e1, e2⟩ := q2.get hd
    obtain ⟨z1, z2⟩ := walk_list.yields i H1 x H' (by
      have := (List.getElem?_eq_some_iff.mp e1).1
      exact this) q1 y
    subst z1
    rw [e1] at z2
    cases z2
    exact ⟨o.refl, o, e2⟩
theorem lstAt_frz {ds : List D} {v : V} (h : Rep S r n H (.lst ds) v) : ∃ a xs, v = .ref a ∧ SqL S.K H a xs ∧ LstAt S ⟨ds, []⟩ r n H a xs := by
  have h' := h
  unfold Rep at h
  obtain ⟨a, xs, e, h1, h2, h3⟩ := h
  refine ⟨a, xs, e, SqL.of h1, fun r1 st1 H1 l o _ => ⟨xs, SqL.of (l.keep a _ h1 h2).1, RepL.mono l _ _ h3⟩⟩
theorem lstAt_scr {ns : List Int} {v : V} (h : Rep S r n H (.scr ns) v) : ∃ a xs, v = .ref a ∧ SqL S.K H a xs ∧ LstAt S ⟨ns.map D.int, []⟩ r n H a xs := by
  unfold Rep at h
  obtain ⟨a, e, h1⟩ := h
  refine ⟨a, _, e, h1.sql, fun r1 st1 H1 l o _ => ⟨_, ?_, repL_ints ns⟩⟩
  rcases h1 with ⟨u, h1⟩ | h1
  · exact .inl (.inr ⟨u, (l.keep a _ h1 (l.off_tup h1 fun z => z)).1⟩)
  · exact .inr h1
theorem lstAt_cel {k : Nat} {ds : List D} {v : V} (o0 : Ok S r st H) (h : Rep S r st.length H (.ref k) v) (q : st[k]? = some (.lst ds)) : ∃ a xs, v = .ref a ∧ SqL S.K H a xs ∧ LstAt S ⟨ds, [(k, ds)]⟩ r st.length H a xs := by
  unfold Rep at h
  obtain ⟨xs, e1, e2⟩ := o0.cel k _ q
  refine ⟨r k, xs, h.2, SqL.of e1, fun r1 st1 H1 l o hk => ?_⟩
  obtain ⟨ys, g1, g2⟩ := o.cel k _ (lock_one hk)
  rw [l.eq k h.1] at g1
  exact ⟨ys, SqL.of g1, g2⟩
theorem walk_tupD {ds : List D} {a : Addr} {xs : List V} (h1 : SqT S.K H a xs) (h2 : RepL S r n H ds xs) : WalkD S ⟨ds, []⟩ r n H (Itt S.K a) := by
  refine ⟨fun i r1 st1 H1 hi l o k => walk_tup.goes i H1 (by rw [← h2.length]; exact hi) (sqT_mono l h1), fun r1 st1 H1 l o k => ?_, fun i r1 st1 H1 x H' d hd l o k y => ?_⟩
  · show (Itt S.K a).stop ds.length H1
    rw [h2.length]
    exact walk_tup.stops H1 (sqT_mono l h1)
  · obtain ⟨v, e1, e2⟩ := (RepL.mono l _ _ h2).get hd
    obtain ⟨z1, z2⟩ := walk_tup.yields i H1 x H' (List.getElem?_eq_some_iff.mp e1).1 (sqT_mono l h1) y
    subst z1
    rw [e1] at z2
    cases z2
    exact ⟨o.refl, o, e2⟩
theorem walk_strD {z : Str} : WalkD S ⟨z.cps.toList.map fun c => .str ⟨#[c]⟩, []⟩ r n H (Its z) := by
  refine ⟨fun i r1 st1 H1 hi l o k => walk_str.goes i H1 (by simpa using hi) trivial, fun r1 st1 H1 l o k => ?_, fun i r1 st1 H1 x H' d hd l o k y => ?_⟩
  · have := (walk_str (z := z)).stops H1 trivial
    simpa using this
  · have hi : i < z.cps.size := by
      have := (List.getElem?_eq_some_iff.mp hd).1
      simpa using this
    obtain ⟨z1, c, z2, z3⟩ := walk_str.yields i H1 x H' hi trivial y
    subst z1 z3
    rw [List.getElem?_map] at hd
    have e2 : z.cps.toList[i]? = some c := by simpa using z2
    rw [e2] at hd
    cases hd
    exact ⟨o.refl, o, rep_str⟩
theorem i_seq {tg e : Expr} {fa : EM D} (he : PE X e (rdE S W fa)) (hK : X.K = S.K := by rfl) : PI X tg e (rdI S W (iSeq fa)) := by
  refine PI.by fun σ H R h => ?_
  obtain ⟨r, env, st, o, eo, h⟩ := h
  have lists : ∀ t, (∀ d st1 r1 H1 v, fa env st = .ok d st1 → Ok S r1 st1 H1 → Rep S r1 st1.length H1 d v → EndI S W σ r1 st1.length H1 R (match iterOf st1 d with
      | some it => .ok it st1
      | none => .bad) → t v H1) → rdE S W fa σ H t := fun t k => by
    refine ⟨r, env, st, o, eo, ?_⟩
    unfold iSeq at h
    cases q : fa env st with
    | ok d st1 =>
      rw [q] at h
      intro r1 H1 v l1 o1 rv
      exact k d st1 r1 H1 v q o1 rv (EndI.le l1 h)
    | exc c d st1 => rw [q] at h; exact h
    | bad => rw [q] at h; exact h
  cases q : fa env st with
  | ok d st1 =>
    cases d with
    | tup ds =>
      refine ⟨_, pi_tup he, lists _ fun d' st' r1 H1 v e o1 rv h1 => ?_⟩
      rw [q] at e
      cases e
      unfold Rep at rv
      obtain ⟨a, xs, e1, e2, e3⟩ := rv
      rw [hK]
      exact ⟨a, e1, ⟨xs, e2⟩, h1 r1 H1 _ o1.refl o1 (walk_tupD e2 e3)⟩
    | lst ds =>
      refine ⟨_, pi_list he, lists _ fun d' st' r1 H1 v e o1 rv h1 => ?_⟩
      rw [q] at e
      cases e
      obtain ⟨a, xs, e1, e2, e3⟩ := lstAt_frz rv
      rw [hK]
      exact ⟨a, e1, ⟨xs, e2⟩, h1 r1 H1 _ o1.refl o1 (walk_lstD e3)⟩
    | scr ns =>
      refine ⟨_, pi_list he, lists _ fun d' st' r1 H1 v e o1 rv h1 => ?_⟩
      rw [q] at e
      cases e
      obtain ⟨a, xs, e1, e2, e3⟩ := lstAt_scr rv
      rw [hK]
      exact ⟨a, e1, ⟨xs, e2⟩, h1 r1 H1 _ o1.refl o1 (walk_lstD e3)⟩
    | str z =>
      refine ⟨_, pi_str he, lists _ fun d' st' r1 H1 v e o1 rv h1 => ?_⟩
      rw [q] at e
      cases e
      unfold Rep at rv
      exact ⟨z, rv, h1 r1 H1 _ o1.refl o1 walk_strD⟩
    | ref k =>
      refine ⟨_, pi_list he, lists _ fun d' st' r1 H1 v e o1 rv h1 => ?_⟩
      rw [q] at e
      cases e
      cases q2 : st1[k]? with
      | none => simp only [iterOf, q2] at h1; exact h1.elim
      | some c =>
        cases c with
        | lst ds =>
          simp only [iterOf, q2] at h1
          obtain ⟨a, xs, e1, e2, e3⟩ := lstAt_cel o1 rv q2
          rw [hK]
          exact ⟨a, e1, ⟨xs, e2⟩, h1 r1 H1 _ o1.refl o1 (walk_lstD e3)⟩
        | _ => simp only [iterOf, q2] at h1; exact h1.elim
    | _ => unfold iSeq at h; rw [q] at h; exact h.elim
  | exc c d st1 =>
    refine ⟨_, pi_list he, lists _ fun d' st' r1 H1 v e o1 rv h1 => ?_⟩
    rw [q] at e
    cases e
  | bad => unfold iSeq at h; rw [q] at h; exact h.elim
/-! ### ranges -/
def small62 (i : Int) : Bool := decide (i.natAbs < 4611686018427387904)
theorem small62_iff {i : Int} : small62 i = true ↔ (-(2 ^ 62) ≤ i ∧ i < 2 ^ 62) ∧ i.natAbs < 4611686018427387904 := by
  unfold small62
  rw [decide_eq_true_eq]
  omega
def rngD (lo : Int) (n : Nat) : IterD := ⟨(List.range n).map fun k => .int (lo + (k : Nat)), []⟩
def iRg1 (fa : EM D) : EM IterD := fun env st => (fa env st).bind fun d st1 => match d with
  | .int j => if small62 j = true then .ok (rngD 0 j.toNat) st1 else .bad
  | _ => .bad
def iRg2 (fa fb : EM D) : EM IterD := fun env st => (fa env st).bind fun a st1 => (fb env st1).bind fun b st2 => match a, b with
  | .int i, .int j => if (small62 i && small62 j) = true then .ok (rngD i (j - i).toNat) st2 else .bad
  | _, _ => .bad
theorem walk_rngD {lo : Int} {m : Nat} : WalkD S (rngD lo m) r n H (Itr lo m) := by
  refine ⟨fun i r1 st1 H1 hi l o k => walk_range.goes i H1 (by simpa [rngD] using hi) trivial, fun r1 st1 H1 l o k => ?_, fun i r1 st1 H1 x H' d hd l o k y => ?_⟩
  · have := (walk_range (lo := lo) (n := m)).stops H1 trivial
    simpa [rngD] using this
  · have hi : i < m := by
      have := (List.getElem?_eq_some_iff.mp hd).1
      simpa [rngD] using this
    obtain ⟨z1, z2⟩ := walk_range.yields i H1 x H' hi trivial y
    subst z1 z2
    unfold rngD at hd
    rw [List.getElem?_map, List.getElem?_range hi] at hd
    cases hd
    exact ⟨o.refl, o, rep_int⟩
theorem i_rg1 {tg a : Expr} {fa : EM D} {p pos : Pos} (ha : PE X a (rdE S W fa)) (hm : X.mg "range" = none) (hg : Gl X "range" := by rfl) (hs : starEach [a] X.env = [(false, eval a X.env)] := by rfl) :
    PI X tg (.Call (.Name "range" p) [a] [] pos) (rdI S W (iRg1 fa)) := PI.weak (pi_range1 hg hm (a_cons ha a_nil hs) hs) fun σ H R h => by
  obtain ⟨r, env, st, o, eo, h⟩ := h
  refine ⟨r, env, st, o, eo, ?_⟩
  unfold iRg1 at h
  unfold mCons mNil
  cases q : fa env st with
  | ok d st1 =>
    rw [q] at h
    intro r1 H1 vs l1 o1 rv
    cases d with
    | int j =>
      unfold RepL at rv
      obtain ⟨v, w, e1, r1', r2'⟩ := rv
      unfold RepL at r2'
      unfold Rep at r1'
      subst r1' r2' e1
      simp only [Res.bind] at h
      split at h
      · rename_i hb
        have hb := (small62_iff.mp hb).1
        exact ⟨j, rfl, hb.1, hb.2, h r1 H1 _ l1 o1 walk_rngD⟩
      · exact h.elim
    | _ => exact h.elim
  | exc c d st1 => rw [q] at h; exact h
  | bad => rw [q] at h; exact h
theorem i_rg2 {tg a b : Expr} {fa fb : EM D} {p pos : Pos} (ha : PE X a (rdE S W fa)) (hb : PE X b (rdE S W fb)) (hm : X.mg "range" = none) (hg : Gl X "range" := by rfl) (hs : starEach [a, b] X.env = [(false, eval a X.env), (false, eval b X.env)] := by rfl) (hs2 : starEach [b] X.env = [(false, eval b X.env)] := by rfl) :
    PI X tg (.Call (.Name "range" p) [a, b] [] pos) (rdI S W (iRg2 fa fb)) := PI.weak (pi_range2 hg hm (a_cons ha (a_cons hb a_nil hs2) (by rw [hs, hs2])) hs hs2) fun σ H R h => by
  obtain ⟨r, env, st, o, eo, h⟩ := h
  refine ⟨r, env, st, o, eo, ?_⟩
  unfold iRg2 at h
  unfold mCons mNil
  cases q : fa env st with
  | ok da st1 =>
    rw [q] at h
    simp only [Res.bind] at h ⊢
    cases q2 : fb env st1 with
    | ok db st2 =>
      rw [q2] at h
      simp only [Res.bind] at h ⊢
      intro r1 H1 vs l1 o1 rv
      cases da with
      | int i =>
        cases db with
        | int j =>
          unfold RepL at rv
          obtain ⟨v, w, e1, ra, rv⟩ := rv
          unfold RepL at rv
          obtain ⟨v2, w2, e2, rb, rv⟩ := rv
          unfold RepL at rv
          unfold Rep at ra rb
          subst ra rb rv e2 e1
          simp only at h
          split at h
          · rename_i hb
            have hb := Bool.and_eq_true_iff.mp hb
            have hb := And.intro (small62_iff.mp hb.1).1 (small62_iff.mp hb.2).1
            exact ⟨i, j, rfl, ⟨hb.1.1, hb.1.2, hb.2.1, hb.2.2⟩, h r1 H1 _ l1 o1 walk_rngD⟩
          · exact h.elim
        | _ => exact h.elim
      | _ => exact h.elim
    | exc c d st1 => rw [q2] at h; exact h
    | bad => rw [q2] at h; exact h
  | exc c d st1 => rw [q] at h; exact h
  | bad => rw [q] at h; exact h

/-! ### for -/
def forL (lock : List (Nat × List D)) (g : GM) (b : SM) : List D → SM
  | [] => fun env st => if lockB lock st = true then .nx env st else .bad
  | x :: xs => fun env st => if lockB lock st = true then match g x env st with
    | some (env1, st1) => match b env1 st1 with
      | .nx env2 st2 => forL lock g b xs env2 st2
      | .ct env2 st2 => forL lock g b xs env2 st2
      | .bk env2 st2 => .nx env2 st2
      | o => o
    | none => .bad else .bad
def sFor (fi : EM IterD) (g : GM) (b : SM) : SM := fun env st => (fi env st).toS env fun it st1 => forL it.lock g b it.items env st1
theorem s_for {tg iter : Expr} {body : List Stmt} {fi : EM IterD} {g : GM} {fb : SM} {pos : Pos} (hp : PassesOwn (model X.prog X.w) X.A X.env X.xe) (hi : PI X tg iter (rdI S W fi)) (hg : PG X tg (rdG S g)) (hb : PSs X body (rdS S W fb))
    (hc : X.calm = true := by rfl) (hs : ∀ x, foldedSetIterable iter X.env x = pure x := by intro _; rfl) : PS X (.For tg iter body [] pos) (rdS S W (sFor fi g fb)) := PS.weak (ps_for hp hc hi hg hb hs) fun σ H E h => by
  obtain ⟨r, env, st, o, eo, h⟩ := h
  refine ⟨r, env, st, o, eo, ?_⟩
  unfold sFor at h
  cases q : fi env st with
  | exc c d st1 => rw [q] at h; exact fun r' H' dx v l o hx hr => h r' σ H' dx v l o (eo.mono l) hx hr
  | bad => rw [q] at h; exact h
  | ok it st1 =>
    rw [q] at h
    simp only [Res.toS] at h
    intro r1 H1 J l1 o1 wk
    refine ⟨fun i m σ H => m = it.items.length - i ∧ i ≤ it.items.length ∧ ∃ r env st, Le r1 st1.length H1 r st.length H ∧ Ok S r st H ∧ EnvOk S r st.length H env σ ∧ EndS S W r st.length H E (forL it.lock g fb (it.items.drop i) env st),
      ⟨_, rfl, Nat.zero_le _, r1, env, st1, o1.refl, o1, eo.mono l1, by simpa using EndS.le l1 h⟩, ?_⟩
    rintro i m σ2 H2 ⟨rfl, hi, r2, env2, st2, l2, o2, eo2, h2⟩
    by_cases hlt : i < it.items.length
    · have hd : it.items[i]? = some it.items[i] := by simp [hlt]
      rw [List.drop_eq_getElem_cons hlt] at h2
      unfold forL at h2
      by_cases hk : lockB it.lock st2 = true
      · simp only [if_pos hk] at h2
        refine .inr ⟨wk.go i r2 st2 H2 hlt l2 o2 hk, fun σ' H' => ∃ r env st, Le r1 st1.length H1 r st.length H' ∧ Ok S r st H' ∧ EnvOk S r st.length H' env σ' ∧ EndS S W r st.length H' E (forL it.lock g fb (it.items.drop (i + 1)) env st), fun σ' H' z => ⟨it.items.length - (i + 1), by omega, rfl, hlt, z⟩, fun x H' y => ?_⟩
        obtain ⟨l3, o3, rx⟩ := wk.yld i r2 st2 H2 x H' _ hd l2 o2 hk y
        refine ⟨r2, env2, st2, it.items[i], o3, eo2.mono l3, rx, ?_⟩
        cases q2 : g it.items[i] env2 st2 with
        | none => simp only [q2] at h2; exact h2.elim
        | some p =>
          obtain ⟨env3, st3⟩ := p
          simp only [q2] at h2
          intro r4 σ4 H4 l4 o4 eo4
          refine ⟨r4, env3, st3, o4, eo4, ?_⟩
          have l34 := l3.trans l4
          cases q3 : fb env3 st3 with
          | nx env' st' => simp only [q3] at h2; exact fun r' σ' H' l' o' eo' => ⟨r', env', st', l2.trans (l34.trans l'), o', eo', EndS.le (l34.trans l') h2⟩
          | ct env' st' => simp only [q3] at h2; exact fun r' σ' H' l' o' eo' => ⟨r', env', st', l2.trans (l34.trans l'), o', eo', EndS.le (l34.trans l') h2⟩
          | bk env' st' => simp only [q3] at h2; exact fun r' σ' H' l' o' eo' => h2 r' σ' H' (l34.trans l') o' eo'
          | rt d st' => simp only [q3] at h2; exact fun r' H' v l' o' rv => h2 r' H' v (l34.trans l') o' rv
          | exc c d env' st' => simp only [q3] at h2; exact fun r' σ' H' dx v l' o' eo' hx rv => h2 r' σ' H' dx v (l34.trans l') o' eo' hx rv
          | bad => simp only [q3] at h2; exact h2
      · simp only [if_neg hk] at h2; exact h2.elim
    · have e : i = it.items.length := by omega
      subst e
      rw [List.drop_length] at h2
      unfold forL at h2
      by_cases hk : lockB it.lock st2 = true
      · simp only [if_pos hk] at h2
        exact .inl ⟨wk.stop r2 st2 H2 l2 o2 hk, h2 r2 σ2 H2 o2.refl o2 eo2⟩
      · simp only [if_neg hk] at h2; exact h2.elim

/-! ### comprehensions -/
theorem popR_ok (hx0 : S.ex = none) {keep : Bool} {W : WX} {σ : L2.St} {Q : VK} {r' : Rho} {H' : Hp} {d : D} {st' : Sto} {v : V} (o : Ok S r st H) (h : End S (Rep S) W σ r st.length H Q (popR keep st (.ok d st'))) (l : Le r st.length H r' st'.length H') (o' : Ok S r' st' H') (rv : Rep S r' st'.length H' d v) : Q v H' := by
  unfold popR at h
  cases keep with
  | true => exact h r' H' v l o' rv
  | false =>
    simp only [Bool.false_eq_true, if_false] at h
    cases q : frz st' st.length 5 d with
    | none => simp only [q] at h; exact h.elim
    | some e =>
      simp only [q] at h
      by_cases hp : popB st st' = true
      · simp only [if_pos hp] at h
        obtain ⟨l2, o2⟩ := pop_ok hx0 o l o' hp
        have hlen : (st'.take st.length).length = st.length := by
          rw [List.length_take]
          have := l.len
          omega
        exact h r' H' v l2 o2 (by rw [hlen]; exact frz_ok o' l.len 5 d e v rv q)
      · simp only [if_neg hp] at h; exact h.elim
def wipeE (env : En) : List Nat → En
  | [] => env
  | v :: vs => (wipeE env vs).set v none
theorem EnvOk.wipe (h : EnvOk S r n H env σ) : ∀ vs : List Nat, EnvOk S r n H (wipeE env vs) (L2.wipe σ vs)
  | [] => h
  | v :: vs => (EnvOk.wipe h vs).unset
/-- a target of a comprehension: a name, or names in a tuple -/
inductive Tgt where
  | nm (i : Nat)
  | tp (is : List Nat)
def setAll (env : En) : List Nat → List D → En
  | i :: is, d :: ds => setAll (env.set i (some d)) is ds
  | _, _ => env
def tgtD (t : Tgt) (d : D) (env : En) : Option En := match t with
  | .nm i => some (env.set i (some d))
  | .tp is => match d with
    | .tup ds => if ds.length = is.length then some (setAll env is ds) else none
    | _ => none
def gNames : List Nat → TGs
  | [] => gNil
  | i :: is => gCons (gName i) (gNames is)
def tgtV (K : PySem.W.Frag) : Tgt → TG
  | .nm i => gName i
  | .tp is => gTup K is.length (gNames is)
def Tgt.slots : Tgt → List Nat
  | .nm i => [i]
  | .tp is => is
theorem wipe_set {σ : L2.St} {i : Nat} {x : Option V} : ∀ {vs : List Nat}, i ∈ vs → L2.wipe (σ.set i x) vs = L2.wipe σ vs
  | v :: vs, h => by
    unfold L2.wipe
    by_cases hi : i ∈ vs
    · rw [wipe_set hi]
    · have e : i = v := by
        rcases List.mem_cons.mp h with h | h
        · exact h
        · exact absurd h hi
      subst e
      have : ∀ (ws : List Nat) (σ : L2.St), i ∉ ws → L2.wipe (σ.set i x) ws = (L2.wipe σ ws).set i x := by
        intro ws
        induction ws with
        | nil => intro σ _; rfl
        | cons w ws ih =>
          intro σ hn
          have h1 : i ≠ w := fun z => hn (by simp [z])
          have h2 : i ∉ ws := fun z => hn (by simp [z])
          unfold L2.wipe
          rw [ih σ h2, List.set_comm _ _ h1]
      rw [this vs σ hi, List.set_set]
theorem gNames_ok {vs : List Nat} {Q : L2.St → Hp → Prop} {σ0 : L2.St} : ∀ {is : List Nat} {ds : List D} {xs : List V} {env : En} {σ : L2.St}, ds.length = is.length → (∀ i ∈ is, i ∈ vs) → RepL S r n H ds xs → EnvOk S r n H env σ → L2.wipe σ vs = L2.wipe σ0 vs →
    (∀ σ', EnvOk S r n H (setAll env is ds) σ' → L2.wipe σ' vs = L2.wipe σ0 vs → Q σ' H) → gNames is xs σ H Q
  | [], ds, xs, env, σ, hl, hv, h, eo, hw, k => by
    have e : ds = [] := List.length_eq_zero_iff.mp hl
    subst e
    unfold RepL at h
    exact ⟨h, k σ eo hw⟩
  | i :: is, [], xs, env, σ, hl, hv, h, eo, hw, k => by simp at hl
  | i :: is, d :: ds, xs, env, σ, hl, hv, h, eo, hw, k => by
    unfold RepL at h
    obtain ⟨v, w, e, h1, h2⟩ := h
    refine ⟨v, w, e, gNames_ok (env := env.set i (some d)) (ds := ds) (by simpa using hl) (fun j hj => hv j (List.mem_cons_of_mem _ hj)) h2 (eo.set h1) ?_ k⟩
    rw [wipe_set (hv i List.mem_cons_self)]
    exact hw
theorem tgt_ok {t : Tgt} {vs : List Nat} {d : D} {x : V} {env1 : En} {Q : L2.St → Hp → Prop} (hK : X.K = S.K) (hv : ∀ i ∈ t.slots, i ∈ vs) (rx : Rep S r n H d x) (eo : EnvOk S r n H (wipeE env vs) (L2.wipe σ vs)) (e : tgtD t d (wipeE env vs) = some env1)
    (hw : L2.wipe (L2.wipe σ vs) vs = L2.wipe σ vs) (k : ∀ σ2, EnvOk S r n H env1 σ2 → L2.wipe σ2 vs = L2.wipe σ vs → Q σ2 H) : tgtV X.K t x (L2.wipe σ vs) H Q := by
  cases t with
  | nm i =>
    cases e
    refine k _ (eo.set rx) ?_
    rw [wipe_set (hv i (by simp [Tgt.slots]))]
    exact hw
  | tp is =>
    cases d with
    | tup ds =>
      simp only [tgtD] at e
      split at e
      · rename_i hl
        cases e
        unfold Rep at rx
        obtain ⟨a, xs, e1, e2, e3⟩ := rx
        exact ⟨a, xs, e1, by rw [hK]; exact e2, by rw [← e3.length]; exact hl, gNames_ok (σ0 := σ) hl hv e3 eo hw k⟩
      · cases e
    | _ => cases e
theorem wipe_idem {σ : L2.St} : ∀ vs : List Nat, L2.wipe (L2.wipe σ vs) vs = L2.wipe σ vs := fun vs => by
  have key : ∀ (ws : List Nat), (∀ i ∈ ws, i ∈ vs) → L2.wipe (L2.wipe σ ws) vs = L2.wipe σ vs := by
    intro ws
    induction ws with
    | nil => intro _; rfl
    | cons w ws ih =>
      intro h
      show L2.wipe ((L2.wipe σ ws).set w none) vs = L2.wipe σ vs
      rw [wipe_set (h w List.mem_cons_self)]
      exact ih fun i hi => h i (List.mem_cons_of_mem _ hi)
  exact key vs fun _ h => h
def compL (lock : List (Nat × List D)) (vs : List Nat) (t : Tgt) (ft : EM Bool) (fe : EM D) (env : En) (k : Nat) : List D → Sto → Res D
  | [], st => if lockB lock st = true then .ok (.ref k) st else .bad
  | x :: xs, st => if lockB lock st = true then match tgtD t x (wipeE env vs) with
    | some env1 => match ft env1 st with
      | .ok true st1 => match fe env1 st1 with
        | .ok d st2 => match st2[k]? with
          | some (.lst acc) => if acc.length < LIM then compL lock vs t ft fe env k xs (st2.set k (.lst (acc ++ [d]))) else .bad
          | _ => .bad
        | _ => .bad
      | .ok false st1 => compL lock vs t ft fe env k xs st1
      | _ => .bad
    | none => .bad else .bad
def mComp (keep : Bool) (fi : EM IterD) (vs : List Nat) (t : Tgt) (ft : EM Bool) (fe : EM D) : EM D := fun env st => (fi env st).bind fun it st1 => popR keep st1 (compL it.lock vs t ft fe env st1.length it.items (st1 ++ [Cell.lst []]))
def W0 : WX := fun _ _ _ _ => False
theorem popR_bad {keep : Bool} : popR keep st (.bad : Res D) = .bad := by cases keep <;> rfl
theorem md_comp (hx0 : S.ex = none) {keep : Bool} {fi : EM IterD} {vs : List Nat} {t : Tgt} {ft : EM Bool} {fe : EM D} (hK : X.K = S.K) (hv : ∀ i ∈ t.slots, i ∈ vs) : ∀ σ H Q, rdE S W (mComp keep fi vs t ft fe) σ H Q → tLc (rdI S W fi) (tgtV X.K t) (rdB S W0 ft) (rdE S W0 fe) vs σ H Q := fun σ H Q h => by
  obtain ⟨r, env, st, o, eo, h⟩ := h
  refine ⟨r, env, st, o, eo, ?_⟩
  unfold mComp at h
  cases q : fi env st with
  | exc c d st1 => rw [q] at h; exact h
  | bad => rw [q] at h; exact h
  | ok it st1 =>
    rw [q] at h
    simp only [Res.bind] at h
    intro r1 H1 J l1 o1 wk a ha
    have h := End.le l1 h
    have eo1 := eo.mono l1
    obtain ⟨la, oa⟩ := o1.alloc (u := .lst []) (c := .lst []) ha fun r' n' H' l' e => ⟨[], e, RepL.nil⟩
    refine ⟨fun i m H => m = it.items.length - i ∧ i ≤ it.items.length ∧ ∃ r st, Le r1 st1.length H1 r st.length H ∧ Ok S r st H ∧ st1.length < st.length ∧ r st1.length = a ∧ End S (Rep S) W σ r1 st1.length H1 Q (popR keep st1 (compL it.lock vs t ft fe env st1.length (it.items.drop i) st)),
      ⟨_, rfl, Nat.zero_le _, _, _, la, oa, by simp, ext_same, by simpa using h⟩, ?_⟩
    rintro i m H2 ⟨rfl, hi, r2, st2, l2, o2, hk2, ra2, h2⟩
    by_cases hlt : i < it.items.length
    · have hd : it.items[i]? = some it.items[i] := by simp [hlt]
      rw [List.drop_eq_getElem_cons hlt] at h2
      unfold compL at h2
      by_cases hk : lockB it.lock st2 = true
      · simp only [if_pos hk] at h2
        refine .inr ⟨wk.go i r2 st2 H2 hlt l2 o2 hk, fun H' => ∃ r st, Le r1 st1.length H1 r st.length H' ∧ Ok S r st H' ∧ st1.length < st.length ∧ r st1.length = a ∧ End S (Rep S) W σ r1 st1.length H1 Q (popR keep st1 (compL it.lock vs t ft fe env st1.length (it.items.drop (i + 1)) st)), fun H' z => ⟨it.items.length - (i + 1), by omega, rfl, hlt, z⟩, fun x H' y => ?_⟩
        obtain ⟨l3, o3, rx⟩ := wk.yld i r2 st2 H2 x H' _ hd l2 o2 hk y
        cases q2 : tgtD t it.items[i] (wipeE env vs) with
        | none => simp only [q2, popR_bad] at h2; exact h2.elim
        | some env3 =>
          simp only [q2] at h2
          refine tgt_ok hK hv rx ((eo1.mono (l2.trans l3)).wipe vs) q2 (wipe_idem vs) fun σ2 eo2 hw2 => ⟨hw2, r2, env3, st2, o3, eo2, ?_⟩
          cases q3 : ft env3 st2 with
          | exc c d st' => simp only [q3, popR_bad] at h2; exact h2.elim
          | bad => simp only [q3, popR_bad] at h2; exact h2.elim
          | ok b st4 =>
            intro r4 H4 b' l4 o4 eb
            obtain rfl : b' = b := eb
            cases b' with
            | false =>
              simp only [q3] at h2
              exact iteF ⟨r4, st4, l2.trans (l3.trans l4), o4, Nat.lt_of_lt_of_le hk2 l4.len, by rw [l4.eq _ hk2]; exact ra2, h2⟩
            | true =>
              simp only [q3] at h2
              refine iteT ⟨r4, env3, st4, o4, eo2.mono l4, ?_⟩
              cases q4 : fe env3 st4 with
              | exc c d st' => simp only [q4, popR_bad] at h2; exact h2.elim
              | bad => simp only [q4, popR_bad] at h2; exact h2.elim
              | ok d st5 =>
                simp only [q4] at h2
                intro r5 H5 yv l5 o5 ry
                cases q5 : st5[st1.length]? with
                | none => simp only [q5, popR_bad] at h2; exact h2.elim
                | some c =>
                  cases c with
                  | lst acc =>
                    simp only [q5] at h2
                    have l45 := l4.trans l5
                    have hk5 : st1.length < st5.length := Nat.lt_of_lt_of_le hk2 l45.len
                    have ra5 : r5 st1.length = a := by rw [l45.eq _ hk2]; exact ra2
                    obtain ⟨xs, e1, e2⟩ := o5.cel _ _ q5
                    by_cases hl : acc.length < LIM
                    · simp only [if_pos hl] at h2
                      refine ⟨xs, by rw [← ra5]; exact e1, by rw [← e2.length]; exact lim_lt hl, ?_⟩
                      obtain ⟨l6, o6⟩ := o5.write (k := st1.length) (u := .lst (xs ++ [yv])) (c := .lst (acc ++ [d])) hk5 trivial fun H' l' e' => ⟨_, e', RepL.mono l' _ _ (e2.append (RepL.cons ry RepL.nil))⟩
                      rw [ra5] at l6 o6
                      exact ⟨r5, _, l2.trans (l3.trans (l45.trans l6)), o6, by simpa using hk5, ra5, h2⟩
                    · simp only [if_neg hl, popR_bad] at h2; exact h2.elim
                  | _ => simp only [q5, popR_bad] at h2; exact h2.elim
      · simp only [if_neg hk, popR_bad] at h2; exact h2.elim
    · have e : i = it.items.length := by omega
      subst e
      rw [List.drop_length] at h2
      unfold compL at h2
      by_cases hk : lockB it.lock st2 = true
      · simp only [if_pos hk] at h2
        refine .inl ⟨wk.stop r2 st2 H2 l2 o2 hk, popR_ok hx0 o1 h2 l2 o2 ?_⟩
        unfold Rep
        exact ⟨hk2, by rw [ra2]⟩
      · simp only [if_neg hk, popR_bad] at h2; exact h2.elim
def mYes : EM Bool := fun _ st => .ok true st
theorem ts_nil : PTs X [] (rdB S W mYes) := ⟨fun pins s σ H Q I h => (pts_nil (X := X)).run pins s σ H Q I (by
  obtain ⟨r, env, st, o, eo, h⟩ := h
  exact h r H true o.refl o rfl)⟩
theorem ts_one {c : Expr} {fc : EM Bool} (h : PT X c (rdB S W fc)) : PTs X [c] (rdB S W fc) := pts_one h
theorem tg_nm (i : Nat) {K : PySem.W.Frag} {x : Str} {pos : Pos} (hN : X.N.Nodup) (hi : X.N[i]? = some x := by rfl) (hx : Loc X.env.scope x := by first | exact Or.inl rfl | exact Or.inr rfl) (hf : X.fn x = true ∨ X.env.scope.names.lookup x = some .local := by first | exact .inl rfl | exact .inr rfl) :
    PG X (.Name x pos) (tgtV K (.nm i)) := pg_name hN hi hx hf
end
end Cw

/-! Comprehensions and methods as written; raise and try. -/
namespace Cw
open PySem L2

section
variable {S : Stat} {X : Cx} {W : WX}
theorem hu65 {k : Nat} {A : Around} (hr : Room k A) : A.units + 65 < cLine := by
  have := hr.un
  omega
theorem e_comp (keep : Bool) (t : Tgt) {own : List (Str × Nat)} {elt tg iter : Expr} {ifs : List Expr} {scope : Scope} {pos : Pos} {fi : EM IterD} {ft : EM Bool} {fe : EM D} (hN : X.N.Nodup) (hi : PI X tg iter (rdI S W fi)) (ok : BlkOk X.N X.env.scope scope own)
    (hg : ∀ (s : Shared) (H : Hp) (C : Addr) (cl : List (Str × Addr)) (fp : List Addr), PG (X.blk s H scope (compEnvC scope cl C X.env) fp) tg (tgtV X.K t))
    (ht : ∀ (s : Shared) (H : Hp) (C : Addr) (cl : List (Str × Addr)) (fp : List Addr), PTs (X.blk s H scope (compEnvC scope cl C X.env) fp) ifs (rdB S W0 ft))
    (he : ∀ (s : Shared) (H : Hp) (C : Addr) (cl : List (Str × Addr)) (fp : List Addr), PE (X.blk s H scope (compEnvC scope cl C X.env) fp) elt (rdE S W0 fe))
    (hv : ∀ i ∈ t.slots, i ∈ own.map (·.2) := by decide) (hx : S.ex = none := by rfl) (hc : X.calm = true := by rfl) (hK : X.K = S.K := by rfl) (hs : ∀ x, foldedSetIterable iter X.env x = pure x := by intro _; rfl) :
    PE X (.ListComp elt [⟨tg, iter, ifs, 0⟩] scope pos) (rdE S W (mComp keep fi (own.map (·.2)) t ft fe)) := PE.weak (pe_lc hc hN hi ok hg ht he hs) (md_comp hx hK hv)
theorem s_comp (i : Nat) (keep : Bool) (t : Tgt) {own : List (Str × Nat)} {y : Str} {py : Pos} {elt tg iter : Expr} {ifs : List Expr} {scope : Scope} {pos spos : Pos} {fi : EM IterD} {ft : EM Bool} {fe : EM D} (hN : X.N.Nodup) (hi : PI X tg iter (rdI S W fi)) (ok : BlkOk X.N X.env.scope scope own)
    (hg : ∀ (s : Shared) (H : Hp) (C : Addr) (cl : List (Str × Addr)) (fp : List Addr), PG (X.blk s H scope (compEnvC scope cl C X.env) fp) tg (tgtV X.K t))
    (ht : ∀ (s : Shared) (H : Hp) (C : Addr) (cl : List (Str × Addr)) (fp : List Addr), PTs (X.blk s H scope (compEnvC scope cl C X.env) fp) ifs (rdB S W0 ft))
    (he : ∀ (s : Shared) (H : Hp) (C : Addr) (cl : List (Str × Addr)) (fp : List Addr), PE (X.blk s H scope (compEnvC scope cl C X.env) fp) elt (rdE S W0 fe))
    (hsw : swapsWith (.ListComp elt [⟨tg, iter, ifs, 0⟩] scope pos) (some (.Name y py)) spos.line X.env = pure true := by exact sw_true rfl rfl rfl (by decide +kernel))
    (hv : ∀ i ∈ t.slots, i ∈ own.map (·.2) := by decide) (hx : S.ex = none := by rfl) (hy : X.N[i]? = some y := by rfl) (hyl : X.env.scope.names.lookup y = some .local := by rfl) (hc : X.calm = true := by rfl) (hK : X.K = S.K := by rfl) (hs : ∀ x, foldedSetIterable iter X.env x = pure x := by intro _; rfl) :
    PS X (.Assign [.Name y py] (.ListComp elt [⟨tg, iter, ifs, 0⟩] scope pos) spos) (rdS S W (sSet i (mComp keep fi (own.map (·.2)) t ft fe))) := PS.weak (ps_setLc hc hN hy hyl hsw hi ok hg ht he hs) fun σ H E h => by
  obtain ⟨r, env, st, o, eo, h⟩ := h
  refine md_comp hx hK hv σ H _ ⟨r, env, st, o, eo, EndS.bind h eo fun d st1 r1 H1 v l1 o1 rx h1 => ?_⟩
  exact h1 r1 _ H1 o1.refl o1 ((eo.mono l1).set rx)
theorem tg_tp (is : List Nat) {K : PySem.W.Frag} {es : List Expr} {k : Nat} {pos : Pos} (h : PGs X es (gNames is)) (hK : X.K = K := by rfl) (hn : (assignEach es X.env).length = is.length := by rfl) (hc : X.calm = true := by rfl)
    (hst : (assignEach es X.env).findIdx? (·.1) = none := by rfl) : PG X (.Tuple es k pos) (tgtV K (.tp is)) := by
  subst hK
  exact pg_tup hc h hn hst
theorem gn_nil : PGs X [] (gNames []) := pgs_nil
theorem gn_cons (i : Nat) {is : List Nat} {x : Str} {pos : Pos} {es : List Expr} (hN : X.N.Nodup) (h2 : PGs X es (gNames is)) (hi : X.N[i]? = some x := by rfl) (hx : Loc X.env.scope x := by first | exact Or.inl rfl | exact Or.inr rfl)
    (hf : X.fn x = true ∨ X.env.scope.names.lookup x = some .local := by first | exact .inl rfl | exact .inr rfl)
    (hs : (assignEach (.Name x pos :: es) X.env).map (·.2) = assign (.Name x pos) X.env :: (assignEach es X.env).map (·.2) := by rfl) : PGs X (.Name x pos :: es) (gNames (i :: is)) := pgs_cons (pg_name hN hi hx hf) h2 hs

/-! ### more methods of lists -/
theorem mtM {id : String} {t : V → List V → Hp → VK → Prop} (h : MtM X id t) : MtR X id t := h
theorem repL1 {r : Rho} {n : Nat} {H : Hp} {d : D} {xs : List V} (h : RepL S r n H [d] xs) : ∃ v, xs = [v] ∧ Rep S r n H d v := by
  unfold RepL at h
  obtain ⟨v, w, e, h1, h2⟩ := h
  unfold RepL at h2
  subst h2
  exact ⟨v, e, h1⟩
theorem repL0 {r : Rho} {n : Nat} {H : Hp} {xs : List V} (h : RepL S r n H [] xs) : xs = [] := by
  unfold RepL at h
  exact h
theorem RepL.erase {r : Rho} {n : Nat} {H : Hp} : ∀ {ds : List D} {xs : List V} (k : Nat), RepL S r n H ds xs → RepL S r n H (ds.eraseIdx k) (xs.eraseIdx k)
  | [], xs, k, h => by
    have := repL0 h
    subst this
    simpa using h
  | d :: ds, xs, 0, h => by
    unfold RepL at h
    obtain ⟨v, w, rfl, h1, h2⟩ := h
    simpa using h2
  | d :: ds, xs, k + 1, h => by
    unfold RepL at h
    obtain ⟨v, w, rfl, h1, h2⟩ := h
    simpa using RepL.cons h1 (RepL.erase k h2)
/-- xs.pop(i), 0 ≤ i -/
def oPopAt : OM := fun d as st => match as with
  | [.int i] => onCell st d fun ds => if 0 ≤ i ∧ i < 2 ^ 63 then match ds[i.toNat]? with
    | some x => some (x, ds.eraseIdx i.toNat)
    | none => none else none
  | _ => none
theorem seqIx {i : Int} {n : Nat} (h : 0 ≤ i) (h2 : i.toNat < n) : seqIndex? i n = some i.toNat := seqIndex_of h (by omega)
theorem m_popAt : MtR X "list.pop" (rM S oPopAt) := MtR.weak (mtM mt_popAt) fun x xs H Q h => by
  obtain ⟨r, st, d, ds, o, rd, rds, h⟩ := h
  cases ds with
  | nil => exact h.elim
  | cons y0 ds =>
    cases ds with
    | cons _ _ => cases y0 <;> exact h.elim
    | nil =>
      cases y0 with
      | int i =>
        obtain ⟨yv, e5, r1⟩ := repL1 rds
        unfold Rep at r1
        subst r1
        obtain ⟨p, ys, es, z, ws, e1, e2, e3, e4, k⟩ := onCell_ok o rd h
        by_cases hl : 0 ≤ i ∧ i < 2 ^ 63
        · rw [if_pos hl] at e4
          cases q : es[i.toNat]? with
          | none => rw [q] at e4; cases e4
          | some w =>
            rw [q] at e4
            cases e4
            obtain ⟨wv, q1, q2⟩ := e3.get q
            have hlen := (List.getElem?_eq_some_iff.mp q1).1
            exact ⟨p, ys, i, i.toNat, wv, e1, e5, e2, by omega, hl.2, seqIx hl.1 hlen, q1, k _ _ q2 (e3.erase _)⟩
        · rw [if_neg hl] at e4; cases e4
      | _ => exact h.elim
def oPop : OM := fun d as st => match as with
  | [] => onCell st d fun ds => match ds[ds.length - 1]? with
    | some x => some (x, ds.dropLast)
    | none => none
  | _ => none
theorem m_pop : MtR X "list.pop" (rM S oPop) := MtR.weak (mtM mt_pop) fun x xs H Q h => by
  obtain ⟨r, st, d, ds, o, rd, rds, h⟩ := h
  match ds, rds, h with
  | [], rds, h =>
    have e5 := repL0 rds
    obtain ⟨p, ys, es, z, ws, e1, e2, e3, e4, k⟩ := onCell_ok o rd h
    cases q : es[es.length - 1]? with
    | none => rw [q] at e4; cases e4
    | some w =>
      rw [q] at e4
      cases e4
      obtain ⟨wv, q1, q2⟩ := e3.get q
      rw [e3.length] at q1
      refine ⟨p, ys, wv, e1, e5, e2, q1, k _ _ q2 ?_⟩
      rw [List.dropLast_eq_take, List.dropLast_eq_take, e3.length]
      exact e3.take _
  | _ :: _, _, h => exact h.elim
def oExtend : OM := fun d as st => match as with
  | [b] => match seqW st b with
    | some bs => onCell st d fun ds => if ds.length + bs.length ≤ LIM then some (.non, ds ++ bs) else none
    | none => none
  | _ => none
theorem m_extend : MtR X "list.extend" (rM S oExtend) := MtR.weak (mtM mt_extend) fun x xs H Q h => by
  obtain ⟨r, st, d, ds, o, rd, rds, h⟩ := h
  match ds, rds, h with
  | [b], rds, h =>
    obtain ⟨yv, e5, r1⟩ := repL1 rds
    cases q : seqW st b with
    | none => simp only [oExtend, q] at h; exact h.elim
    | some bs =>
      simp only [oExtend, q] at h
      obtain ⟨c, zs, g1, g2, g3⟩ := seqW_ok o r1 q
      obtain ⟨p, ys, es, z, ws, e1, e2, e3, e4, k⟩ := onCell_ok o rd h
      by_cases hl : es.length + bs.length ≤ LIM
      · rw [if_pos hl] at e4
        cases e4
        exact ⟨p, c, ys, zs, e1, by rw [e5, g1], e2, g2, by rw [← e3.length, ← g3.length]; exact lim_ok hl, k _ _ rep_non (e3.append g3)⟩
      · rw [if_neg hl] at e4; cases e4
  | [], _, h => exact h.elim
  | _ :: _ :: _, _, h => exact h.elim
def oInsert : OM := fun d as st => match as with
  | [.int i, y] => onCell st d fun ds => if ds.length < LIM ∧ 0 ≤ i ∧ i < 2 ^ 63 then some (.non, ds.take i.toNat ++ [y] ++ ds.drop i.toNat) else none
  | _ => none
theorem m_insert : MtR X "list.insert" (rM S oInsert) := MtR.weak mt_insert fun x xs H Q h => by
  obtain ⟨r, st, d, ds, o, rd, rds, h⟩ := h
  cases ds with
  | nil => exact h.elim
  | cons y0 ds =>
    cases ds with
    | nil => cases y0 <;> exact h.elim
    | cons y ds =>
      cases ds with
      | cons _ _ => cases y0 <;> exact h.elim
      | nil =>
        cases y0 with
        | int i =>
          unfold RepL at rds
          obtain ⟨v1, w1, f1, r1, rds⟩ := rds
          obtain ⟨yv, e5, r2⟩ := repL1 rds
          unfold Rep at r1
          obtain ⟨p, ys, es, z, ws, e1, e2, e3, e4, k⟩ := onCell_ok o rd h
          by_cases hl : es.length < LIM ∧ 0 ≤ i ∧ i < 2 ^ 63
          · rw [if_pos hl] at e4
            cases e4
            exact ⟨p, ys, i, yv, e1, by rw [f1, r1, e5], e2, by rw [← e3.length]; exact lim_lt hl.1, hl.2.1, hl.2.2, k _ _ rep_non (((e3.take _).append (RepL.cons r2 RepL.nil)).append (e3.drop _))⟩
          · rw [if_neg hl] at e4; cases e4
        | _ => exact h.elim
def oClear : OM := fun d as st => match as with
  | [] => onCell st d fun _ => some (.non, [])
  | _ => none
theorem m_clear : MtR X "list.clear" (rM S oClear) := MtR.weak (mtM mt_clear) fun x xs H Q h => by
  obtain ⟨r, st, d, ds, o, rd, rds, h⟩ := h
  match ds, rds, h with
  | [], rds, h =>
    have e5 := repL0 rds
    obtain ⟨p, ys, es, z, ws, e1, e2, e3, e4, k⟩ := onCell_ok (f := fun _ => some (D.non, [])) o rd h
    cases e4
    exact ⟨p, ys, e1, e5, e2, k _ _ rep_non RepL.nil⟩
  | _ :: _, _, h => exact h.elim
theorem e_append {o e : Expr} {fo fe : EM D} {apos cpos : Pos} (ho : PE X o (rdE S W fo)) (he : PE X e (rdE S W fe)) (hK : X.K = S.K := by rfl) (hbase : attributeBase o "append" X.env (eval o X.env) = eval o X.env := by rfl)
    (hfew : ((backTo cpos (starEach [e] X.env)).all (fun x => !x.1) && (backToKw cpos (keywordEach [] X.env)).all (fun x => x.1.isSome)
      && decide ([e].length + ([] : List Keyword).length + (if ([] : List Keyword).isEmpty then 0 else 1) < 30)) = true := by rfl)
    (hline : (apos.endLine == cpos.line) = true := by rfl) (hs : starEach [e] X.env = (false, eval e X.env) :: starEach [] X.env := by rfl) (hplain : (backTo cpos (starEach [] X.env)).any (·.1) = false := by rfl) :
    PE X (.Call (.Attribute o "append" apos) [e] [] cpos) (rdE S W (mMeth "list" oAppend fo (mCons fe mNil))) :=
  e_meth PySem.F.plainAttrs_list PySem.F.slot_list_append PySem.F.type_list_append m_append ho (a_cons he a_nil hs) hK hbase hfew hline hs hplain

/-! ### raise -/
/-- a class of errors with one argument, kept in one attribute -/
def tMkE (C : Addr) (f : Str) (te : TE) : L2.St → Hp → XK → Prop := fun σ H Q => te σ H fun v H1 => ∀ d, H1 d = none → Q (.ref C) (some d) (upd H1 d (.xd [(f, v)]))
def sRaise (c : Nat) (fa : EM D) : SM := fun env st => (fa env st).toS env fun d st1 => .exc c d env st1
theorem s_raise (c : Nat) {e : Expr} {fa : EM D} {pos : Pos} (tk : Takes X W) (he : PMk X e (tMkE (S.CA c) (S.EN c) (rdE S W fa))) (hc : X.calm = true := by rfl) : PS X (.Raise (some e) none pos) (rdS S W (sRaise c fa)) := PS.weak (ps_raise hc tk he) fun σ H E h => by
  obtain ⟨r, env, st, o, eo, h⟩ := h
  refine ⟨r, env, st, o, eo, EndS.bind h eo fun d st1 r1 H1 v l1 o1 rx h1 dx hd => ?_⟩
  obtain ⟨l2, o2⟩ := o1.fresh (u := .xd [(S.EN c, v)]) hd
  exact h1 r1 σ _ dx v l2 o2 (eo.mono (l1.trans l2)) upd_same (Rep.mono l2 _ _ rx)

/-! ### try: body, except x as n: suite -/
def withX (S : Stat) (a dx : Addr) (cls : Value) : Stat := { S with ex := some (a, dx, cls) }
section
variable {r : Rho} {n : Nat} {H : Hp} {a dx : Addr} {cls : Value}
mutual
theorem Rep.toX (hx : S.ex = none) : ∀ (d : D) (v : V), Rep S r n H d v → Rep (withX S a dx cls) r n H d v
  | .non, _, h => by unfold Rep at h ⊢; exact h
  | .bl _, _, h => by unfold Rep at h ⊢; exact h
  | .int _, _, h => by unfold Rep at h ⊢; exact h
  | .str _, _, h => by unfold Rep at h ⊢; exact h
  | .scr _, _, h => by unfold Rep at h ⊢; exact h
  | .ref _, _, h => by unfold Rep at h ⊢; exact h
  | .tup ds, _, h => by
    unfold Rep at h ⊢
    obtain ⟨p, xs, e, h1, h2⟩ := h
    exact ⟨p, xs, e, h1, RepL.toX hx ds xs h2⟩
  | .lst ds, _, h => by
    unfold Rep at h ⊢
    obtain ⟨p, xs, e, h1, ho, h2⟩ := h
    exact ⟨p, xs, e, h1, ho, RepL.toX hx ds xs h2⟩
  | .obj c ks ds, _, h => by
    unfold Rep at h ⊢
    obtain ⟨p, dx, fs, e, h1, ho, h2, h3⟩ := h
    exact ⟨p, dx, fs, e, h1, ho, h2, RepL.toX hx ds _ h3⟩
  | .exn c x, _, h => by
    unfold Rep at h
    obtain ⟨_, _, _, e, _⟩ := h
    rw [hx] at e
    cases e
theorem RepL.toX (hx : S.ex = none) : ∀ (ds : List D) (vs : List V), RepL S r n H ds vs → RepL (withX S a dx cls) r n H ds vs
  | [], _, h => by unfold RepL at h ⊢; exact h
  | d :: ds, _, h => by
    unfold RepL at h ⊢
    obtain ⟨v, w, e, h1, h2⟩ := h
    exact ⟨v, w, e, Rep.toX hx d v h1, RepL.toX hx ds w h2⟩
end
mutual
theorem Rep.ofX {m : Nat} : ∀ (d : D) (v : V), Rep (withX S a dx cls) r n H d v → below m d = true → Rep S r n H d v
  | .non, _, h, _ => by unfold Rep at h ⊢; exact h
  | .bl _, _, h, _ => by unfold Rep at h ⊢; exact h
  | .int _, _, h, _ => by unfold Rep at h ⊢; exact h
  | .str _, _, h, _ => by unfold Rep at h ⊢; exact h
  | .scr _, _, h, _ => by unfold Rep at h ⊢; exact h
  | .ref _, _, h, _ => by unfold Rep at h ⊢; exact h
  | .tup ds, _, h, b => by
    unfold Rep at h ⊢
    obtain ⟨p, xs, e, h1, h2⟩ := h
    exact ⟨p, xs, e, h1, RepL.ofX ds xs h2 (by simpa [below] using b)⟩
  | .lst ds, _, h, b => by
    unfold Rep at h ⊢
    obtain ⟨p, xs, e, h1, ho, h2⟩ := h
    exact ⟨p, xs, e, h1, ho, RepL.ofX ds xs h2 (by simpa [below] using b)⟩
  | .obj c ks ds, _, h, b => by
    unfold Rep at h ⊢
    obtain ⟨p, dx, fs, e, h1, ho, h2, h3⟩ := h
    exact ⟨p, dx, fs, e, h1, ho, h2, RepL.ofX ds _ h3 (by simpa [below] using b)⟩
  | .exn c x, _, h, b => by simp [below] at b
theorem RepL.ofX {m : Nat} : ∀ (ds : List D) (vs : List V), RepL (withX S a dx cls) r n H ds vs → belowL m ds = true → RepL S r n H ds vs
  | [], _, h, _ => by unfold RepL at h ⊢; exact h
  | d :: ds, _, h, b => by
    unfold RepL at h ⊢
    obtain ⟨v, w, e, h1, h2⟩ := h
    have b' : below m d = true ∧ belowL m ds = true := by simpa [belowL] using b
    exact ⟨v, w, e, Rep.ofX d v h1 b'.1, RepL.ofX ds w h2 b'.2⟩
end
theorem CellOk.toX (hx : S.ex = none) {p : Addr} {c : Cell} (h : CellOk S r n H p c) : CellOk (withX S a dx cls) r n H p c := by
  cases c with
  | lst ds => obtain ⟨xs, e, h⟩ := h; exact ⟨xs, e, RepL.toX hx _ _ h⟩
  | ins c ks ds => obtain ⟨q, fs, e, e2, h⟩ := h; exact ⟨q, fs, e, e2, RepL.toX hx _ _ h⟩
  | dK ks ds => obtain ⟨xs, e, e2, h⟩ := h; exact ⟨xs, e, e2, RepL.toX hx _ _ h⟩
  | dT ks ds => obtain ⟨xs, e, e2, h⟩ := h; exact ⟨xs, e, e2, RepL.toX hx _ _ h⟩
theorem CellOk.ofX {m : Nat} {p : Addr} {c : Cell} (h : CellOk (withX S a dx cls) r n H p c) (b : belowC m c = true) : CellOk S r n H p c := by
  cases c with
  | lst ds => obtain ⟨xs, e, h⟩ := h; exact ⟨xs, e, RepL.ofX _ _ h b⟩
  | ins c ks ds => obtain ⟨q, fs, e, e2, h⟩ := h; exact ⟨q, fs, e, e2, RepL.ofX _ _ h b⟩
  | dK ks ds => obtain ⟨xs, e, e2, h⟩ := h; exact ⟨xs, e, e2, RepL.ofX _ _ h b⟩
  | dT ks ds => obtain ⟨xs, e, e2, h⟩ := h; exact ⟨xs, e, e2, RepL.ofX _ _ h b⟩
theorem Ok.toX (hx : S.ex = none) {st : Sto} (o : Ok S r st H) : Ok (withX S a dx cls) r st H := ⟨o.inj, fun k c e => (o.cel k c e).toX hx⟩
end
/-- nothing of the exception is left in the store, in the slots -/
def chkS (st st' : Sto) : Bool := (List.range st'.length).all fun k => match st'[k]? with
  | some b => (match st[k]? with
    | some a => cbeq a b
    | none => false) || belowC st'.length b
  | none => true
def chkE (m : Nat) (env env' : En) : Bool := (List.range env'.length).all fun k => match env'[k]? with
  | some (some b) => (match env[k]? with
    | some (some a) => dbeq a b
    | _ => false) || below m b
  | _ => true
/-- a suite's end: slot i goes -/
def endX (i : Option Nat) (env : En) (st : Sto) : Out → Out
  | .nx env' st' => if (chkS st st' && chkE st'.length env (un i env')) = true then .nx (un i env') st' else .bad
  | .rt d st' => if (chkS st st' && below st'.length d) = true then .rt d st' else .bad
  | _ => .bad
where un (i : Option Nat) (env : En) : En := match i with
  | some i => env.set i none
  | none => env
def sTry (mt : Nat → Option Bool) (i : Option Nat) (fb fs : SM) : SM := fun env st => match fb env st with
  | .exc c d env' st' => match mt c with
    | some true => endX i env' st' (fs (match i with
      | some i => env'.set i (some (.exn c d))
      | none => env') st')
    | some false => .exc c d env' st'
    | none => .bad
  | o => o
theorem chkS_ok (hx : S.ex = none) {a dx : Addr} {cls : Value} {r r' : Rho} {H H' : Hp} {st st' : Sto} (o : Ok S r st H) (l : Le r st.length H r' st'.length H') (o' : Ok (withX S a dx cls) r' st' H') (h : chkS st st' = true) : Ok S r' st' H' := by
  refine ⟨o'.inj, fun k c e => ?_⟩
  have hk := (List.getElem?_eq_some_iff.mp e).1
  have q := List.all_eq_true.mp h k (List.mem_range.mpr hk)
  rw [e] at q
  simp only [Bool.or_eq_true] at q
  rcases q with q | q
  · cases q2 : st[k]? with
    | none => rw [q2] at q; cases q
    | some c0 =>
      rw [q2] at q
      have ec := cbeq_eq q
      subst ec
      have hk0 := (List.getElem?_eq_some_iff.mp q2).1
      exact (o'.cel k _ e).ofX (belowC_of hx ((o.cel k _ q2)))
  · exact (o'.cel k c e).ofX q
theorem chkE_ok (hx : S.ex = none) {a dx : Addr} {cls : Value} {r r' : Rho} {n n' m : Nat} {H H' : Hp} {env env' : En} {σ σ' : L2.St} (eo : EnvOk S r n H env σ) (eo' : EnvOk (withX S a dx cls) r' n' H' env' σ') (h : chkE m env env' = true) : EnvOk S r' n' H' env' σ' := by
  refine ⟨eo'.len, fun k d e => ?_⟩
  obtain ⟨v, e1, e2⟩ := eo'.at_ k d e
  refine ⟨v, e1, ?_⟩
  have hk := (List.getElem?_eq_some_iff.mp e).1
  have q := List.all_eq_true.mp h k (List.mem_range.mpr hk)
  rw [e] at q
  simp only [Bool.or_eq_true] at q
  rcases q with q | q
  · cases q2 : env[k]? with
    | none => rw [q2] at q; cases q
    | some d0 =>
      cases d0 with
      | none => rw [q2] at q; cases q
      | some d0 =>
        rw [q2] at q
        have ed := dbeq_eq _ _ q
        subst ed
        obtain ⟨w, _, g2⟩ := eo.at_ k _ q2
        exact Rep.ofX _ _ e2 (below_of hx _ _ g2)
  · exact Rep.ofX _ _ e2 q
def tsX (S : Stat) (fs : SM) : Addr → Value → Option Addr → TS := fun a cls d => match d with
  | some dx => rdS (withX S a dx cls) W0 fs
  | none => fun _ _ _ => False
theorem s_tryAs (i : Nat) {x n : Str} {c : Value} {mt : Nat → Option Bool} {body suite : List Stmt} {b0 : Stmt} {np pos pos' : Pos} {fb fs : SM} (hx : S.ex = none) (hs : X.stack = X.env :: X.outer) (hf : X.env.frame = some X.env.locals) (hN : X.N.Nodup) (hc : Names X x c) (tk : Takes X W)
    (hm : ∀ k b, mt k = some b → PySem.W.exmOne X.K (.ref (S.CA k)) c = some b)
    (hb : ∀ (W' : WX) (pn : List (Addr × Obj)) (xe : Value → Shared → Prop), Takes (X.tr pn xe) W' → PassesOwn (model X.prog X.w) X.A X.env xe → PSs (X.tr pn xe) body (rdS S W' fb))
    (hsu : ∀ (a dx : Addr) (oe : Obj) (cls : Value) (pn : List (Addr × Obj)), Zc cls (some dx) oe → (∃ vs, oe.data = .fields vs) → PSs (X.suite a ((a, oe) :: pn)) (b0 :: suite) (rdS (withX S a dx cls) W0 fs))
    (hi : X.N[i]? = some n := by rfl) (hln : X.env.kindOf n = some .local := by rfl) :
    PS X (.Try body [.ExceptHandler (some (.Name x np)) (some n) (b0 :: suite) pos'] [] [] pos) (rdS S W (sTry mt (some i) fb fs)) := by
  refine PS.weak (ps_try_as (ts := tsX S fs) hs hf hN hi hln hc tk hb fun a oe cls d pn z1 z2 => ?_) fun σ H E h => ?_
  · cases d with
    | some dx => exact hsu a dx oe cls pn z1 z2
    | none => exact PSs.weak pss_never fun _ _ _ z => z
  · obtain ⟨r, env, st, o, eo, h⟩ := h
    refine ⟨r, env, st, o, eo, ?_⟩
    unfold sTry at h
    cases q : fb env st with
    | exc k d env' st' =>
      rw [q] at h
      intro r1 σ1 H1 dx v l1 o1 eo1 hx1 rv
      simp only at h
      cases q2 : mt k with
      | none => simp only [q2] at h; exact h.elim
      | some b =>
        refine ⟨b, hm k b q2, fun hb1 a ha => ?_, fun hb1 => ?_⟩
        · subst hb1
          simp only [q2] at h
          refine ⟨r1, env'.set i (some (.exn k d)), st', o1.toX hx, ?_, ?_⟩
          · refine EnvOk.set ⟨eo1.len, fun j d' e => ?_⟩ ?_
            · obtain ⟨w, g1, g2⟩ := eo1.at_ j d' e
              exact ⟨w, g1, Rep.toX hx _ _ g2⟩
            · unfold Rep
              exact ⟨a, dx, v, rfl, rfl, hx1, Rep.toX hx _ _ rv⟩
          · cases q3 : fs (env'.set i (some (.exn k d))) st' with
            | nx env2 st2 =>
              simp only [q3, endX] at h
              split at h
              · rename_i hk
                have hk := Bool.and_eq_true_iff.mp hk
                intro r2 σ2 H2 l2 o2 eo2
                exact h r2 _ H2 (l1.trans l2) (chkS_ok hx o1 l2 o2 hk.1) (chkE_ok hx eo1 eo2.unset hk.2)
              · exact h.elim
            | rt d2 st2 =>
              simp only [q3, endX] at h
              split at h
              · rename_i hk
                have hk := Bool.and_eq_true_iff.mp hk
                intro r2 H2 v2 l2 o2 rv2
                exact h r2 H2 v2 (l1.trans l2) (chkS_ok hx o1 l2 o2 hk.1) (Rep.ofX _ _ rv2 hk.2)
              · exact h.elim
            | bk _ _ => simp only [q3, endX] at h; exact h.elim
            | ct _ _ => simp only [q3, endX] at h; exact h.elim
            | exc _ _ _ _ => simp only [q3, endX] at h; exact h.elim
            | bad => simp only [q3, endX] at h; exact h.elim
        · subst hb1
          simp only [q2] at h
          exact h r1 σ1 H1 dx v l1 o1 eo1 hx1 rv
    | nx env' st' => rw [q] at h; exact h
    | rt d st' => rw [q] at h; exact h
    | bk env' st' => rw [q] at h; exact h
    | ct env' st' => rw [q] at h; exact h
    | bad => rw [q] at h; exact h
/-- .. except x: suite -/
theorem s_tryOnly {x : Str} {c : Value} {mt : Nat → Option Bool} {body suite : List Stmt} {b0 : Stmt} {np pos pos' : Pos} {fb fs : SM} (hx : S.ex = none) (hs : X.stack = X.env :: X.outer) (hf : X.env.frame = some X.env.locals) (hc : Names X x c) (tk : Takes X W)
    (hm : ∀ k b, mt k = some b → PySem.W.exmOne X.K (.ref (S.CA k)) c = some b)
    (hb : ∀ (W' : WX) (pn : List (Addr × Obj)) (xe : Value → Shared → Prop), Takes (X.tr pn xe) W' → PassesOwn (model X.prog X.w) X.A X.env xe → PSs (X.tr pn xe) body (rdS S W' fb))
    (hsu : ∀ (a dx : Addr) (oe : Obj) (cls : Value) (pn : List (Addr × Obj)), Zc cls (some dx) oe → (∃ vs, oe.data = .fields vs) → PSs (X.suite a ((a, oe) :: pn)) (b0 :: suite) (rdS (withX S a dx cls) W0 fs)) :
    PS X (.Try body [.ExceptHandler (some (.Name x np)) none (b0 :: suite) pos'] [] [] pos) (rdS S W (sTry mt none fb fs)) := by
  refine PS.weak (ps_try_only (ts := tsX S fs) hs hf hc tk hb fun a oe cls d pn z1 z2 => ?_) fun σ H E h => ?_
  · cases d with
    | some dx => exact hsu a dx oe cls pn z1 z2
    | none => exact PSs.weak pss_never fun _ _ _ z => z
  · obtain ⟨r, env, st, o, eo, h⟩ := h
    refine ⟨r, env, st, o, eo, ?_⟩
    unfold sTry at h
    cases q : fb env st with
    | exc k d env' st' =>
      rw [q] at h
      intro r1 σ1 H1 dx v l1 o1 eo1 hx1 rv
      simp only at h
      cases q2 : mt k with
      | none => simp only [q2] at h; exact h.elim
      | some b =>
        refine ⟨b, hm k b q2, fun hb1 a ha => ?_, fun hb1 => ?_⟩
        · subst hb1
          simp only [q2] at h
          refine ⟨r1, env', st', o1.toX hx, ⟨eo1.len, fun j d' e => ?_⟩, ?_⟩
          · obtain ⟨w, g1, g2⟩ := eo1.at_ j d' e
            exact ⟨w, g1, Rep.toX hx _ _ g2⟩
          · cases q3 : fs env' st' with
            | nx env2 st2 =>
              simp only [q3, endX] at h
              split at h
              · rename_i hk
                have hk := Bool.and_eq_true_iff.mp hk
                intro r2 σ2 H2 l2 o2 eo2
                exact h r2 _ H2 (l1.trans l2) (chkS_ok hx o1 l2 o2 hk.1) (chkE_ok hx eo1 eo2 hk.2)
              · exact h.elim
            | rt d2 st2 =>
              simp only [q3, endX] at h
              split at h
              · rename_i hk
                have hk := Bool.and_eq_true_iff.mp hk
                intro r2 H2 v2 l2 o2 rv2
                exact h r2 H2 v2 (l1.trans l2) (chkS_ok hx o1 l2 o2 hk.1) (Rep.ofX _ _ rv2 hk.2)
              · exact h.elim
            | bk _ _ => simp only [q3, endX] at h; exact h.elim
            | ct _ _ => simp only [q3, endX] at h; exact h.elim
            | exc _ _ _ _ => simp only [q3, endX] at h; exact h.elim
            | bad => simp only [q3, endX] at h; exact h.elim
        · subst hb1
          simp only [q2] at h
          exact h r1 σ1 H1 dx v l1 o1 eo1 hx1 rv
    | nx env' st' => rw [q] at h; exact h
    | rt d st' => rw [q] at h; exact h
    | bk env' st' => rw [q] at h; exact h
    | ct env' st' => rw [q] at h; exact h
    | bad => rw [q] at h; exact h
end
end Cw

/-! Own errors: class X(Base) with an __init__ that says super().__init__(text) and stores one attribute. -/
namespace Cw
open PySem PySem.W PySem.Calls PyProof.Rows PySem.HandSPX
theorem one_size (v : Value) : [v].length ≤ sizeLine := by
  rw [sizeLine_eq]
  exact (by decide : 1 ≤ 16777216)
theorem tail_typ (B : Addr) (X : String) : (Value.ref B :: ESX.exTail).contains (.type X) = ESX.exTail.contains (.type X) := by
  rw [List.contains_cons]
  have : (Value.type X == Value.ref B) = false := by
    simp
  rw [this, Bool.false_or]
theorem tail_mem {C B : Addr} (X : String) (hX : ESX.exTail.contains (.type X) = true) : (Value.ref C :: .ref B :: ESX.exTail).contains (.type X) = true := by
  rw [List.contains_cons, tail_typ, hX, Bool.or_true]
theorem mro_has2 {K : W.Frag} {C B : Addr} {cd : ClassData} (hcd : W.clsIn K C = some cd) (hm : cd.mro = .ref C :: .ref B :: ESX.exTail) {b : Value} (hb : (Value.ref C :: .ref B :: ESX.exTail).contains b = true) : W.mroIn K C b = some true := by
  unfold W.mroIn
  rw [hcd, Option.bind_some, hm, if_neg (show ¬ (List.isEmpty (Value.ref C :: .ref B :: ESX.exTail) = true) from Bool.false_ne_true), hb]
section
open Builtin Builtin.ObjectAttr
variable {prog : Program} {w : World} {A : Around} {E : Value → Shared → Prop} {R : Result → Shared → Prop} {hp : Heap} {g : Array GenState} {d : Drawn} {t : Nat} {os : OsState}
theorem osa_exc2 {K : W.Frag} {name : Str} {tk : Tok} {v : Value} {x C B : Addr} {ox : Obj} {od : Option Obj} {cd : ClassData}
    (X : K.In hp) (I : W.InstAt hp x ox C od) (hcd : W.clsIn K C = some cd) (hm : cd.mro = .ref C :: .ref B :: ESX.exTail) (ha : W.findIn K (.ref C) name = some none)
    (hq : wpAny (model prog w) A.in1 (storeInOwnDict (.ref x) (.ref C) (.str name tk) name v false)
      (fun fin s' => match fin with | .done f => R (.ok f) s' | .again c' => c'.quiet = true ∧ codeAny (model prog w) A c' R s') (fun e s' => R (.error e) s') ⟨hp, g, d, t, os⟩) :
    codeAny (model prog w) A (.call (.builtin "object.__setattr__") ⟨[.ref x, .str name tk, v], []⟩) R ⟨hp, g, d, t, os⟩ := by
  have SF := F.store_object
  have sub : W.Looks (model prog w) hp (isInstance (.ref x) (.type "object")) true := I.type.andThen (W.looks_mroIn X (mro_has2 hcd hm (tail_mem "object" (by decide +kernel))))
  refine codeAny_call_builtin SF.slot.plain SF.entry (@W.check_slot (model prog w) _ _ ⟨hp, g, d, t, os⟩ "object.__setattr__" "object" "__setattr__" (.ref x) [.str name tk, v] [] _ SF.kind SF.split sub (SF.args (.ref x) (.str name tk) v) ?_)
  have hmr : W.Looks (model prog w) hp (mroOf (.ref C)) cd.mro := (W.looks_clsIn X hcd).andThen .now
  have L3 : W.Looks (model prog w) hp (storeTaker? none) none := .now
  have hpass : refuseLoop (.ref x) "__setattr__" cd.mro = pure () := by
    rw [hm, refuseLoop_ref, refuseLoop_ref]
    exact F.store_Exception.passes _
  rw [W.osa_eq, refuse_eq]
  refine wpAny_bind (wpAny_bind (I.type.at (wpAny_bind (hmr.at ?_))))
  rw [hpass]
  refine wpAny_pure (wpAny_bind (I.type.at (wpAny_bind ((W.looks_findIn X ha).at (wpAny_bind (L3.at ?_))))))
  exact hq
theorem osa_new2 {K : W.Frag} {name : Str} {tk : Tok} {v : Value} {x C B : Addr} {fv : Array Value} {cd : ClassData}
    (X : K.In hp) (hx : hp.get? x = some { cls := .ref C, data := .fields fv }) (hcd : W.clsIn K C = some cd) (hm : cd.mro = .ref C :: .ref B :: ESX.exTail) (hh : cd.hasDict = true) (ha : W.findIn K (.ref C) name = some none)
    (hq : ∀ h' tk' dx, (∀ b o, b ≠ x → hp.get? b = some o → h'.get? b = some o) → hp.objs.size ≤ dx → dx ≠ x → h'.get? x = some { cls := .ref C, dict := some dx, data := .fields fv } →
      h'.Ns1 dx (fun y => if y = name then some v else none) → R (.ok (.ret .none)) ⟨h', g, d, tk', os⟩) :
    codeAny (model prog w) A (.call (.builtin "object.__setattr__") ⟨[.ref x, .str name tk, v], []⟩) R ⟨hp, g, d, t, os⟩ := by
  have I : W.InstAt hp x { cls := .ref C, data := .fields fv } C none := ⟨hx, rfl, rfl, trivial⟩
  have hxs : x ≠ hp.objs.size := Nat.ne_of_lt (Heap.lt_size hx)
  refine osa_exc2 X I hcd hm ha ?_
  have hcls : W.Looks (model prog w) hp (classData C) cd := W.looks_clsIn X hcd
  obtain ⟨nm, bs, mro, ns, qn, hd, sn, sb, ab, col, del⟩ := cd
  dsimp only at hh
  subst hh
  unfold storeInOwnDict ownDictForStores
  repeat (first | with_reducible refine HandSPX.store_in_new ?_ ?_ | with_reducible refine wpAny_loadPart_at hx ?_ | with_reducible refine hcls.at ?_ | wp_step)
  · exact ⟨_, #[], _, (Heap.get?_update_ne _ _ _ _ hxs.symm).trans (Heap.get?_push_at rfl rfl), rfl, fun e he => absurd he (by simp), fun _ => rfl⟩
  · intro h' tk' hn' hs
    have hx₁ : (hp.push { cls := .type "dict", data := .dict #[] }).get? x = some { cls := .ref C, data := .fields fv } := Heap.get?_push_of_some _ hx
    refine hq h' tk' hp.objs.size (fun b o hb ho => ?_) (Nat.le_refl _) hxs.symm ?_ hn'
    · exact (hs.2 b (Nat.ne_of_lt (Heap.lt_size ho))).trans ((Heap.get?_update_ne _ _ _ _ hb).trans (Heap.get?_push_of_some _ ho))
    · exact (hs.2 x hxs).trans (Heap.get?_update_self _ hx₁ rfl)
end
theorem at_meth {prog : Program} {w : World} {A : Around} {c : Code} {E : Value → Shared → Prop} {s : Shared} {env : Env} {o : Expr} {name : Str} {apos pos : Pos} {args : List Expr} {Q : Value → Shared → Prop} (hline : (apos.endLine == pos.line) = true)
    (h : _root_.PySem.wpAt (model prog w) A c (attributeBase o name env (eval o env)) (fun ov s₁ => ∀ pl, wpAny (model prog w) A (getMethod ov name pl) (fun fx s₂ => wpAny (model prog w) A (callWith pos fx.1 fx.2 (backTo pos (starEach args env)) []) Q E s₂) E s₁) E s)
    (hform : methodCallForm (args.length + ([] : List Keyword).length) (backTo pos (starEach args env)) (backToKw pos (keywordEach [] env)) = true := by rfl) :
    _root_.PySem.wpAt (model prog w) A c (eval (.Call (.Attribute o name apos) args [] pos) env) Q E s := by
  rw [arm_eval_Call]
  refine _root_.PySem.wpAt_bind (_root_.PySem.wpAt_mono h (fun ov s₁ h₁ => _root_.PySem.wpAt_of_wpAny (wpAny_bind (wpAny_standAt ?_))) fun _ _ x => x)
  have hpos : methodCallPos true o env apos pos = pure pos := by unfold methodCallPos; simp [hline]
  unfold methodCall
  rw [hform]
  refine wpAny_bind (wpAny_holding (wpAny_mono (h₁ _) (fun fx s₂ h₂ => ?_) fun _ _ x => x))
  exact wpAny_bind (wpAny_of_eq hpos h₂)
/-- the class beneath, straight over Exception -/
def BaseC (K : Frag) (B : Addr) : Prop := ∃ (N : Addr) (n2 q : Str) (bs sub : List Value) (sn : List Str) (ab : Bool) (col : Option Bool) (dd : Option Addr) (k0 k1 k2 k3 k5 : Option Value), K.lookup B = some (excClassObj n2 q B N bs ESX.exTail true sn sub ab col dd k0 k1 k2 k3 k5 "Exception.__new__")
/-- the facts of one class, but for its text -/
structure ErrC (prog : Program) (K : Frag) (mg : Str → Option Value) (nm f : Str) (C fI : Addr) : Prop where
  gC : mg nm = some (.ref C)
  cls : ∃ (B N : Addr) (n2 q : Str) (bs sub : List Value) (sn : List Str) (ab : Bool) (col : Option Bool) (dd : Option Addr) (k0 k1 k2 k3 k5 : Option Value), K.lookup C = some (excClassObj n2 q C N bs (.ref B :: ESX.exTail) true sn sub ab col dd k0 k1 k2 k3 k5 "Exception.__new__") ∧ W.findIn K (.ref B) "__init__" = some (some (.builtin "Exception.__init__")) ∧ BaseC K B
  sa : findIn K (.ref C) "__setattr__" = some (some (.builtin "object.__setattr__"))
  ga : findIn K (.ref C) "__getattribute__" = some (some (.builtin "BaseException.__getattribute__"))
  gg : findIn K (.ref C) "__getattr__" = some none
  noN : findIn K (.ref C) f = some none
  iC : findIn K (.ref C) "__init__" = some (some (.ref fI))
  tC : typeIn K (.ref fI) = some (.type "function")
  kC : keepIn K (.ref C) = true
  exC : subIn K (.ref C) (.type "BaseException") = some true
  tyC : typeIn K (.ref C) = some (.type "type")
  hdC : hasDictIn K C = true
  opq : nsIn K cStatics "thirdparty.any" = some none
  sup : mg "super" = none
  htop : (prog.main.scope.names.lookup ("super" : Str)).isSome = false
theorem kept_but {K : Frag} {h h' : Heap} {x : Addr} (X : K.In h) (hx : K.lookup x = none) (k : ∀ b o, b ≠ x → h.get? b = some o → h'.get? b = some o) : K.In h' := fun a o e =>
  k a o (fun z => by rw [z, hx] at e; cases e) (X a o e)
theorem alongB {K : W.Frag} {B : Addr} (h : W.findIn K (.ref B) "__init__" = some (some (.builtin "Exception.__init__"))) (b : BaseC K B) : W.alongIn K "__init__" (.ref B :: ESX.exTail) = some (some (.builtin "Exception.__init__")) := by
  obtain ⟨N, n2, q, bs, sub, sn, ab, col, dd, k0, k1, k2, k3, k5, e⟩ := b
  unfold W.findIn at h
  rw [show (Value.ref B) = Value.ref B from rfl] at h
  simp only [e] at h
  exact h

/-! ### the attribute at -/
namespace E_at
def iA (p1 p2 : Pos) : Arguments := { posonlyargs := [], args := [{ arg := "self", annotation := none, pos := p1 }, { arg := "at", annotation := none, pos := p2 }], vararg := none, kwonlyargs := [], kw_defaults := [], kwarg := none, defaults := [] }
def iB (tx : Str) (k : Nat) (p1 p2 p3 p4 p5 p6 q1 q2 q3 q4 : Pos) : List Stmt := [.Expr (.Call (.Attribute (.Call (.Name "super" p1) [] [] p2) "__init__" p3) [.Constant (.str tx) k p4] [] p5) p6, .Assign [.Attribute (.Name "self" q1) "at" q2] (.Name "at" q3) q4]
def iS : Scope := { kind := .function, names := [(PySem.Str.ofString "self", .local), (PySem.Str.ofString "at", .local), (PySem.Str.ofString "__class__", .free), (PySem.Str.ofString "super", .globalImplicit)], isGenerator := false, isCoroutine := false, more := [] }
/-- what the written part says of the class at C -/
structure Txt (prog : Program) (K : Frag) (mg : Str → Option Value) (nm : Str) (C fI : Addr) : Prop extends ErrC prog K mg nm "at" C fI where
  fn : ∃ (oc : Value) (od : Option Addr) (doc pm : Value) (an : Option Addr) (cda : Addr) (ct : Value) (osl : Array (Option Value)) (cc : Addr) (qual tx : Str) (k : Nat) (a1 a2 p1 p2 p3 p4 p5 p6 q1 q2 q3 q4 : Pos) (ccl : Value) (cdd : Option Addr) (vs : Array Value) (ccs : Array (Option Value)) (file : Str) (tf : Tok) (cl : Value) (cld : Option Addr) (csl : Array (Option Value)),
    K.lookup fI = some ⟨oc, od, .func (ksFn "__init__" qual (iA a1 a2) (iB tx k p1 p2 p3 p4 p5 p6 q1 q2 q3 q4) iS .none .none doc pm an (.ref cda) ct cc), osl⟩ ∧ codeIn K (.ref cda) qual = true ∧
    K.lookup cda = some ⟨ccl, cdd, .fields vs, ccs⟩ ∧ vs[2]? = some (.str file tf) ∧ ((prog.main.file : Str) == file) = true ∧ K.lookup cc = some ⟨cl, cld, .cell (some (.ref C)), csl⟩ ∧ (p3.endLine == p5.line) = true
/-- what __init__ leaves of a fresh exception at x -/
structure InitEnd (h h' : Heap) (x C dx t1 : Addr) (v : Value) : Prop where
  keep : ∀ b o, b ≠ x → h.get? b = some o → h'.get? b = some o
  obj : h'.get? x = some { cls := .ref C, dict := some dx, data := .fields #[.ref t1, .none, .none, .none, .bool false, .none] }
  dbig : h.objs.size ≤ dx
  dne : dx ≠ x
  ns : h'.Ns1 dx (fun y => if y = "at" then some v else none)
/-- a made error -/
structure OwnMade (h h' : Heap) (e C d : Addr) (v : Value) : Prop where
  keep : ∀ b o, h.get? b = some o → h'.get? b = some o
  new : h.objs.size ≤ e
  obj : ∃ oe vs, h'.get? e = some oe ∧ oe.cls = .ref C ∧ oe.dict = some d ∧ oe.data = .fields vs ∧ vs[1]? = some .none
  dbig : h.objs.size ≤ d
  dne : d ≠ e
  ns : h'.Ns1 d (fun y => if y = "at" then some v else none)
section
variable {prog : Program} {w : World} {A : Around} {E : Value → Shared → Prop} {R : Result → Shared → Prop} {s : Shared} {K : Frag} {mg : Str → Option Value} {nm : Str} {C fI : Addr} {base : Heap}
theorem init_ok (T : Txt prog K mg nm C fI) (hM : L2.Mod K mg base) (bk : ∀ b o, base.get? b = some o → s.heap.get? b = some o) {x t0 : Addr} {v : Value} (hlim : s.heap.NoLimit) (hx : s.heap.get? x = some (excO C t0)) (hnx : K.lookup x = none) (hroom : A.depth + 2 < recursionLimit)
    (hq : ∀ h' tk dx t1, InitEnd s.heap h' x C dx t1 v → R (.ok (.ret .none)) { s with heap := h', toks := tk }) :
    codeAny (model prog w) A (.call (.ref fI) ⟨[.ref x, v], []⟩) R s := by
  obtain ⟨oc, od, doc, pm, an, cda, ct, osl, cc, qual, tx, k, a1, a2, p1, p2, p3, p4, p5, p6, q1, q2, q3, q4, ccl, cdd, vs, ccs, file, tf, cl, cld, csl, ho, hcd, hcode, hvs, hfile, hcell, hline⟩ := T.fn
  obtain ⟨B, N, n2, q, bs, sub, sn, ab, col, dd, k0, k1, k2, k3, k5, hC, hBi, hBc⟩ := T.cls
  obtain ⟨mb, hmb, hmb2⟩ := hM.blt
  have X : K.In s.heap := hM.kin.keeps bk
  have hcl : clsIn K C = some { name := n2, bases := bs, mro := .ref C :: .ref B :: ESX.exTail, ns := N, qualname := q, hasDict := true, slotNames := sn, subclasses := sub, abstract := ab, collection := col, hasDel := false } := by unfold clsIn; rw [hC] <;> rfl
  refine ks_codeAny_call_defAt (fd := ksFn "__init__" qual (iA a1 a2) (iB tx k p1 p2 p3 p4 p5 p6 q1 q2 q3 q4) iS .none .none doc pm an (.ref cda) ct cc) (body := iB tx k p1 p2 p3 p4 p5 p6 q1 q2 q3 q4) (binds := [("self", .ref x), ("at", v)]) (by omega) (X _ _ ho) rfl hlim (codeRec_of X hcd) rfl
    (BindsTo.of_eq (by first | rfl | with_unfolding_all rfl)) (show ∀ y ∈ iS.names, y.2 ≠ .cell by decide) (fun y hy => ?_) (fun h₀ hns k₀ => ?_) rfl rfl rfl
  · rcases List.mem_cons.mp hy with rfl | hy
    · rfl
    · rcases List.mem_cons.mp hy with rfl | hy
      · rfl
      · cases hy
  have X₀ : K.In h₀ := X.keeps k₀
  have hx₀ := k₀ _ _ hx
  have bk₀ : ∀ b o, base.get? b = some o → h₀.get? b = some o := fun b o e => k₀ _ _ (bk b o e)
  obtain ⟨hp, g, d, t, os⟩ := s
  -- super().__init__(text)
  refine ks_wpAt_execs_cons (ks_wpAt_Expr_any (at_meth hline ?_))
  refine ks_wpAt_super_base (f := fI) (cc := cda) rfl rfl (by decide) rfl (X₀ _ _ ho) rfl rfl rfl (X₀ _ _ hcode) rfl hvs hfile T.htop ?_
  refine ks_loadName_global rfl rfl (loadGlobal_builtin (mg := mg) (mb := mb) (hM.glob.keeps bk₀) T.sup (hmb.keeps bk₀) ((hmb2 _ (by decide)).trans (by decide +kernel : bootBuiltins "super" = some (.type "super"))) ⟨rfl, ?_⟩)
  refine wpAny_loadName_free (c := cc) rfl rfl rfl ⟨_, X₀ _ _ hcell, rfl⟩ ?_
  refine wpAny_loadName_local (v := .ref x) rfl rfl hns rfl ?_
  refine ks_wpAny_isType_cls (X₀ _ _ hC) rfl ⟨rfl, ?_⟩
  have I0 : InstAt h₀ x (excO C t0) C none := ⟨hx₀, rfl, rfl, trivial⟩
  have hxC : x ≠ C := ks_ne X₀ I0 hcl
  refine ks_wpAny_call_super (X₀ _ _ hC) rfl hx₀ rfl (fun c e => by cases e) (looks_mroIn X₀ (mro_has2 hcl rfl (by simp))) (fun h₁ e₁ k₁ => ?_)
  have X₁ := X₀.keeps k₁
  have hx₁ := k₁ _ _ hx₀
  have I1 : InstAt h₁ x (excO C t0) C none := ⟨hx₁, rfl, rfl, trivial⟩
  intro pl
  -- its __init__
  refine ESX.getMethod_super (l₀ := .ref C :: .ref B :: ESX.exTail) (l := .ref B :: ESX.exTail) (K := K) e₁ (looks_opaque X₁ T.opq) ((looks_clsIn X₁ hcl).andThen .now) (ESX.drop_own C _) X₁ ?along hxC (by decide) (I1.type.andThen (looks_mroIn X₁ (mro_has2 hcl rfl (tail_mem "Exception" (by decide +kernel))))) ?_
  · exact alongB hBi hBc
  have X₂ : K.In (h₁.push (ESX.bw x)) := X₁.keeps fun b o e => Heap.get?_push_of_some _ e
  show wpAny _ _ (callWith p5 (.ref h₁.objs.size) [] (backTo p5 (starEach [.Constant (.str tx) k p4] _)) []) _ _ _
  refine ESX.callWith_bound (x := x) (Calls.spliced_cons (wpAny_Constant_str (k := k) (pos := p4) (Calls.spliced_nil ⟨Heap.get?_push_at rfl rfl, ?_⟩))) rfl rfl
  refine ESX.call_bw (X₂ _ _ hC) (Heap.get?_push_of_some _ hx₁) (Heap.get?_push_at rfl rfl) (one_size _) fun h₂ t1 k₂ hx₂ => ?_
  have k0x : ∀ b o, b ≠ x → h₀.get? b = some o → h₂.get? b = some o := fun b o hb e => k₂ b o hb (Heap.get?_push_of_some _ (k₁ _ _ e))
  have X3 : K.In h₂ := kept_but X₀ hnx k0x
  have hxL : hp.objs.size ≠ x := Nat.ne_of_gt (Heap.lt_size hx)
  have hns₂ : h₂.Ns hp.objs.size (fun y => [(("self" : Str), Value.ref x), (("at" : Str), v)].reverse.lookup y) := by
    obtain ⟨oL, es, ep, hL, r⟩ := hns
    exact ⟨oL, es, ep, k0x _ _ hxL hL, r⟩
  have z : hp.objs.size < h₀.objs.size := hns.lt
  -- self.f = f
  refine ks_wpAt_execs_cons (_root_.PySem.wpAt_of_wpAny (plainObj_wpAny_Assign_Attribute ?_))
  refine ESX.ldL (v := v) hns₂ (by first | rfl | with_unfolding_all rfl | kernel_rfl) (ESX.ldL (v := .ref x) hns₂ (by first | rfl | with_unfolding_all rfl | kernel_rfl) ?_)
  refine set_plain X3 (ox := excO C t1) (od := none) ⟨hx₂, rfl, rfl, trivial⟩ T.sa ?_
  refine osa_new2 X3 hx₂ hcl rfl rfl T.noN (fun h₃ tk₃ dx k₃ dn dne hx₃ hn₃ => ?_)
  show _root_.PySem.wpAt _ _ _ (execs [] _) _ _ _
  refine _root_.PySem.wpAt_of_wpAny (wpAny_execs_nil (hq h₃ tk₃ dx t1 ⟨fun b o hb e => k₃ b o hb (k0x b o hb (k₀ b o e)), hx₃, ?_, dne, hn₃⟩))
  exact Nat.le_of_lt (Nat.lt_of_lt_of_le hns₂.lt dn)
theorem made (T : Txt prog K mg nm C fI) (hM : L2.Mod K mg base) (bk : ∀ b o, base.get? b = some o → s.heap.get? b = some o) {v : Value} (hlim : s.heap.NoLimit) (hroom : A.depth + 3 < recursionLimit)
    (hq : ∀ h' tk e d, OwnMade s.heap h' e C d v → R (.ok (.ret (.ref e))) { s with heap := h', toks := tk }) :
    codeAny (model prog w) A (.call (.ref C) ⟨[v], []⟩) R s := by
  obtain ⟨B, N, n2, q, bs, sub, sn, ab, col, dd, k0, k1, k2, k3, k5, hC, hBi, hBc⟩ := T.cls
  obtain ⟨hp, g, dr, tk, os⟩ := s
  have X : K.In hp := hM.kin.keeps bk
  have k : ∀ b o, hp.get? b = some o → ((hp.push (kdv_tup [v])).push (excO C hp.objs.size)).get? b = some o := fun b o e => Heap.get?_push_of_some _ (Heap.get?_push_of_some _ e)
  have hget : ((hp.push (kdv_tup [v])).push (excO C hp.objs.size)).get? (hp.objs.size + 1) = some (excO C hp.objs.size) := by heap_get
  have hnx : K.lookup (hp.objs.size + 1) = none := by
    cases e : K.lookup (hp.objs.size + 1) with
    | none => rfl
    | some o =>
      have z : hp.get? (hp.objs.size + 1) = some o := X _ _ e
      exact absurd (Nat.lt_of_succ_lt (Heap.lt_size z)) (Nat.lt_irrefl _)
  refine call_own F.excBase_Exception (fun Y => tail_typ B Y) (X _ _ hC) (looks_findIn X T.iC) (fun self => bind_fn X self T.tC) (one_size v) ?_
  refine init_ok (s := ⟨(hp.push (kdv_tup [v])).push (excO C hp.objs.size), g, dr, tk, os⟩) T hM (fun b o e => k b o (bk b o e)) (hlim.keeps k) hget hnx ?_ fun h' tk' dx t1 ⟨k', hx, dn, dne, hns⟩ => ?_
  · show A.depth + 1 + 2 < recursionLimit
    omega
  · have old : ∀ b o, hp.get? b = some o → h'.get? b = some o := fun b o e => k' b o (Nat.ne_of_lt (Nat.lt_succ_of_lt (Heap.lt_size e))) (k b o e)
    have z : hp.objs.size + 1 + 1 ≤ dx := by
      first
        | (simpa only [Heap.size_push] using dn)
        | exact dn
        | (have q := dn; rw [Heap.size_push, Heap.size_push] at q; exact q)
    exact ⟨rfl, hq h' tk' (hp.objs.size + 1) dx ⟨old, Nat.le_succ _, ⟨_, _, hx, rfl, rfl, rfl, rfl⟩, Nat.le_trans (Nat.le_trans (Nat.le_succ _) (Nat.le_succ _)) z, dne, hns⟩⟩
end
section
open L2
theorem relO_f {v : V} {v' : Value} (r : RelV v v') (f : Str) : RelO (List.lookup f [(("at" : Str), v)]) (if f = "at" then some v' else none) := by
  by_cases hw : f = "at"
  · subst hw
    rw [if_pos rfl]
    have q : List.lookup ("at" : Str) [(("at" : Str), v)] = some v := by simp [List.lookup]
    rw [q]
    exact r
  · rw [if_neg hw]
    have qw : (f == ("at" : Str)) = false := by simpa using hw
    have q2 : List.lookup f [(("at" : Str), v)] = none := by simp [List.lookup, qw]
    rw [q2]
    trivial
variable {X : Cx} {C fI : Addr}
theorem pmk {nm : Str} {a : Expr} {te : TE} {p pos : Pos} {k : Nat} (T : Txt X.prog X.K X.mg nm C fI) (hr : Room k X.A) (ha : PE X a te) (hg : Gl X nm := by rfl) (hdb : (nm == ("__debug__" : Str)) = false := by decide)
    (he : starEach (a :: []) X.env = (false, eval a X.env) :: starEach [] X.env := by rfl) (hpl : (backTo pos (starEach [] X.env)).any (·.1) = false := by rfl) :
    PMk X (.Call (.Name nm p) [a] [] pos) (tMkE C "at" te) := by
  intro pins s σ H Q I h
  refine wpAny_Call_Name_kw (ld_glob I hg T.gC ?_ hdb)
  refine PySem.W.callWith_K (h₀ := X.base) I.ok.mod.kin T.kC (thn ((pa_cons ha pa_nil he).run pos pins s σ H (fun vs H1 => match vs with | [v] => ∀ d, H1 d = none → Q (.ref C) (some d) (upd H1 d (.xd [(("at" : Str), v)])) | _ => False) I h) fun us s1 hh => ?_) he hpl
  obtain ⟨vs, H1, I1, r1, q1⟩ := hh
  obtain ⟨v, ev⟩ : ∃ v, vs = [v] := by
    cases vs with
    | nil => exact q1.elim
    | cons v vs =>
      cases vs with
      | nil => exact ⟨v, rfl⟩
      | cons _ _ => exact q1.elim
  subst ev
  refine ⟨I1.kIn, ?_⟩
  cases r1 with
  | cons rv rn =>
    rename_i v' us'
    cases rn
    show wpAny _ _ (call (.ref C) [v']) _ _ _
    have hlim := I1.nolimit
    have hbk := I1.bk
    obtain ⟨hp, g, dr, tk, os⟩ := s1
    refine wpAny_call (made T I1.ok.mod hbk hlim (by have := hr.dp; omega) fun h' tk' e d M => ?_)
    show MkP X pins σ Q (.ref e) ⟨h', g, dr, tk', os⟩
    obtain ⟨oe, fv, hoe, hc, hd, hdat, h1⟩ := M.obj
    have hns := M.ns
    obtain ⟨G', g1, g2⟩ := restrict h' fun b => decide (b ≠ e)
    have gk : ∀ b, b ≠ e → G'.get? b = h'.get? b := fun b hb => g1 b (decide_eq_true hb)
    have ge : G'.get? e = none := g2 e (by simp)
    have old : ∀ b o, hp.get? b = some o → G'.get? b = some o := fun b o q => (gk b (Nat.ne_of_lt (Nat.lt_of_lt_of_le (Heap.lt_size q) M.new))).trans (M.keep b o q)
    have ob : ObjOk X.prog X.w (upd H1 d (.xd [(("at" : Str), v)])) G' d (.xd [(("at" : Str), v)]) :=
      ⟨_, hns.at (fun o q => (gk d M.dne).trans q), fun f => relO_f rv f⟩
    have J : Inv X pins σ (upd H1 d (.xd [(("at" : Str), v)])) ⟨G', g, dr, tk', os⟩ := I1.laid (t' := tk') old M.dbig ob
    refine ⟨e, oe, fv, ⟨G', g, dr, tk', os⟩, _, .ref C, some d, rfl, J, fun b o q => ?_, ge, hoe, ⟨hc, hd⟩, hdat, h1, ?_, rfl, I1.bare, raises_own T.exC T.tyC, q1 d (I1.hok.fresh M.dbig)⟩
    · by_cases hb : b = e
      · have q' : G'.get? b = some o := q
        rw [hb, ge] at q'; cases q'
      · exact (gk b hb).symm.trans q
    · rw [upd_ne (Ne.symm M.dne)]
      exact I1.hok.fresh M.new
end
end E_at

/-! ### the attribute word -/
namespace E_word
def iA (p1 p2 : Pos) : Arguments := { posonlyargs := [], args := [{ arg := "self", annotation := none, pos := p1 }, { arg := "word", annotation := none, pos := p2 }], vararg := none, kwonlyargs := [], kw_defaults := [], kwarg := none, defaults := [] }
def iB (tx : Str) (k : Nat) (p1 p2 p3 p4 p5 p6 q1 q2 q3 q4 : Pos) : List Stmt := [.Expr (.Call (.Attribute (.Call (.Name "super" p1) [] [] p2) "__init__" p3) [.Constant (.str tx) k p4] [] p5) p6, .Assign [.Attribute (.Name "self" q1) "word" q2] (.Name "word" q3) q4]
def iS : Scope := { kind := .function, names := [(PySem.Str.ofString "self", .local), (PySem.Str.ofString "word", .local), (PySem.Str.ofString "__class__", .free), (PySem.Str.ofString "super", .globalImplicit)], isGenerator := false, isCoroutine := false, more := [] }
/-- what the written part says of the class at C -/
structure Txt (prog : Program) (K : Frag) (mg : Str → Option Value) (nm : Str) (C fI : Addr) : Prop extends ErrC prog K mg nm "word" C fI where
  fn : ∃ (oc : Value) (od : Option Addr) (doc pm : Value) (an : Option Addr) (cda : Addr) (ct : Value) (osl : Array (Option Value)) (cc : Addr) (qual tx : Str) (k : Nat) (a1 a2 p1 p2 p3 p4 p5 p6 q1 q2 q3 q4 : Pos) (ccl : Value) (cdd : Option Addr) (vs : Array Value) (ccs : Array (Option Value)) (file : Str) (tf : Tok) (cl : Value) (cld : Option Addr) (csl : Array (Option Value)),
    K.lookup fI = some ⟨oc, od, .func (ksFn "__init__" qual (iA a1 a2) (iB tx k p1 p2 p3 p4 p5 p6 q1 q2 q3 q4) iS .none .none doc pm an (.ref cda) ct cc), osl⟩ ∧ codeIn K (.ref cda) qual = true ∧
    K.lookup cda = some ⟨ccl, cdd, .fields vs, ccs⟩ ∧ vs[2]? = some (.str file tf) ∧ ((prog.main.file : Str) == file) = true ∧ K.lookup cc = some ⟨cl, cld, .cell (some (.ref C)), csl⟩ ∧ (p3.endLine == p5.line) = true
/-- what __init__ leaves of a fresh exception at x -/
structure InitEnd (h h' : Heap) (x C dx t1 : Addr) (v : Value) : Prop where
  keep : ∀ b o, b ≠ x → h.get? b = some o → h'.get? b = some o
  obj : h'.get? x = some { cls := .ref C, dict := some dx, data := .fields #[.ref t1, .none, .none, .none, .bool false, .none] }
  dbig : h.objs.size ≤ dx
  dne : dx ≠ x
  ns : h'.Ns1 dx (fun y => if y = "word" then some v else none)
/-- a made error -/
structure OwnMade (h h' : Heap) (e C d : Addr) (v : Value) : Prop where
  keep : ∀ b o, h.get? b = some o → h'.get? b = some o
  new : h.objs.size ≤ e
  obj : ∃ oe vs, h'.get? e = some oe ∧ oe.cls = .ref C ∧ oe.dict = some d ∧ oe.data = .fields vs ∧ vs[1]? = some .none
  dbig : h.objs.size ≤ d
  dne : d ≠ e
  ns : h'.Ns1 d (fun y => if y = "word" then some v else none)
section
variable {prog : Program} {w : World} {A : Around} {E : Value → Shared → Prop} {R : Result → Shared → Prop} {s : Shared} {K : Frag} {mg : Str → Option Value} {nm : Str} {C fI : Addr} {base : Heap}
theorem init_ok (T : Txt prog K mg nm C fI) (hM : L2.Mod K mg base) (bk : ∀ b o, base.get? b = some o → s.heap.get? b = some o) {x t0 : Addr} {v : Value} (hlim : s.heap.NoLimit) (hx : s.heap.get? x = some (excO C t0)) (hnx : K.lookup x = none) (hroom : A.depth + 2 < recursionLimit)
    (hq : ∀ h' tk dx t1, InitEnd s.heap h' x C dx t1 v → R (.ok (.ret .none)) { s with heap := h', toks := tk }) :
    codeAny (model prog w) A (.call (.ref fI) ⟨[.ref x, v], []⟩) R s := by
  obtain ⟨oc, od, doc, pm, an, cda, ct, osl, cc, qual, tx, k, a1, a2, p1, p2, p3, p4, p5, p6, q1, q2, q3, q4, ccl, cdd, vs, ccs, file, tf, cl, cld, csl, ho, hcd, hcode, hvs, hfile, hcell, hline⟩ := T.fn
  obtain ⟨B, N, n2, q, bs, sub, sn, ab, col, dd, k0, k1, k2, k3, k5, hC, hBi, hBc⟩ := T.cls
  obtain ⟨mb, hmb, hmb2⟩ := hM.blt
  have X : K.In s.heap := hM.kin.keeps bk
  have hcl : clsIn K C = some { name := n2, bases := bs, mro := .ref C :: .ref B :: ESX.exTail, ns := N, qualname := q, hasDict := true, slotNames := sn, subclasses := sub, abstract := ab, collection := col, hasDel := false } := by unfold clsIn; rw [hC] <;> rfl
  refine ks_codeAny_call_defAt (fd := ksFn "__init__" qual (iA a1 a2) (iB tx k p1 p2 p3 p4 p5 p6 q1 q2 q3 q4) iS .none .none doc pm an (.ref cda) ct cc) (body := iB tx k p1 p2 p3 p4 p5 p6 q1 q2 q3 q4) (binds := [("self", .ref x), ("word", v)]) (by omega) (X _ _ ho) rfl hlim (codeRec_of X hcd) rfl
    (BindsTo.of_eq (by first | rfl | with_unfolding_all rfl)) (show ∀ y ∈ iS.names, y.2 ≠ .cell by decide) (fun y hy => ?_) (fun h₀ hns k₀ => ?_) rfl rfl rfl
  · rcases List.mem_cons.mp hy with rfl | hy
    · rfl
    · rcases List.mem_cons.mp hy with rfl | hy
      · rfl
      · cases hy
  have X₀ : K.In h₀ := X.keeps k₀
  have hx₀ := k₀ _ _ hx
  have bk₀ : ∀ b o, base.get? b = some o → h₀.get? b = some o := fun b o e => k₀ _ _ (bk b o e)
  obtain ⟨hp, g, d, t, os⟩ := s
  -- super().__init__(text)
  refine ks_wpAt_execs_cons (ks_wpAt_Expr_any (at_meth hline ?_))
  refine ks_wpAt_super_base (f := fI) (cc := cda) rfl rfl (by decide) rfl (X₀ _ _ ho) rfl rfl rfl (X₀ _ _ hcode) rfl hvs hfile T.htop ?_
  refine ks_loadName_global rfl rfl (loadGlobal_builtin (mg := mg) (mb := mb) (hM.glob.keeps bk₀) T.sup (hmb.keeps bk₀) ((hmb2 _ (by decide)).trans (by decide +kernel : bootBuiltins "super" = some (.type "super"))) ⟨rfl, ?_⟩)
  refine wpAny_loadName_free (c := cc) rfl rfl rfl ⟨_, X₀ _ _ hcell, rfl⟩ ?_
  refine wpAny_loadName_local (v := .ref x) rfl rfl hns rfl ?_
  refine ks_wpAny_isType_cls (X₀ _ _ hC) rfl ⟨rfl, ?_⟩
  have I0 : InstAt h₀ x (excO C t0) C none := ⟨hx₀, rfl, rfl, trivial⟩
  have hxC : x ≠ C := ks_ne X₀ I0 hcl
  refine ks_wpAny_call_super (X₀ _ _ hC) rfl hx₀ rfl (fun c e => by cases e) (looks_mroIn X₀ (mro_has2 hcl rfl (by simp))) (fun h₁ e₁ k₁ => ?_)
  have X₁ := X₀.keeps k₁
  have hx₁ := k₁ _ _ hx₀
  have I1 : InstAt h₁ x (excO C t0) C none := ⟨hx₁, rfl, rfl, trivial⟩
  intro pl
  -- its __init__
  refine ESX.getMethod_super (l₀ := .ref C :: .ref B :: ESX.exTail) (l := .ref B :: ESX.exTail) (K := K) e₁ (looks_opaque X₁ T.opq) ((looks_clsIn X₁ hcl).andThen .now) (ESX.drop_own C _) X₁ ?along hxC (by decide) (I1.type.andThen (looks_mroIn X₁ (mro_has2 hcl rfl (tail_mem "Exception" (by decide +kernel))))) ?_
  · exact alongB hBi hBc
  have X₂ : K.In (h₁.push (ESX.bw x)) := X₁.keeps fun b o e => Heap.get?_push_of_some _ e
  show wpAny _ _ (callWith p5 (.ref h₁.objs.size) [] (backTo p5 (starEach [.Constant (.str tx) k p4] _)) []) _ _ _
  refine ESX.callWith_bound (x := x) (Calls.spliced_cons (wpAny_Constant_str (k := k) (pos := p4) (Calls.spliced_nil ⟨Heap.get?_push_at rfl rfl, ?_⟩))) rfl rfl
  refine ESX.call_bw (X₂ _ _ hC) (Heap.get?_push_of_some _ hx₁) (Heap.get?_push_at rfl rfl) (one_size _) fun h₂ t1 k₂ hx₂ => ?_
  have k0x : ∀ b o, b ≠ x → h₀.get? b = some o → h₂.get? b = some o := fun b o hb e => k₂ b o hb (Heap.get?_push_of_some _ (k₁ _ _ e))
  have X3 : K.In h₂ := kept_but X₀ hnx k0x
  have hxL : hp.objs.size ≠ x := Nat.ne_of_gt (Heap.lt_size hx)
  have hns₂ : h₂.Ns hp.objs.size (fun y => [(("self" : Str), Value.ref x), (("word" : Str), v)].reverse.lookup y) := by
    obtain ⟨oL, es, ep, hL, r⟩ := hns
    exact ⟨oL, es, ep, k0x _ _ hxL hL, r⟩
  have z : hp.objs.size < h₀.objs.size := hns.lt
  -- self.f = f
  refine ks_wpAt_execs_cons (_root_.PySem.wpAt_of_wpAny (plainObj_wpAny_Assign_Attribute ?_))
  refine ESX.ldL (v := v) hns₂ (by first | rfl | with_unfolding_all rfl | kernel_rfl) (ESX.ldL (v := .ref x) hns₂ (by first | rfl | with_unfolding_all rfl | kernel_rfl) ?_)
  refine set_plain X3 (ox := excO C t1) (od := none) ⟨hx₂, rfl, rfl, trivial⟩ T.sa ?_
  refine osa_new2 X3 hx₂ hcl rfl rfl T.noN (fun h₃ tk₃ dx k₃ dn dne hx₃ hn₃ => ?_)
  show _root_.PySem.wpAt _ _ _ (execs [] _) _ _ _
  refine _root_.PySem.wpAt_of_wpAny (wpAny_execs_nil (hq h₃ tk₃ dx t1 ⟨fun b o hb e => k₃ b o hb (k0x b o hb (k₀ b o e)), hx₃, ?_, dne, hn₃⟩))
  exact Nat.le_of_lt (Nat.lt_of_lt_of_le hns₂.lt dn)
theorem made (T : Txt prog K mg nm C fI) (hM : L2.Mod K mg base) (bk : ∀ b o, base.get? b = some o → s.heap.get? b = some o) {v : Value} (hlim : s.heap.NoLimit) (hroom : A.depth + 3 < recursionLimit)
    (hq : ∀ h' tk e d, OwnMade s.heap h' e C d v → R (.ok (.ret (.ref e))) { s with heap := h', toks := tk }) :
    codeAny (model prog w) A (.call (.ref C) ⟨[v], []⟩) R s := by
  obtain ⟨B, N, n2, q, bs, sub, sn, ab, col, dd, k0, k1, k2, k3, k5, hC, hBi, hBc⟩ := T.cls
  obtain ⟨hp, g, dr, tk, os⟩ := s
  have X : K.In hp := hM.kin.keeps bk
  have k : ∀ b o, hp.get? b = some o → ((hp.push (kdv_tup [v])).push (excO C hp.objs.size)).get? b = some o := fun b o e => Heap.get?_push_of_some _ (Heap.get?_push_of_some _ e)
  have hget : ((hp.push (kdv_tup [v])).push (excO C hp.objs.size)).get? (hp.objs.size + 1) = some (excO C hp.objs.size) := by heap_get
  have hnx : K.lookup (hp.objs.size + 1) = none := by
    cases e : K.lookup (hp.objs.size + 1) with
    | none => rfl
    | some o =>
      have z : hp.get? (hp.objs.size + 1) = some o := X _ _ e
      exact absurd (Nat.lt_of_succ_lt (Heap.lt_size z)) (Nat.lt_irrefl _)
  refine call_own F.excBase_Exception (fun Y => tail_typ B Y) (X _ _ hC) (looks_findIn X T.iC) (fun self => bind_fn X self T.tC) (one_size v) ?_
  refine init_ok (s := ⟨(hp.push (kdv_tup [v])).push (excO C hp.objs.size), g, dr, tk, os⟩) T hM (fun b o e => k b o (bk b o e)) (hlim.keeps k) hget hnx ?_ fun h' tk' dx t1 ⟨k', hx, dn, dne, hns⟩ => ?_
  · show A.depth + 1 + 2 < recursionLimit
    omega
  · have old : ∀ b o, hp.get? b = some o → h'.get? b = some o := fun b o e => k' b o (Nat.ne_of_lt (Nat.lt_succ_of_lt (Heap.lt_size e))) (k b o e)
    have z : hp.objs.size + 1 + 1 ≤ dx := by
      first
        | (simpa only [Heap.size_push] using dn)
        | exact dn
        | (have q := dn; rw [Heap.size_push, Heap.size_push] at q; exact q)
    exact ⟨rfl, hq h' tk' (hp.objs.size + 1) dx ⟨old, Nat.le_succ _, ⟨_, _, hx, rfl, rfl, rfl, rfl⟩, Nat.le_trans (Nat.le_trans (Nat.le_succ _) (Nat.le_succ _)) z, dne, hns⟩⟩
end
section
open L2
theorem relO_f {v : V} {v' : Value} (r : RelV v v') (f : Str) : RelO (List.lookup f [(("word" : Str), v)]) (if f = "word" then some v' else none) := by
  by_cases hw : f = "word"
  · subst hw
    rw [if_pos rfl]
    have q : List.lookup ("word" : Str) [(("word" : Str), v)] = some v := by simp [List.lookup]
    rw [q]
    exact r
  · rw [if_neg hw]
    have qw : (f == ("word" : Str)) = false := by simpa using hw
    have q2 : List.lookup f [(("word" : Str), v)] = none := by simp [List.lookup, qw]
    rw [q2]
    trivial
variable {X : Cx} {C fI : Addr}
theorem pmk {nm : Str} {a : Expr} {te : TE} {p pos : Pos} {k : Nat} (T : Txt X.prog X.K X.mg nm C fI) (hr : Room k X.A) (ha : PE X a te) (hg : Gl X nm := by rfl) (hdb : (nm == ("__debug__" : Str)) = false := by decide)
    (he : starEach (a :: []) X.env = (false, eval a X.env) :: starEach [] X.env := by rfl) (hpl : (backTo pos (starEach [] X.env)).any (·.1) = false := by rfl) :
    PMk X (.Call (.Name nm p) [a] [] pos) (tMkE C "word" te) := by
  intro pins s σ H Q I h
  refine wpAny_Call_Name_kw (ld_glob I hg T.gC ?_ hdb)
  refine PySem.W.callWith_K (h₀ := X.base) I.ok.mod.kin T.kC (thn ((pa_cons ha pa_nil he).run pos pins s σ H (fun vs H1 => match vs with | [v] => ∀ d, H1 d = none → Q (.ref C) (some d) (upd H1 d (.xd [(("word" : Str), v)])) | _ => False) I h) fun us s1 hh => ?_) he hpl
  obtain ⟨vs, H1, I1, r1, q1⟩ := hh
  obtain ⟨v, ev⟩ : ∃ v, vs = [v] := by
    cases vs with
    | nil => exact q1.elim
    | cons v vs =>
      cases vs with
      | nil => exact ⟨v, rfl⟩
      | cons _ _ => exact q1.elim
  subst ev
  refine ⟨I1.kIn, ?_⟩
  cases r1 with
  | cons rv rn =>
    rename_i v' us'
    cases rn
    show wpAny _ _ (call (.ref C) [v']) _ _ _
    have hlim := I1.nolimit
    have hbk := I1.bk
    obtain ⟨hp, g, dr, tk, os⟩ := s1
    refine wpAny_call (made T I1.ok.mod hbk hlim (by have := hr.dp; omega) fun h' tk' e d M => ?_)
    show MkP X pins σ Q (.ref e) ⟨h', g, dr, tk', os⟩
    obtain ⟨oe, fv, hoe, hc, hd, hdat, h1⟩ := M.obj
    have hns := M.ns
    obtain ⟨G', g1, g2⟩ := restrict h' fun b => decide (b ≠ e)
    have gk : ∀ b, b ≠ e → G'.get? b = h'.get? b := fun b hb => g1 b (decide_eq_true hb)
    have ge : G'.get? e = none := g2 e (by simp)
    have old : ∀ b o, hp.get? b = some o → G'.get? b = some o := fun b o q => (gk b (Nat.ne_of_lt (Nat.lt_of_lt_of_le (Heap.lt_size q) M.new))).trans (M.keep b o q)
    have ob : ObjOk X.prog X.w (upd H1 d (.xd [(("word" : Str), v)])) G' d (.xd [(("word" : Str), v)]) :=
      ⟨_, hns.at (fun o q => (gk d M.dne).trans q), fun f => relO_f rv f⟩
    have J : Inv X pins σ (upd H1 d (.xd [(("word" : Str), v)])) ⟨G', g, dr, tk', os⟩ := I1.laid (t' := tk') old M.dbig ob
    refine ⟨e, oe, fv, ⟨G', g, dr, tk', os⟩, _, .ref C, some d, rfl, J, fun b o q => ?_, ge, hoe, ⟨hc, hd⟩, hdat, h1, ?_, rfl, I1.bare, raises_own T.exC T.tyC, q1 d (I1.hok.fresh M.dbig)⟩
    · by_cases hb : b = e
      · have q' : G'.get? b = some o := q
        rw [hb, ge] at q'; cases q'
      · exact (gk b hb).symm.trans q
    · rw [upd_ne (Ne.symm M.dne)]
      exact I1.hok.fresh M.new
end
end E_word

/-! ### the attribute name -/
namespace E_name
def iA (p1 p2 : Pos) : Arguments := { posonlyargs := [], args := [{ arg := "self", annotation := none, pos := p1 }, { arg := "name", annotation := none, pos := p2 }], vararg := none, kwonlyargs := [], kw_defaults := [], kwarg := none, defaults := [] }
def iB (tx : Str) (k : Nat) (p1 p2 p3 p4 p5 p6 q1 q2 q3 q4 : Pos) : List Stmt := [.Expr (.Call (.Attribute (.Call (.Name "super" p1) [] [] p2) "__init__" p3) [.Constant (.str tx) k p4] [] p5) p6, .Assign [.Attribute (.Name "self" q1) "name" q2] (.Name "name" q3) q4]
def iS : Scope := { kind := .function, names := [(PySem.Str.ofString "self", .local), (PySem.Str.ofString "name", .local), (PySem.Str.ofString "__class__", .free), (PySem.Str.ofString "super", .globalImplicit)], isGenerator := false, isCoroutine := false, more := [] }
/-- what the written part says of the class at C -/
structure Txt (prog : Program) (K : Frag) (mg : Str → Option Value) (nm : Str) (C fI : Addr) : Prop extends ErrC prog K mg nm "name" C fI where
  fn : ∃ (oc : Value) (od : Option Addr) (doc pm : Value) (an : Option Addr) (cda : Addr) (ct : Value) (osl : Array (Option Value)) (cc : Addr) (qual tx : Str) (k : Nat) (a1 a2 p1 p2 p3 p4 p5 p6 q1 q2 q3 q4 : Pos) (ccl : Value) (cdd : Option Addr) (vs : Array Value) (ccs : Array (Option Value)) (file : Str) (tf : Tok) (cl : Value) (cld : Option Addr) (csl : Array (Option Value)),
    K.lookup fI = some ⟨oc, od, .func (ksFn "__init__" qual (iA a1 a2) (iB tx k p1 p2 p3 p4 p5 p6 q1 q2 q3 q4) iS .none .none doc pm an (.ref cda) ct cc), osl⟩ ∧ codeIn K (.ref cda) qual = true ∧
    K.lookup cda = some ⟨ccl, cdd, .fields vs, ccs⟩ ∧ vs[2]? = some (.str file tf) ∧ ((prog.main.file : Str) == file) = true ∧ K.lookup cc = some ⟨cl, cld, .cell (some (.ref C)), csl⟩ ∧ (p3.endLine == p5.line) = true
/-- what __init__ leaves of a fresh exception at x -/
structure InitEnd (h h' : Heap) (x C dx t1 : Addr) (v : Value) : Prop where
  keep : ∀ b o, b ≠ x → h.get? b = some o → h'.get? b = some o
  obj : h'.get? x = some { cls := .ref C, dict := some dx, data := .fields #[.ref t1, .none, .none, .none, .bool false, .none] }
  dbig : h.objs.size ≤ dx
  dne : dx ≠ x
  ns : h'.Ns1 dx (fun y => if y = "name" then some v else none)
/-- a made error -/
structure OwnMade (h h' : Heap) (e C d : Addr) (v : Value) : Prop where
  keep : ∀ b o, h.get? b = some o → h'.get? b = some o
  new : h.objs.size ≤ e
  obj : ∃ oe vs, h'.get? e = some oe ∧ oe.cls = .ref C ∧ oe.dict = some d ∧ oe.data = .fields vs ∧ vs[1]? = some .none
  dbig : h.objs.size ≤ d
  dne : d ≠ e
  ns : h'.Ns1 d (fun y => if y = "name" then some v else none)
section
variable {prog : Program} {w : World} {A : Around} {E : Value → Shared → Prop} {R : Result → Shared → Prop} {s : Shared} {K : Frag} {mg : Str → Option Value} {nm : Str} {C fI : Addr} {base : Heap}
theorem init_ok (T : Txt prog K mg nm C fI) (hM : L2.Mod K mg base) (bk : ∀ b o, base.get? b = some o → s.heap.get? b = some o) {x t0 : Addr} {v : Value} (hlim : s.heap.NoLimit) (hx : s.heap.get? x = some (excO C t0)) (hnx : K.lookup x = none) (hroom : A.depth + 2 < recursionLimit)
    (hq : ∀ h' tk dx t1, InitEnd s.heap h' x C dx t1 v → R (.ok (.ret .none)) { s with heap := h', toks := tk }) :
    codeAny (model prog w) A (.call (.ref fI) ⟨[.ref x, v], []⟩) R s := by
  obtain ⟨oc, od, doc, pm, an, cda, ct, osl, cc, qual, tx, k, a1, a2, p1, p2, p3, p4, p5, p6, q1, q2, q3, q4, ccl, cdd, vs, ccs, file, tf, cl, cld, csl, ho, hcd, hcode, hvs, hfile, hcell, hline⟩ := T.fn
  obtain ⟨B, N, n2, q, bs, sub, sn, ab, col, dd, k0, k1, k2, k3, k5, hC, hBi, hBc⟩ := T.cls
  obtain ⟨mb, hmb, hmb2⟩ := hM.blt
  have X : K.In s.heap := hM.kin.keeps bk
  have hcl : clsIn K C = some { name := n2, bases := bs, mro := .ref C :: .ref B :: ESX.exTail, ns := N, qualname := q, hasDict := true, slotNames := sn, subclasses := sub, abstract := ab, collection := col, hasDel := false } := by unfold clsIn; rw [hC] <;> rfl
  refine ks_codeAny_call_defAt (fd := ksFn "__init__" qual (iA a1 a2) (iB tx k p1 p2 p3 p4 p5 p6 q1 q2 q3 q4) iS .none .none doc pm an (.ref cda) ct cc) (body := iB tx k p1 p2 p3 p4 p5 p6 q1 q2 q3 q4) (binds := [("self", .ref x), ("name", v)]) (by omega) (X _ _ ho) rfl hlim (codeRec_of X hcd) rfl
    (BindsTo.of_eq (by first | rfl | with_unfolding_all rfl)) (show ∀ y ∈ iS.names, y.2 ≠ .cell by decide) (fun y hy => ?_) (fun h₀ hns k₀ => ?_) rfl rfl rfl
  · rcases List.mem_cons.mp hy with rfl | hy
    · rfl
    · rcases List.mem_cons.mp hy with rfl | hy
      · rfl
      · cases hy
  have X₀ : K.In h₀ := X.keeps k₀
  have hx₀ := k₀ _ _ hx
  have bk₀ : ∀ b o, base.get? b = some o → h₀.get? b = some o := fun b o e => k₀ _ _ (bk b o e)
  obtain ⟨hp, g, d, t, os⟩ := s
  -- super().__init__(text)
  refine ks_wpAt_execs_cons (ks_wpAt_Expr_any (at_meth hline ?_))
  refine ks_wpAt_super_base (f := fI) (cc := cda) rfl rfl (by decide) rfl (X₀ _ _ ho) rfl rfl rfl (X₀ _ _ hcode) rfl hvs hfile T.htop ?_
  refine ks_loadName_global rfl rfl (loadGlobal_builtin (mg := mg) (mb := mb) (hM.glob.keeps bk₀) T.sup (hmb.keeps bk₀) ((hmb2 _ (by decide)).trans (by decide +kernel : bootBuiltins "super" = some (.type "super"))) ⟨rfl, ?_⟩)
  refine wpAny_loadName_free (c := cc) rfl rfl rfl ⟨_, X₀ _ _ hcell, rfl⟩ ?_
  refine wpAny_loadName_local (v := .ref x) rfl rfl hns rfl ?_
  refine ks_wpAny_isType_cls (X₀ _ _ hC) rfl ⟨rfl, ?_⟩
  have I0 : InstAt h₀ x (excO C t0) C none := ⟨hx₀, rfl, rfl, trivial⟩
  have hxC : x ≠ C := ks_ne X₀ I0 hcl
  refine ks_wpAny_call_super (X₀ _ _ hC) rfl hx₀ rfl (fun c e => by cases e) (looks_mroIn X₀ (mro_has2 hcl rfl (by simp))) (fun h₁ e₁ k₁ => ?_)
  have X₁ := X₀.keeps k₁
  have hx₁ := k₁ _ _ hx₀
  have I1 : InstAt h₁ x (excO C t0) C none := ⟨hx₁, rfl, rfl, trivial⟩
  intro pl
  -- its __init__
  refine ESX.getMethod_super (l₀ := .ref C :: .ref B :: ESX.exTail) (l := .ref B :: ESX.exTail) (K := K) e₁ (looks_opaque X₁ T.opq) ((looks_clsIn X₁ hcl).andThen .now) (ESX.drop_own C _) X₁ ?along hxC (by decide) (I1.type.andThen (looks_mroIn X₁ (mro_has2 hcl rfl (tail_mem "Exception" (by decide +kernel))))) ?_
  · exact alongB hBi hBc
  have X₂ : K.In (h₁.push (ESX.bw x)) := X₁.keeps fun b o e => Heap.get?_push_of_some _ e
  show wpAny _ _ (callWith p5 (.ref h₁.objs.size) [] (backTo p5 (starEach [.Constant (.str tx) k p4] _)) []) _ _ _
  refine ESX.callWith_bound (x := x) (Calls.spliced_cons (wpAny_Constant_str (k := k) (pos := p4) (Calls.spliced_nil ⟨Heap.get?_push_at rfl rfl, ?_⟩))) rfl rfl
  refine ESX.call_bw (X₂ _ _ hC) (Heap.get?_push_of_some _ hx₁) (Heap.get?_push_at rfl rfl) (one_size _) fun h₂ t1 k₂ hx₂ => ?_
  have k0x : ∀ b o, b ≠ x → h₀.get? b = some o → h₂.get? b = some o := fun b o hb e => k₂ b o hb (Heap.get?_push_of_some _ (k₁ _ _ e))
  have X3 : K.In h₂ := kept_but X₀ hnx k0x
  have hxL : hp.objs.size ≠ x := Nat.ne_of_gt (Heap.lt_size hx)
  have hns₂ : h₂.Ns hp.objs.size (fun y => [(("self" : Str), Value.ref x), (("name" : Str), v)].reverse.lookup y) := by
    obtain ⟨oL, es, ep, hL, r⟩ := hns
    exact ⟨oL, es, ep, k0x _ _ hxL hL, r⟩
  have z : hp.objs.size < h₀.objs.size := hns.lt
  -- self.f = f
  refine ks_wpAt_execs_cons (_root_.PySem.wpAt_of_wpAny (plainObj_wpAny_Assign_Attribute ?_))
  refine ESX.ldL (v := v) hns₂ (by first | rfl | with_unfolding_all rfl | kernel_rfl) (ESX.ldL (v := .ref x) hns₂ (by first | rfl | with_unfolding_all rfl | kernel_rfl) ?_)
  refine set_plain X3 (ox := excO C t1) (od := none) ⟨hx₂, rfl, rfl, trivial⟩ T.sa ?_
  refine osa_new2 X3 hx₂ hcl rfl rfl T.noN (fun h₃ tk₃ dx k₃ dn dne hx₃ hn₃ => ?_)
  show _root_.PySem.wpAt _ _ _ (execs [] _) _ _ _
  refine _root_.PySem.wpAt_of_wpAny (wpAny_execs_nil (hq h₃ tk₃ dx t1 ⟨fun b o hb e => k₃ b o hb (k0x b o hb (k₀ b o e)), hx₃, ?_, dne, hn₃⟩))
  exact Nat.le_of_lt (Nat.lt_of_lt_of_le hns₂.lt dn)
theorem made (T : Txt prog K mg nm C fI) (hM : L2.Mod K mg base) (bk : ∀ b o, base.get? b = some o → s.heap.get? b = some o) {v : Value} (hlim : s.heap.NoLimit) (hroom : A.depth + 3 < recursionLimit)
    (hq : ∀ h' tk e d, OwnMade s.heap h' e C d v → R (.ok (.ret (.ref e))) { s with heap := h', toks := tk }) :
    codeAny (model prog w) A (.call (.ref C) ⟨[v], []⟩) R s := by
  obtain ⟨B, N, n2, q, bs, sub, sn, ab, col, dd, k0, k1, k2, k3, k5, hC, hBi, hBc⟩ := T.cls
  obtain ⟨hp, g, dr, tk, os⟩ := s
  have X : K.In hp := hM.kin.keeps bk
  have k : ∀ b o, hp.get? b = some o → ((hp.push (kdv_tup [v])).push (excO C hp.objs.size)).get? b = some o := fun b o e => Heap.get?_push_of_some _ (Heap.get?_push_of_some _ e)
  have hget : ((hp.push (kdv_tup [v])).push (excO C hp.objs.size)).get? (hp.objs.size + 1) = some (excO C hp.objs.size) := by heap_get
  have hnx : K.lookup (hp.objs.size + 1) = none := by
    cases e : K.lookup (hp.objs.size + 1) with
    | none => rfl
    | some o =>
      have z : hp.get? (hp.objs.size + 1) = some o := X _ _ e
      exact absurd (Nat.lt_of_succ_lt (Heap.lt_size z)) (Nat.lt_irrefl _)
  refine call_own F.excBase_Exception (fun Y => tail_typ B Y) (X _ _ hC) (looks_findIn X T.iC) (fun self => bind_fn X self T.tC) (one_size v) ?_
  refine init_ok (s := ⟨(hp.push (kdv_tup [v])).push (excO C hp.objs.size), g, dr, tk, os⟩) T hM (fun b o e => k b o (bk b o e)) (hlim.keeps k) hget hnx ?_ fun h' tk' dx t1 ⟨k', hx, dn, dne, hns⟩ => ?_
  · show A.depth + 1 + 2 < recursionLimit
    omega
  · have old : ∀ b o, hp.get? b = some o → h'.get? b = some o := fun b o e => k' b o (Nat.ne_of_lt (Nat.lt_succ_of_lt (Heap.lt_size e))) (k b o e)
    have z : hp.objs.size + 1 + 1 ≤ dx := by
      first
        | (simpa only [Heap.size_push] using dn)
        | exact dn
        | (have q := dn; rw [Heap.size_push, Heap.size_push] at q; exact q)
    exact ⟨rfl, hq h' tk' (hp.objs.size + 1) dx ⟨old, Nat.le_succ _, ⟨_, _, hx, rfl, rfl, rfl, rfl⟩, Nat.le_trans (Nat.le_trans (Nat.le_succ _) (Nat.le_succ _)) z, dne, hns⟩⟩
end
section
open L2
theorem relO_f {v : V} {v' : Value} (r : RelV v v') (f : Str) : RelO (List.lookup f [(("name" : Str), v)]) (if f = "name" then some v' else none) := by
  by_cases hw : f = "name"
  · subst hw
    rw [if_pos rfl]
    have q : List.lookup ("name" : Str) [(("name" : Str), v)] = some v := by simp [List.lookup]
    rw [q]
    exact r
  · rw [if_neg hw]
    have qw : (f == ("name" : Str)) = false := by simpa using hw
    have q2 : List.lookup f [(("name" : Str), v)] = none := by simp [List.lookup, qw]
    rw [q2]
    trivial
variable {X : Cx} {C fI : Addr}
theorem pmk {nm : Str} {a : Expr} {te : TE} {p pos : Pos} {k : Nat} (T : Txt X.prog X.K X.mg nm C fI) (hr : Room k X.A) (ha : PE X a te) (hg : Gl X nm := by rfl) (hdb : (nm == ("__debug__" : Str)) = false := by decide)
    (he : starEach (a :: []) X.env = (false, eval a X.env) :: starEach [] X.env := by rfl) (hpl : (backTo pos (starEach [] X.env)).any (·.1) = false := by rfl) :
    PMk X (.Call (.Name nm p) [a] [] pos) (tMkE C "name" te) := by
  intro pins s σ H Q I h
  refine wpAny_Call_Name_kw (ld_glob I hg T.gC ?_ hdb)
  refine PySem.W.callWith_K (h₀ := X.base) I.ok.mod.kin T.kC (thn ((pa_cons ha pa_nil he).run pos pins s σ H (fun vs H1 => match vs with | [v] => ∀ d, H1 d = none → Q (.ref C) (some d) (upd H1 d (.xd [(("name" : Str), v)])) | _ => False) I h) fun us s1 hh => ?_) he hpl
  obtain ⟨vs, H1, I1, r1, q1⟩ := hh
  obtain ⟨v, ev⟩ : ∃ v, vs = [v] := by
    cases vs with
    | nil => exact q1.elim
    | cons v vs =>
      cases vs with
      | nil => exact ⟨v, rfl⟩
      | cons _ _ => exact q1.elim
  subst ev
  refine ⟨I1.kIn, ?_⟩
  cases r1 with
  | cons rv rn =>
    rename_i v' us'
    cases rn
    show wpAny _ _ (call (.ref C) [v']) _ _ _
    have hlim := I1.nolimit
    have hbk := I1.bk
    obtain ⟨hp, g, dr, tk, os⟩ := s1
    refine wpAny_call (made T I1.ok.mod hbk hlim (by have := hr.dp; omega) fun h' tk' e d M => ?_)
    show MkP X pins σ Q (.ref e) ⟨h', g, dr, tk', os⟩
    obtain ⟨oe, fv, hoe, hc, hd, hdat, h1⟩ := M.obj
    have hns := M.ns
    obtain ⟨G', g1, g2⟩ := restrict h' fun b => decide (b ≠ e)
    have gk : ∀ b, b ≠ e → G'.get? b = h'.get? b := fun b hb => g1 b (decide_eq_true hb)
    have ge : G'.get? e = none := g2 e (by simp)
    have old : ∀ b o, hp.get? b = some o → G'.get? b = some o := fun b o q => (gk b (Nat.ne_of_lt (Nat.lt_of_lt_of_le (Heap.lt_size q) M.new))).trans (M.keep b o q)
    have ob : ObjOk X.prog X.w (upd H1 d (.xd [(("name" : Str), v)])) G' d (.xd [(("name" : Str), v)]) :=
      ⟨_, hns.at (fun o q => (gk d M.dne).trans q), fun f => relO_f rv f⟩
    have J : Inv X pins σ (upd H1 d (.xd [(("name" : Str), v)])) ⟨G', g, dr, tk', os⟩ := I1.laid (t' := tk') old M.dbig ob
    refine ⟨e, oe, fv, ⟨G', g, dr, tk', os⟩, _, .ref C, some d, rfl, J, fun b o q => ?_, ge, hoe, ⟨hc, hd⟩, hdat, h1, ?_, rfl, I1.bare, raises_own T.exC T.tyC, q1 d (I1.hok.fresh M.dbig)⟩
    · by_cases hb : b = e
      · have q' : G'.get? b = some o := q
        rw [hb, ge] at q'; cases q'
      · exact (gk b hb).symm.trans q
    · rw [upd_ne (Ne.symm M.dne)]
      exact I1.hok.fresh M.new
end
end E_name

/-! ### n.f of the error that a suite holds -/
section
open L2
variable {S : Stat} {W : WX} {X : Cx}
theorem zc_cls {cls : Value} {d d' : Option Addr} {oe : Obj} (h : Zc cls d oe) (k : Zc cls d' oe) : d = d' := h.2.symm.trans k.2
/-- the attribute f of class number c -/
def mAt (c : Nat) (fa : EM D) : EM D := fun env st => (fa env st).bind fun a st1 => match a with
  | .exn c' x => if c' = c then .ok x st1 else .bad
  | _ => .bad
theorem e_at {a dx C : Addr} (c : Nat) {oe : Obj} {cls : Value} {pn : List (Addr × Obj)} {e : Expr} {fa : EM D} {pos : Pos} {f : Str} (T : XfC X.K C) (hno : PySem.W.findIn X.K (.ref C) f = some none) (hC : S.CA c = C) (hE : S.EN c = f)
    (hz : Zc cls (some dx) oe) (hf : ∃ vs, oe.data = .fields vs) (he : PE (X.suite a ((a, oe) :: pn)) e (rdE (withX S a dx cls) W fa)) (hb : attributeBase e f X.env (eval e X.env) = eval e X.env := by rfl) :
    PE (X.suite a ((a, oe) :: pn)) (.Attribute e f pos) (rdE (withX S a dx cls) W (mAt c fa)) := PE.weak (pe_xf T hno hz hf he hb) fun σ H Q h => by
  obtain ⟨r, env, st, o, eo, h⟩ := h
  refine ⟨r, env, st, o, eo, End.bind h fun d st1 r1 H1 v l1 o1 rx h1 => ?_⟩
  cases d with
  | exn c' x =>
    simp only at h1
    by_cases hc : c' = c
    · rw [if_pos hc] at h1
      subst hc
      unfold Rep at rx
      obtain ⟨a', dx', w, e1, e2, e3, e4⟩ := rx
      have e1' : some (a, dx, cls) = some (a', dx', Value.ref (S.CA c')) := e1
      injection e1' with e1'
      injection e1' with g1 e1'
      injection e1' with g2 g3
      subst g1 g2 g3
      refine ⟨e2, by rw [← hC], dx, [(f, w)], w, rfl, ?_, by simp [List.lookup], h1 r1 H1 w o1.refl o1 e4⟩
      rw [e3]
      exact congrArg (fun z => some (HO.xd [(z, w)])) hE
    · rw [if_neg hc] at h1; exact h1.elim
  | _ => exact h1.elim
end
end Cw

/-! Constants of the module, unary minus, calls by keywords, constructors, stores into fields. -/
namespace Cw
open PySem L2 PyProof.Rows

section
variable {S : Stat} {W : WX} {X : Cx}
/-! ### constants of the module -/
theorem e_gint {x : Str} {i : Int} {pos : Pos} (hm : ∃ t, X.mg x = some (.int i t)) (hg : Gl X x := by rfl) (hd : (x == ("__debug__" : Str)) = false := by decide) : PE X (.Name x pos) (rdE S W (mC (.int i))) := by
  obtain ⟨t, hm⟩ := hm
  exact PE.weak (pe_glob (v := .int i) hg hm ⟨t, rfl⟩ hd) (md_c fun _ _ _ => by simp [Rep])
theorem e_gstr {x : Str} {z : Str} {pos : Pos} (hm : ∃ t, X.mg x = some (.str z t)) (hg : Gl X x := by rfl) (hd : (x == ("__debug__" : Str)) = false := by decide) : PE X (.Name x pos) (rdE S W (mC (.str z))) := by
  obtain ⟨t, hm⟩ := hm
  exact PE.weak (pe_glob (v := .str z) hg hm ⟨t, rfl⟩ hd) (md_c fun _ _ _ => by simp [Rep])
/-- atoms that are written out -/
def AtomV : List D → List Value → Prop
  | [], us => us = []
  | d :: ds, us => ∃ u w, us = u :: w ∧ (match d with
    | .int i => ∃ t, u = .int i t
    | .str z => ∃ t, u = .str z t
    | .bl b => u = .bool b
    | .non => u = .none
    | _ => False) ∧ AtomV ds w
def atomV : D → V
  | .int i => .int i
  | .str z => .str z
  | .bl b => .bl b
  | _ => .non
theorem atoms_ok {r : Rho} {n : Nat} {H : Hp} : ∀ {ds : List D} {us : List Value}, AtomV ds us → Vals (ds.map atomV) us ∧ RepL S r n H ds (ds.map atomV)
  | [], us, h => by
    unfold AtomV at h
    subst h
    exact ⟨.nil, RepL.nil⟩
  | d :: ds, us, h => by
    unfold AtomV at h
    obtain ⟨u, w, rfl, h1, h2⟩ := h
    obtain ⟨g1, g2⟩ := atoms_ok (r := r) (n := n) (H := H) h2
    cases d with
    | int i => obtain ⟨t, rfl⟩ := h1; exact ⟨.cons ⟨t, rfl⟩ g1, RepL.cons rep_int g2⟩
    | str i => obtain ⟨t, rfl⟩ := h1; exact ⟨.cons ⟨t, rfl⟩ g1, RepL.cons rep_str g2⟩
    | bl b => simp only at h1; subst h1; exact ⟨.cons rfl g1, RepL.cons rep_bl g2⟩
    | non => simp only at h1; subst h1; exact ⟨.cons rfl g1, RepL.cons rep_non g2⟩
    | _ => exact h1.elim
/-- a tuple of atoms, written out -/
def GTup (K : PySem.W.Frag) (mg : Str → Option Value) (x : Str) (ds : List D) : Prop := ∃ (a : Addr) (dd : Option Addr) (its : Array Value) (n : Nat) (sl : Array (Option Value)), mg x = some (.ref a) ∧ K.lookup a = some ⟨.type "tuple", dd, .seq its n, sl⟩ ∧ AtomV ds its.toList
theorem e_gtup {x : Str} {ds : List D} {pos : Pos} (hm : GTup X.K X.mg x ds) (hl : ds.length ≤ 1000 := by decide) (hg : Gl X x := by rfl) (hd : (x == ("__debug__" : Str)) = false := by decide) (hK : X.K = S.K := by rfl) : PE X (.Name x pos) (rdE S W (mC (.tup ds))) := by
  obtain ⟨a, dd, its, n, sl, h1, h2, h3⟩ := hm
  refine PE.weak (pe_glob (v := .ref a) hg h1 rfl hd) (md_c fun r n' H => ?_)
  obtain ⟨g1, g2⟩ := atoms_ok (S := S) (r := r) (n := n') (H := H) h3
  unfold Rep
  refine ⟨a, ds.map atomV, rfl, .inr ⟨_, its, n, by rw [← hK]; exact h2, rfl, rfl, ?_, g1⟩, g2⟩
  have e := g1.length
  rw [List.length_map] at e
  rw [← Array.length_toList, ← e, sizeLine_eq]
  omega
/-! ### -e -/
def oNeg : D → Option D
  | .int i => some (.int (-i))
  | _ => none
theorem e_neg {a : Expr} {fa : EM D} {pos : Pos} (ha : PE X a (rdE S W fa)) : PE X (.UnaryOp .USub a pos) (rdE S W (mUn oNeg fa)) := PE.weak (pe_un un_neg ha) fun σ H Q h => by
  obtain ⟨r, env, st, o, eo, h⟩ := h
  refine ⟨r, env, st, o, eo, End.bind h fun d st1 r1 H1 v l1 o1 rx h1 => ?_⟩
  cases d with
  | int i =>
    unfold Rep at rx
    exact ⟨i, rx, h1 r1 H1 _ o1.refl o1 rep_int⟩
  | _ => exact h1.elim
/-! ### calls -/
theorem bad_ok {P : Program} {w : World} {K : PySem.W.Frag} {mg : Str → Option Value} {base : Heap} {k : Nat} {f : Addr} {fd : FuncData} {ps : List Str} : FnOk P w K mg base (L2.CX P w) k f fd ps (spM S ps.length fun _ _ => .bad) :=
  ⟨fun vs H Q E h => h.1, fun A outer s H args us vs Q E hr he hb hv h => by
    obtain ⟨_, r, st, ds, _, _, h⟩ := h
    exact h.elim⟩
/-- the values in another order -/
def mPerm (perm : List Nat) (g : EM (List D)) : EM (List D) := fun env st => (g env st).bind fun l st1 => .ok (perm.filterMap (l[·]?)) st1
theorem md_kw {k : Nat} {perm : List Nat} {g : EM (List D)} {sp : Sp} {E : L2.St → XK} : ∀ σ H Q, rdA S W g σ H Q → rdA S W g σ H Q := fun _ _ _ h => h
theorem repL_perm {r : Rho} {n : Nat} {H : Hp} {ds : List D} {vs : List V} (h : RepL S r n H ds vs) : ∀ perm : List Nat, RepL S r n H (perm.filterMap (ds[·]?)) (perm.filterMap (vs[·]?))
  | [] => RepL.nil
  | i :: is => by
    cases e : ds[i]? with
    | none =>
      have e2 := h.none_of e
      simpa [e, e2] using repL_perm h is
    | some d =>
      obtain ⟨v, e2, r1⟩ := h.get e
      simpa [e, e2] using RepL.cons r1 (repL_perm h is)
theorem vals_perm {vs : List V} {us : List Value} (h : Vals vs us) : ∀ perm : List Nat, Vals (perm.filterMap (vs[·]?)) (perm.filterMap (us[·]?))
  | [] => .nil
  | i :: is => by
    cases e : vs[i]? with
    | none =>
      have e2 : us[i]? = none := by
        have := List.getElem?_eq_none_iff.mp e
        exact List.getElem?_eq_none_iff.mpr (by rw [← h.length]; exact this)
      simpa [e, e2] using vals_perm h is
    | some d =>
      obtain ⟨v, e2, r1⟩ := h.get e
      have z := Paired.cons r1 (vals_perm h is)
      simpa [e, e2] using z
/-- how keywords ks, handed in alone, are bound -/
def KBindsP (K : PySem.W.Frag) (fd : FuncData) (ps ks : List Str) (perm : List Nat) : Prop := ∀ ws : List Value, ws.length = ps.length → bindArgs fd ⟨[], ks.zip ws⟩ = pure (ps.zip (perm.filterMap (ws[·]?)))
theorem Fun.kbinds {K : PySem.W.Frag} {x qual : Str} {st : Stmt} {f : Addr} {fd : FuncData} {ps ks : List Str} {perm : List Nat} (F : L2.Fun K x qual st f fd)
    (h : ∀ (kV doc pm : Value) (an : Option Addr) (cdv ct : Value) (ws : List Value), ws.length = ps.length → bindArgs (PySem.W.fnOf x qual (defArgs st) (defBody st) (defScope st) .none kV doc pm an cdv ct) ⟨[], ks.zip ws⟩ = pure (ps.zip (perm.filterMap (ws[·]?)))) : KBindsP K fd ps ks perm := by
  obtain ⟨oc, od, kV, doc, pm, an, cdv, ct, osl, rfl, lk, hcd⟩ := F.ex
  exact h kV doc pm an cdv ct
def tCallKP (perm : List Nat) (sp : Sp) (E : L2.St → XK) (n : Nat) (tk : TA) : TE := fun σ H Q => tk σ H fun zs H2 => zs.length = n ∧ sp (perm.filterMap (zs[·]?)) H2 Q (E σ)
theorem pe_callKP {f : Addr} {fd : FuncData} {ps ks : List Str} {k : Nat} {sp : Sp} {x : Str} {perm : List Nat} {E : L2.St → XK} {kws : List Keyword} {tk : TA} {p pos : Pos} (F : FnOk X.prog X.w X.K X.mg X.base (L2.CX X.prog X.w) k f fd ps sp) (hr : Room k X.A) (hm : X.mg x = some (.ref f)) (hk : PySem.W.keepIn X.K (.ref f) = true) (hb : KBindsP X.K fd ps ks perm)
    (hx : ∀ σ, PassesAt (L2.CX X.prog X.w) X σ (E σ)) (hkw : PK X kws tk) (hg : Gl X x) (hall : (backToKw pos (keywordEach kws X.env)).all (·.1.isSome) = true) (hks : (backToKw pos (keywordEach kws X.env)).filterMap (·.1) = ks)
    (hdb : (x == ("__debug__" : Str)) = false) (hpl : ((backTo pos (starEach [] X.env)).any (·.1) || (backToKw pos (keywordEach kws X.env)).any (·.1.isNone)) = false) :
    PE X (.Call (.Name x p) [] kws pos) (tCallKP perm sp E ps.length tk) := by
  refine ⟨fun pins s σ H Q I h => ?_⟩
  refine wpAny_Call_Name_kw (ld_glob I hg hm ?_ hdb)
  refine PySem.W.callWith_KW0 (h₀ := X.base) I.ok.mod.kin hk hall ?_ hpl
  refine thn (hkw.run pos pins s σ H _ I h) fun ws s2 ⟨zs, H2, I2, rz, l2, q2⟩ => ⟨I2.kIn, ?_⟩
  rw [hks]
  have b := hb ws (by rw [← rz.length]; exact l2)
  refine wpAny_call (codeAny_mono (F.run X.A X.stack s2 H2 ⟨[], ks.zip ws⟩ (perm.filterMap (ws[·]?)) (perm.filterMap (zs[·]?)) Q (E σ) hr I2.env0 (.of_eq b) (vals_perm rz perm) q2) fun r s' hq => ?_)
  cases r with
  | error e => exact hx σ pins H2 s2 e s' I2 hq
  | ok fl =>
    cases fl with
    | ret u => exact I2.after hq
    | next => exact False.elim hq
    | brk => exact False.elim hq
    | cont => exact False.elim hq
def rdK (S : Stat) (W : WX) (g : EM (List D)) : TA := rdA S W g
theorem k_nil : PK X [] (rdA S W mNil) := ⟨fun pos pins s σ H Q I h => (pk_nil (X := X)).run pos pins s σ H Q I (by
  obtain ⟨r, env, st, o, eo, h⟩ := h
  exact h r H [] o.refl o RepL.nil)⟩
theorem k_cons {nm : Option Str} {e : Expr} {kpos : Pos} {kws : List Keyword} {fa : EM D} {g : EM (List D)} (ha : PE X e (rdE S W fa)) (hr : PK X kws (rdA S W g)) : PK X (⟨nm, e, kpos⟩ :: kws) (rdA S W (mCons fa g)) := ⟨fun pos pins s σ H Q I h => (pk_cons ha hr).run pos pins s σ H Q I (by
  obtain ⟨r, env, st, o, eo, h⟩ := h
  refine ⟨r, env, st, o, eo, End.bind h fun d st1 r1 H1 v l1 o1 rx h1 => ?_⟩
  refine ⟨r1, env, st1, o1, eo.mono l1, End.bind h1 fun ds st2 r2 H2 vs l2 o2 rxs h2 => ?_⟩
  exact h2 r2 H2 _ o2.refl o2 (RepL.cons (Rep.mono l2 _ _ rx) rxs))⟩
theorem e_callK {f : Addr} {fd : FuncData} {ps ks : List Str} {k : Nat} {x : Str} (perm : List Nat) {kws : List Keyword} {g : EM (List D)} {cf : List D → Sto → Res D} {p pos : Pos} (F : FnOk X.prog X.w X.K X.mg X.base (L2.CX X.prog X.w) k f fd ps (spM S ps.length cf)) (hr : Room k X.A) (hm : X.mg x = some (.ref f)) (hk : PySem.W.keepIn X.K (.ref f) = true) (hb : KBindsP X.K fd ps ks perm) (tk : Takes X W)
    (hkw : PK X kws (rdA S W g)) (hg : Gl X x := by rfl) (hall : (backToKw pos (keywordEach kws X.env)).all (·.1.isSome) = true := by rfl) (hks : (backToKw pos (keywordEach kws X.env)).filterMap (·.1) = ks := by rfl)
    (hdb : (x == ("__debug__" : Str)) = false := by decide) (hpl : ((backTo pos (starEach [] X.env)).any (·.1) || (backToKw pos (keywordEach kws X.env)).any (·.1.isNone)) = false := by rfl) :
    PE X (.Call (.Name x p) [] kws pos) (rdE S W (fun env st => (g env st).bind fun l st1 => if l.length = ps.length ∧ (perm.filterMap (l[·]?)).length = ps.length then cf (perm.filterMap (l[·]?)) st1 else .bad)) := PE.weak (pe_callKP F hr hm hk hb (fun σ => passAt tk σ) hkw hg hall hks hdb hpl) fun σ H Q h => by
  obtain ⟨r, env, st, o, eo, h⟩ := h
  refine ⟨r, env, st, o, eo, End.bind h fun ds st1 r1 H1 vs l1 o1 rx h1 => ?_⟩
  by_cases hl : ds.length = ps.length ∧ (perm.filterMap (ds[·]?)).length = ps.length
  · simp only [if_pos hl] at h1
    have rp := repL_perm rx perm
    exact ⟨by rw [← rx.length]; exact hl.1, by rw [← rp.length]; exact hl.2, r1, st1, _, o1, rp, h1.wish fun c d H z => z⟩
  · simp only [if_neg hl] at h1; exact h1.elim
def mCallK (ar : Nat) (perm : List Nat) (cf : List D → Sto → Res D) (g : EM (List D)) : EM D := fun env st => (g env st).bind fun l st1 => if l.length = ar ∧ (perm.filterMap (l[·]?)).length = ar then cf (perm.filterMap (l[·]?)) st1 else .bad
end
/-! ### C(e, ..) -/
section
variable {S : Stat} {W : WX} {X : Cx}
/-- a class whose __init__ is cf: the instance is frozen at once -/
def mMake (c ar : Nat) (cf : List D → Sto → Res D) (g : EM (List D)) : EM D := fun env st => (g env st).bind fun ds st1 => if ds.length + 1 = ar then
  popR false st1 ((cf (.ref st1.length :: ds) (st1 ++ [.ins c [] []])).bind fun v st2 => match v with
    | .non => .ok (.ref st1.length) st2
    | _ => .bad) else .bad
theorem run_makeS {C f : Addr} {fd : FuncData} {ps : List Str} {k : Nat} {sp : Sp} {E : XK} {pins : List (Addr × Obj)} {σ : L2.St} {H : Hp} {s : Shared} {Q : VK} {us : List Value} {vs : List V} (M : Mk X.K C f) (F : FnOk X.prog X.w X.K X.mg X.base (L2.CX X.prog X.w) k f fd ps sp) (hr : Room (k + 1) X.A) (hb : Binds X.K fd ps [])
    (hx : PassesAt (L2.CX X.prog X.w) X σ E) (I : Inv X pins σ H s) (r : Vals vs us)
    (h : ∀ x dx, H x = none → H dx = none → dx ≠ x → sp (.ref x :: vs) (upd (upd H dx (.own x)) x (.ins C dx [])) (fun v H2 => v = .non ∧ Q (.ref x) H2) E) :
    wpAny (model X.prog X.w) X.A (call (.ref C) us) (EP X pins σ Q) X.xe s := by
  have hq := h (s.heap.objs.size + 1) s.heap.objs.size (I.hok.fresh (Nat.le_succ _)) (I.hok.fresh (Nat.le_refl _)) (Nat.ne_of_lt (Nat.lt_succ_self _))
  have I2 := Inv.made (C := C) I
  have r2 : Vals (V.ref (s.heap.objs.size + 1) :: vs) (Value.ref (s.heap.objs.size + 1) :: us) := .cons rfl r
  have hl : (Value.ref (s.heap.objs.size + 1) :: us ++ []).length = ps.length := by
    have e := r2.length
    rw [F.len _ _ _ _ hq] at e
    rw [List.append_nil]
    exact e.symm
  have b := hb _ (Value.ref (s.heap.objs.size + 1) :: us) I2.kIn hl
  rw [List.append_nil] at b
  refine wpAny_call (make_map (f := f) I.kIn M.makes M.init (beq_iff_eq.mp M.fn) (codeAny_mono (F.run _ X.stack _ _ ⟨Value.ref (s.heap.objs.size + 1) :: us, []⟩ (Value.ref (s.heap.objs.size + 1) :: us) _ _ E (hr.make C us [])
    (I2.env0.make C us []) b r2 hq) fun r s' hq' => ?_))
  cases r with
  | error e => exact hx pins _ _ e s' I2 hq'
  | ok fl =>
    cases fl with
    | ret u =>
      obtain ⟨v, H', I3, rv, ev, q3⟩ := I2.after hq'
      subst ev
      exact ⟨rv, ⟨V.ref (s.heap.objs.size + 1), H', I3, rfl, q3⟩⟩
    | next => exact False.elim hq'
    | brk => exact False.elim hq'
    | cont => exact False.elim hq'
theorem e_make (c : Nat) {C f : Addr} {fd : FuncData} {ps : List Str} {k ar : Nat} {x : Str} {e : Expr} {es : List Expr} {g : EM (List D)} {cf : List D → Sto → Res D} {p pos : Pos} (hx0 : S.ex = none) (M : Mk X.K C f) (F : FnOk X.prog X.w X.K X.mg X.base (L2.CX X.prog X.w) k f fd ps (spM S ar cf)) (hr : Room (k + 1) X.A) (hm : X.mg x = some (.ref C)) (hb : Binds X.K fd ps []) (tk : Takes X W)
    (ha : PA X (e :: es) (rdA S W g)) (hC : S.CA c = C := by rfl) (hg : Gl X x := by rfl) (hdb : (x == ("__debug__" : Str)) = false := by decide) (he : starEach (e :: es) X.env = (false, eval e X.env) :: starEach es X.env := by rfl) (hpl : (backTo pos (starEach es X.env)).any (·.1) = false := by rfl) :
    PE X (.Call (.Name x p) (e :: es) [] pos) (rdE S W (mMake c ar cf g)) := by
  refine ⟨fun pins s σ H Q I h => ?_⟩
  obtain ⟨r, env, st, o, eo, h⟩ := h
  refine wpAny_Call_Name_kw (ld_glob I hg hm ?_ hdb)
  refine PySem.W.callWith_K (h₀ := X.base) I.ok.mod.kin M.kp (thn (ha.run pos pins s σ H (fun vs H1 => ∃ r1 st1 ds, Le r st.length H r1 st1.length H1 ∧ Ok S r1 st1 H1 ∧ RepL S r1 st1.length H1 ds vs ∧ End S (Rep S) W σ r1 st1.length H1 Q (if ds.length + 1 = ar then
    popR false st1 ((cf (.ref st1.length :: ds) (st1 ++ [.ins c [] []])).bind fun v st2 => match v with
      | .non => .ok (.ref st1.length) st2
      | _ => .bad) else .bad)) I ⟨r, env, st, o, eo, End.bind h fun ds st1 r1 H1 vs l1 o1 rx h1 => ⟨r1, st1, ds, l1, o1, rx, h1⟩⟩) fun us s1 ⟨vs, H1, I1, rv, r1, st1, ds, l1, o1, rx, h1⟩ => ⟨I1.kIn, ?_⟩) he hpl
  by_cases hl : ds.length + 1 = ar
  · rw [if_pos hl] at h1
    refine run_makeS (E := WE W σ) M F hr hb (passAt tk σ) I1 rv fun xa dx hxa hdx hne => ?_
    obtain ⟨l2, o2⟩ := o1.fresh (u := .own xa) hdx
    have hxa2 : (upd H1 dx (.own xa)) xa = none := by rw [upd_ne (Ne.symm hne)]; exact hxa
    obtain ⟨l3, o3⟩ := o2.alloc (u := .ins C dx []) (c := .ins c [] []) hxa2 fun r' n' H' l' e' => ⟨dx, [], by rw [hC]; exact e', rfl, RepL.nil⟩
    have l13 := l2.trans l3
    have rx3 := RepL.mono l13 _ _ rx
    have href : Rep S (ext r1 st1.length xa) (st1 ++ [Cell.ins c [] []]).length (upd (upd H1 dx (.own xa)) xa (.ins C dx [])) (.ref st1.length) (.ref xa) := by
      unfold Rep
      exact ⟨by simp, by rw [ext_same]⟩
    refine ⟨by simp [← rx.length]; omega, _, _, .ref st1.length :: ds, o3, RepL.cons href rx3, ?_⟩
    cases q : cf (.ref st1.length :: ds) (st1 ++ [.ins c [] []]) with
    | ok d st2 =>
      intro r' H' v l4 o4 rv4
      rw [q] at h1
      cases d with
      | non =>
        unfold Rep at rv4
        refine ⟨rv4, ?_⟩
        have l5 := l13.trans l4
        have href5 := Rep.mono l4 _ _ href
        exact popR_ok hx0 o1 h1 l5 o4 href5
      | _ => exact (h1 : False).elim
    | exc c' d st2 =>
      intro r' H' dx' v l4 o4 hx4 rv4
      rw [q] at h1
      unfold popR Res.bind at h1
      simp only [Bool.false_eq_true, if_false] at h1
      by_cases hp : (popB st1 st2 && below st1.length d) = true
      · simp only [if_pos hp] at h1
        have hp2 := (Bool.and_eq_true_iff.mp hp)
        have l5 := l13.trans l4
        obtain ⟨l6, o6⟩ := pop_ok hx0 o1 l5 o4 hp2.1
        have hlen : (st2.take st1.length).length = st1.length := by
          rw [List.length_take]
          have := l5.len
          omega
        exact h1 r' H' dx' v l6 o6 hx4 (by rw [hlen]; exact Rep.cut l5.len d v rv4 hp2.2)
      · simp only [if_neg hp] at h1; exact h1.elim
    | bad => rw [q] at h1; exact (h1 : False).elim
  · rw [if_neg hl] at h1; exact h1.elim
/-! ### o.f = e, o a live instance -/
theorem putA_ok (hi : ∀ a b, S.AN a = S.AN b → a = b) {r : Rho} {n : Nat} {H : Hp} {y : V} {d : D} (ry : Rep S r n H d y) : ∀ {ks : List Nat} {ds : List D} {fs : List (Str × V)} {a : Nat}, fs.map (·.1) = ks.map S.AN → RepL S r n H ds (fs.map (·.2)) →
    (putF (S.AN a) y fs).map (·.1) = (putA ks ds a d).1.map S.AN ∧ RepL S r n H (putA ks ds a d).2 ((putF (S.AN a) y fs).map (·.2))
  | [], ds, fs, a, h1, h2 => by
    have e : fs = [] := by simpa using h1
    subst e
    have e2 : ds = [] := by
      have := h2.length
      simpa using this
    subst e2
    exact ⟨rfl, RepL.cons ry RepL.nil⟩
  | k :: ks, ds, [], a, h1, h2 => by simp at h1
  | k :: ks, [], (f, v) :: fs, a, h1, h2 => by
    have := h2.length
    simp at this
  | k :: ks, e :: ds, (f, v) :: fs, a, h1, h2 => by
    simp only [List.map_cons, List.cons.injEq] at h1
    obtain ⟨g1, g2⟩ := RepL.uncons h2
    have hp : putF (S.AN a) y ((f, v) :: fs) = if f = S.AN a then (f, y) :: fs else (f, v) :: putF (S.AN a) y fs := rfl
    unfold putA
    rw [hp]
    by_cases hk : k = a
    · subst hk
      rw [if_pos h1.1, if_pos rfl]
      exact ⟨by simp [h1.1, h1.2], RepL.cons ry g2⟩
    · rw [if_neg (fun z => hk (hi _ _ (h1.1.symm.trans z))), if_neg hk]
      obtain ⟨q1, q2⟩ := putA_ok hi ry (a := a) h1.2 g2
      exact ⟨by simp [h1.1, q1], RepL.cons g1 q2⟩
theorem s_fld (cs : List Nat) (a : Nat) {o e : Expr} {f : Str} {fo fe : EM D} {pos pos' : Pos} (ho : PE X o (rdE S W fo)) (he : PE X e (rdE S W fe)) (hf : ∀ c ∈ cs, FldOk S c a) (hi : ∀ a b, S.AN a = S.AN b → a = b) (hn : S.AN a = f := by rfl) (hK : X.K = S.K := by rfl)
    (hs : swapsWith e (some (.Attribute o f pos')) pos.line X.env = pure false := by rfl) : PS X (.Assign [.Attribute o f pos'] e pos) (rdS S W (fun env st => (fe env st).toS env fun y st1 => match fo env st1 with
      | .ok (.ref k) st2 => match st2[k]? with
        | some (.ins c ks ds) => if cs.contains c = true ∧ ks.length < 900 then .nx env (st2.set k (.ins c (putA ks ds a y).1 (putA ks ds a y).2)) else .bad
        | _ => .bad
      | _ => .bad)) := PS.weak (ps_fld ho he hs) fun σ H E h => by
  obtain ⟨r, env, st, o, eo, h⟩ := h
  refine ⟨r, env, st, o, eo, EndS.bind h eo fun d st1 r1 H1 v l1 o1 rx h1 => ?_⟩
  refine ⟨r1, env, st1, o1, eo.mono l1, ?_⟩
  cases q : fo env st1 with
  | ok dk st2 =>
    rw [q] at h1
    intro r2 H2 x l2 o2 rk
    cases dk with
    | ref k =>
      simp only at h1
      unfold Rep at rk
      cases qk : st2[k]? with
      | none => rw [qk] at h1; exact (h1 : False).elim
      | some cell =>
        rw [qk] at h1
        cases cell with
        | ins c ks ds =>
          simp only at h1
          by_cases hl : cs.contains c = true ∧ ks.length < 900
          · rw [if_pos hl] at h1
            obtain ⟨dx, fs, e2, e3, e4⟩ := o2.cel k _ qk
            have F := hf c (by simpa using hl.1)
            have rv2 := Rep.mono l2 _ _ rx
            have hlen : fs.length = ks.length := by
              have := congrArg List.length e3
              simpa using this
            refine ⟨r2 k, S.CA c, dx, fs, rk.2, e2, by rw [hK]; exact F.cl, by rw [hK, ← hn]; exact F.na, by omega, ?_⟩
            obtain ⟨l3, o3⟩ := o2.write (k := k) (u := .ins (S.CA c) dx (putF f v fs)) (c := .ins c (putA ks ds a d).1 (putA ks ds a d).2) rk.1 trivial fun H' l' e' => by
              obtain ⟨z1, z2⟩ := putA_ok hi (a := a) rv2 e3 e4
              rw [hn] at z1 z2
              exact ⟨dx, _, e', z1, RepL.mono l' _ _ z2⟩
            exact h1 r2 σ _ (l2.trans l3) o3 (eo.mono (l1.trans (l2.trans l3)))
          · rw [if_neg hl] at h1; exact (h1 : False).elim
        | _ => exact (h1 : False).elim
    | _ => exact (h1 : False).elim
  | exc c d st2 => rw [q] at h1; exact (h1 : False).elim
  | bad => rw [q] at h1; exact (h1 : False).elim
def sFld (cs : List Nat) (a : Nat) (fo fe : EM D) : SM := fun env st => (fe env st).toS env fun y st1 => match fo env st1 with
  | .ok (.ref k) st2 => match st2[k]? with
    | some (.ins c ks ds) => if cs.contains c = true ∧ ks.length < 900 then .nx env (st2.set k (.ins c (putA ks ds a y).1 (putA ks ds a y).2)) else .bad
    | _ => .bad
  | _ => .bad
end
/-! ### attribute names by number -/
def anOf (l : List Str) (n : Nat) : Str := match l[n]? with
  | some x => x
  | none => ⟨#[0, n]⟩
theorem anOf_inj {l : List Str} (h1 : l.Nodup) (h2 : ∀ x ∈ l, x.cps[0]? ≠ some 0) : ∀ a b, anOf l a = anOf l b → a = b := fun a b e => by
  unfold anOf at e
  cases qa : l[a]? with
  | some x =>
    cases qb : l[b]? with
    | some y =>
      rw [qa, qb] at e
      simp only at e
      subst e
      obtain ⟨ha, ea⟩ := List.getElem?_eq_some_iff.mp qa
      obtain ⟨hb, eb⟩ := List.getElem?_eq_some_iff.mp qb
      exact (List.getElem?_inj ha h1).mp (qa.trans qb.symm)
    | none =>
      rw [qa, qb] at e
      simp only at e
      subst e
      exact absurd rfl (h2 _ (List.mem_of_getElem? qa))
  | none =>
    cases qb : l[b]? with
    | some y =>
      rw [qa, qb] at e
      simp only at e
      subst e
      exact absurd rfl (h2 _ (List.mem_of_getElem? qb))
    | none =>
      rw [qa, qb] at e
      simp only at e
      injection e with e
      simpa using e
end Cw
namespace Cw
open PySem
/-- a check of atoms -/
def atomB : List D → List Value → Bool
  | [], [] => true
  | d :: ds, u :: us => (match d, u with
    | .int i, .int j _ => decide (i = j)
    | .str x, .str y _ => decide (x = y)
    | .bl a, .bool b => a == b
    | .non, .none => true
    | _, _ => false) && atomB ds us
  | _, _ => false
theorem atomB_ok : ∀ {ds : List D} {us : List Value}, atomB ds us = true → AtomV ds us
  | [], us, h => by
    cases us with
    | nil => rfl
    | cons _ _ => cases h
  | d :: ds, us, h => by
    cases us with
    | nil => cases h
    | cons u us =>
      unfold atomB at h
      obtain ⟨h1, h2⟩ := Bool.and_eq_true_iff.mp h
      unfold AtomV
      refine ⟨u, us, rfl, ?_, atomB_ok h2⟩
      split at h1 <;> first | (have e := of_decide_eq_true h1; subst e; exact ⟨_, rfl⟩) | (have e := beq_iff_eq.mp h1; subst e; rfl) | rfl | cases h1
end Cw

/-! enumerate over a tuple, over a list. -/
namespace Cw
open PySem L2 PyProof.Rows
set_option maxHeartbeats 8000000 in
theorem meets_enum_tup (l : Addr) (items : Array Value) (n : Nat) (dct : Option Addr) (sl : Array (Option Value)) :
    Meets (Builtin.«enumerate.__new__» ⟨[.type "enumerate", .ref l], []⟩) (fun _ R s => s.heap.get? l = some { cls := .type "tuple", dict := dct, data := .seq items n, slots := sl } ∧
      R (.ok (.ret (.ref (s.heap.push { cls := .type "tuple_iterator", data := .fields #[.ref l, .int 0 0] }).objs.size)))
        { s with heap := (s.heap.push { cls := .type "tuple_iterator", data := .fields #[.ref l, .int 0 0] }).push { cls := .type "enumerate", data := .fields #[.none, .bool false, .ref s.heap.objs.size, rawInt 0, .none, .none] } }) :=
  .of_wp fun prog w A R s h => by
    obtain ⟨hp, g, d, tk, os⟩ := s; obtain ⟨hl, h⟩ := h
    have hsub := sub_enumerate
    have hL : Heap.IsTuple (Shared.heap ⟨hp, g, d, tk, os⟩) l items := ⟨_, hl, rfl, n, rfl⟩
    wp_walk using wpAny_loadPart' hl
    refine wpAny_stack_any fun st => wpAny_pure ?_
    split
    · rename_i c _ _ _ _ _
      cases (c == Value.type "enumerate")
      · wp_walk using wpAny_loadPart' hl, wpAny_pyIter_tuple hL
        exact ⟨_, rfl, h⟩
      · wp_walk using wpAny_loadPart' hl, wpAny_pyIter_tuple hL
        exact ⟨_, rfl, h⟩
    · wp_walk using wpAny_loadPart' hl, wpAny_pyIter_tuple hL
      exact ⟨_, rfl, h⟩
section
variable {prog : Program} {w : World} {A : Around} {E : Value → Shared → Prop} {s : Shared}
theorem call_enum_tup {l : Addr} {items : Array Value} {Q : Value → Shared → Prop} (hL : s.heap.IsTuple l items)
    (h : ∀ h', IsEnum h' (s.heap.objs.size + 1) s.heap.objs.size 0 .none → h'.IsTupleIter s.heap.objs.size l 0 → h'.objs.size = s.heap.objs.size + 2 →
      (∀ b o, s.heap.get? b = some o → h'.get? b = some o) → Q (.ref (s.heap.objs.size + 1)) { s with heap := h' }) :
    wpAny (model prog w) A (call (.type "enumerate") [.ref l]) Q E s := by
  obtain ⟨⟨c, dct, dt, sl⟩, hl, hc, n, hd⟩ := hL
  replace hc : c = .type "tuple" := hc
  replace hd : dt = .seq items n := hd
  subst hc hd
  refine callType_new F.called_enumerate (by decide) (F.typeCall_enumerate_1 _) (F.newCall_enumerate_1 _) (fun obj => F.args_object_init_2 obj _) F.entry_enumerate_new
    (meets_enum_tup l items n dct sl) ⟨hl, ?_⟩
  have hz : (s.heap.push { cls := .type "tuple_iterator", data := .fields #[.ref l, .int 0 0] }).objs.size = s.heap.objs.size + 1 := Heap.size_push ..
  show _ ∧ _
  rw [hz]
  have he : IsEnum ((s.heap.push { cls := .type "tuple_iterator", data := .fields #[.ref l, .int 0 0] }).push
      { cls := .type "enumerate", data := .fields #[.none, .bool false, .ref s.heap.objs.size, rawInt 0, .none, .none] }) (s.heap.objs.size + 1) s.heap.objs.size 0 .none := by
    have := Heap.get?_push_size (s.heap.push { cls := .type "tuple_iterator", data := .fields #[.ref l, .int 0 0] })
      (o := { cls := .type "enumerate", data := .fields #[.none, .bool false, .ref s.heap.objs.size, rawInt 0, .none, .none] }) rfl
    rw [hz] at this; exact this
  refine ⟨⟨_, he, rfl⟩, h _ he ⟨_, Heap.get?_push_of_some _ (Heap.get?_push_size _ rfl), rfl, rfl⟩ (by rw [Heap.size_push, hz]) fun b o x => Heap.get?_push_of_some _ (Heap.get?_push_of_some _ x)⟩
end
def IteT (K : PySem.W.Frag) (a : Addr) (n : Nat) : It :=
  ⟨fun i H => ∃ (xs : List V) (x : V), SqT K H a xs ∧ xs[i]? = some x ∧ xs.length = n, fun i H v H' => ∃ T x, v = .ref T ∧ H T = none ∧ H' = upd H T (.tup [.int (i : Nat), x]) ∧ ∀ xs, SqT K H a xs → xs[i]? = some x, fun i H => ∃ xs : List V, SqT K H a xs ∧ xs.length ≤ i ∧ xs.length = n⟩
theorem turn_enumT {P : Program} {w : World} {K : PySem.W.Frag} {elts : List Expr} {kk : Nat} {tpos : Pos} (a e it : Addr) (n : Nat) (hne : e ≠ it) (hea : e ≠ a) (hia : a ≠ it) :
    Turn P w K (.Tuple elts kk tpos) (IteT K a n) [e, it] e (fun i h => (∃ old, IsEnum h e it ((i : Nat) : Int) old) ∧ h.IsTupleIter it a i ∧ i ≤ n) where
  mem := by simp
  obj := fun i h st b hb => by
    obtain ⟨⟨old, he⟩, ⟨o, ho, hc, hd⟩, _⟩ := st
    have e' : b = e ∨ b = it := by simpa using hb
    rcases e' with z | z
    · rw [z]; exact ⟨_, he, fun v q => nomatch q⟩
    · rw [z]; exact ⟨o, ho, fun v q => by rw [hd] at q; cases q⟩
  keep := fun i h h' st k => let ⟨⟨old, he⟩, hi, hn⟩ := st; ⟨⟨old, k e (by simp) _ he⟩, hi.at fun o q => k it (by simp) o q, hn⟩
  item := by
    intro X hP hw hK hc i pins s σ H E I hf st hg
    subst hP hw hK
    obtain ⟨⟨old, he⟩, hit, hin⟩ := st
    obtain ⟨xs, x, hq, hx, hxn⟩ := hg
    obtain ⟨its, rv, p, hz⟩ := I.tuple hq
    have hxl : i < its.toArray.size := by
      have := (List.getElem?_eq_some_iff.mp hx).1
      rw [List.size_toArray, ← rv.length]
      exact this
    have hel : e < s.heap.objs.size := Heap.lt_size he
    have hil : it < s.heap.objs.size := by obtain ⟨_, q, _⟩ := hit; exact Heap.lt_size q
    have Dr := Draws.tuple (prog := X.prog) (w := X.w) (A := X.A.in1) (show X.A.in1.handled = none from I.ok.hd hc) it a hia its.toArray
    refine wpAny_pyNext_enum_itemD Dr he ⟨hit, p⟩ hxl hne (by simp [hne, hea]) fun u h' tk hu ho hit' hT hsz hk => ?_
    obtain ⟨u', hu', ru⟩ := rv.get hx
    have hu2 : its[i]? = some u := by simpa using hu
    have eu : u' = u := Option.some.inj (hu'.symm.trans hu2)
    subst eu
    refine ⟨_, rfl, wpAny_letOwnedTupleGo_enum (s := { s with heap := h', toks := tk + 1 }) ho fun h'' he' sb => ?_⟩
    have hT2 : h''.get? s.heap.objs.size = some { cls := .type "tuple", data := .seq #[.int i tk, u'] } := (sb.2 _ (Nat.ne_of_gt hel)).trans hT
    have new : ObjOk X.prog X.w (upd H s.heap.objs.size (.tup [.int (i : Nat), x])) h'' s.heap.objs.size (.tup [.int (i : Nat), x]) :=
      ⟨by show 2 ≤ sizeLine; decide, [.int i tk, u'], .cons ⟨_, rfl⟩ (.cons ru .nil), ⟨_, hT2, rfl, _, rfl⟩⟩
    have I1 : Inv X pins σ (upd H s.heap.objs.size (.tup [.int (i : Nat), x])) { s with heap := h'', toks := tk + 1 } :=
      I.turnedNew (ch := [e, it]) (fun b ob hb q => (sb.2 b (fun z => hb (by simp [z]))).trans (hk b ob (fun z => hb (by simp [z])) (fun z => hb (by simp [z])) q)) hf (Nat.le_refl _) new
    refine ⟨.ref s.heap.objs.size, _, I1, rfl, ⟨_, x, rfl, I.hok.fresh (Nat.le_refl _), rfl, fun ys hy => by rw [I.tuple_inj hy hq]; exact hx⟩, ⟨⟨u', ?_⟩, hit'.1.at fun o q => (sb.2 it (Ne.symm hne)).trans q, ?_⟩, fun b hb => ?_⟩
    · have e1 : ((i + 1 : Nat) : Int) = (i : Int) + 1 := by omega
      rw [e1]; exact he'
    · have := (List.getElem?_eq_some_iff.mp hx).1
      omega
    · have hb' : b < s.heap.objs.size := by
        have e' : b = e ∨ b = it := by simpa using hb
        rcases e' with z | z
        · rw [z]; exact hel
        · rw [z]; exact hil
      rw [upd_ne (Nat.ne_of_lt hb')]
      exact (hf b hb).1
  done := by
    intro X hP hw hK hc i pins s σ H E I hf st hg
    subst hP hw hK
    obtain ⟨⟨old, he⟩, hit, hin⟩ := st
    obtain ⟨xs, hq, hx, hxn⟩ := hg
    obtain ⟨its, rv, p, hz⟩ := I.tuple hq
    obtain ⟨f0, f1, f2, f3, f4, f5⟩ := hf it (by simp)
    have hl := rv.length
    have Dr := Draws.tuple (prog := X.prog) (w := X.w) (A := X.A.in1) (show X.A.in1.handled = none from I.ok.hd hc) it a hia its.toArray
    have hi : i = its.toArray.size := by
      rw [List.size_toArray, ← hl]
      omega
    subst hi
    exact wpAny_pyNext_enum_endD Dr he ⟨hit, p⟩ fun h' eb => ⟨rfl, I.turned (t' := s.toks) (fun b o hb q => eb b o hb q) f0 f1 f3 f4 f5⟩
  self := fun A i s Q E st h => let ⟨⟨_, he⟩, _⟩ := st; wpAny_pyIter_enum he h
section
variable {S : Stat} {W : WX} {X : Cx}
def iEnumT (K : PySem.W.Frag) (ta : TA) : TI := fun σ H R => ta σ H fun vs H1 => ∃ a xs, vs = [.ref a] ∧ SqT K H1 a xs ∧ R (IteT K a xs.length) H1
theorem pi_enumT {e : Expr} {ta : TA} {p pos tpos : Pos} {elts : List Expr} {kk : Nat} (hg : Gl X "enumerate") (hm : X.mg "enumerate" = none) (ha : PA X [e] ta) (hs : starEach [e] X.env = [(false, eval e X.env)] := by rfl) :
    PI X (.Tuple elts kk tpos) (.Call (.Name "enumerate" p) [e] [] pos) (iEnumT X.K ta) := by
  refine ⟨fun pins s σ H R I h => ?_⟩
  refine Call_ (ld_blt I hg hm boot_enumerate (PyProof.Rows.callWith_type1 (thn (ha.run pos pins s σ H _ I h) fun us s1 ⟨vs, H1, I1, r1, q1⟩ => ?_) hs rfl))
  obtain ⟨a, xs, ex, hq, q⟩ := q1
  subst ex
  cases r1 with
  | cons r rr =>
    cases rr
    cases r
    obtain ⟨its, rv, p', hz⟩ := I1.tuple hq
    refine call_enum_tup p' fun h' he hit hsz hk => wpAny_pyIter_enum he ?_
    have I2 : Inv X pins σ H1 { s1 with heap := h' } := I1.kept (t' := s1.toks) hk
    have hal : a < s1.heap.objs.size := by
      obtain ⟨o, ho, _⟩ := p'
      exact Heap.lt_size ho
    refine ⟨s1.heap.objs.size + 1, [s1.heap.objs.size + 1, s1.heap.objs.size], _, _, H1, rfl, I2, turn_enumT a (s1.heap.objs.size + 1) s1.heap.objs.size xs.length (Nat.succ_ne_self _) (Nat.ne_of_gt (Nat.lt_succ_of_lt hal)) (Nat.ne_of_lt hal), ⟨⟨.none, he⟩, hit, Nat.zero_le _⟩, fun b hb => ?_, q⟩
    have e' : b = s1.heap.objs.size + 1 ∨ b = s1.heap.objs.size := by simpa using hb
    have hle : s1.heap.objs.size ≤ b := by
      rcases e' with z | z
      · rw [z]; exact Nat.le_add_right _ _
      · rw [z]; exact Nat.le_refl _
    exact I1.fpOk hle (I1.hok.fresh hle)
def enumD (ds : List D) : List D := ds.zipIdx.map fun p => .tup [.int (p.2 : Nat), p.1]
theorem enumD_len (ds : List D) : (enumD ds).length = ds.length := by simp [enumD]
theorem enumD_get {ds : List D} {i : Nat} {d : D} (h : (enumD ds)[i]? = some d) : ∃ y, ds[i]? = some y ∧ d = .tup [.int (i : Nat), y] := by
  unfold enumD at h
  rw [List.getElem?_map, List.getElem?_zipIdx] at h
  cases q : ds[i]? with
  | none => rw [q] at h; cases h
  | some y =>
    rw [q] at h
    refine ⟨y, rfl, ?_⟩
    have h' := Option.some.inj h
    rw [← h']
    simp
theorem walk_enT {r : Rho} {n : Nat} {H : Hp} {ds : List D} {a : Addr} {xs : List V} (h1 : SqT S.K H a xs) (h2 : RepL S r n H ds xs) : WalkD S ⟨enumD ds, []⟩ r n H (IteT S.K a xs.length) := by
  refine ⟨fun i r1 st1 H1 hi l o k => ?_, fun r1 st1 H1 l o k => ?_, fun i r1 st1 H1 x H' d hd l o k y => ?_⟩
  · have hl : i < xs.length := by rw [← h2.length]; simpa [enumD_len] using hi
    exact ⟨xs, xs[i], sqT_mono l h1, by simp [hl], rfl⟩
  · exact ⟨xs, sqT_mono l h1, by simp [enumD_len, h2.length], rfl⟩
  · obtain ⟨T, x0, e1, e2, e3, e4⟩ := y
    obtain ⟨z, g1, g2⟩ := enumD_get hd
    have hx := e4 xs (sqT_mono l h1)
    obtain ⟨v, q1, q2⟩ := (RepL.mono l _ _ h2).get g1
    rw [hx] at q1
    cases q1
    subst e1 e3 g2
    exact new_tup o (RepL.cons rep_int (RepL.cons q2 RepL.nil)) e2
theorem walk_enL {r : Rho} {n : Nat} {H : Hp} {it : IterD} {a : Addr} {xs : List V} (h : LstAt S it r n H a xs) : WalkD S ⟨enumD it.items, it.lock⟩ r n H (Ite S.K a) := by
  refine ⟨fun i r1 st1 H1 hi l o k => ?_, fun r1 st1 H1 l o k => ?_, fun i r1 st1 H1 x H' d hd l o k y => ?_⟩
  · obtain ⟨ys, q1, q2⟩ := h r1 st1 H1 l o k
    have hl : i < ys.length := by rw [← q2.length]; simpa [enumD_len] using hi
    exact ⟨ys, ys[i], q1, by simp [hl]⟩
  · obtain ⟨ys, q1, q2⟩ := h r1 st1 H1 l o k
    exact ⟨ys, q1, by simp [enumD_len, q2.length]⟩
  · obtain ⟨ys, q1, q2⟩ := h r1 st1 H1 l o k
    obtain ⟨T, x0, e1, e2, e3, e4⟩ := y
    obtain ⟨z, g1, g2⟩ := enumD_get hd
    have hx := e4 ys q1
    obtain ⟨v, p1, p2⟩ := q2.get g1
    rw [hx] at p1
    cases p1
    subst e1 e3 g2
    exact new_tup o (RepL.cons rep_int (RepL.cons p2 RepL.nil)) e2
def enOf (st1 : Sto) (d : D) : Res IterD := match d with
  | .tup ds => .ok ⟨enumD ds, []⟩ st1
  | .lst ds => .ok ⟨enumD ds, []⟩ st1
  | .ref k => match iterOf st1 (.ref k) with
    | some it => .ok ⟨enumD it.items, it.lock⟩ st1
    | none => .bad
  | _ => .bad
def iEn (fa : EM D) : EM IterD := fun env st => (fa env st).bind fun d st1 => enOf st1 d
theorem i_en {a : Expr} {fa : EM D} {p pos tpos : Pos} {elts : List Expr} {kk : Nat} (ha : PE X a (rdE S W fa)) (hm : X.mg "enumerate" = none) (hg : Gl X "enumerate" := by rfl) (hs : starEach [a] X.env = [(false, eval a X.env)] := by rfl) (hK : X.K = S.K := by rfl) :
    PI X (.Tuple elts kk tpos) (.Call (.Name "enumerate" p) [a] [] pos) (rdI S W (iEn fa)) := by
  refine PI.by fun σ H R h => ?_
  obtain ⟨r, env, st, o, eo, h⟩ := h
  have pa : PA X [a] (rdA S W (mCons fa mNil)) := a_cons ha a_nil hs
  have lists : ∀ t, (∀ d st1 r1 H1 v, fa env st = .ok d st1 → Ok S r1 st1 H1 → Rep S r1 st1.length H1 d v → EndI S W σ r1 st1.length H1 R (enOf st1 d) → t [v] H1) → rdA S W (mCons fa mNil) σ H t := fun t k => by
    refine ⟨r, env, st, o, eo, ?_⟩
    unfold iEn at h
    unfold mCons mNil
    cases q : fa env st with
    | ok d st1 =>
      rw [q] at h
      intro r1 H1 vs l1 o1 rv
      obtain ⟨v, e1, r1'⟩ := repL1 rv
      subst e1
      exact k d st1 r1 H1 v q o1 r1' (EndI.le l1 h)
    | exc c d st1 => rw [q] at h; exact h
    | bad => rw [q] at h; exact h.elim
  cases q : fa env st with
  | ok d st1 =>
    cases d with
    | tup ds =>
      refine ⟨_, pi_enumT hg hm pa hs, lists _ fun d' st' r1 H1 v e o1 rv h1 => ?_⟩
      rw [q] at e
      cases e
      unfold Rep at rv
      obtain ⟨a, xs, e1, e2, e3⟩ := rv
      rw [hK]
      exact ⟨a, xs, by rw [e1], e2, h1 r1 H1 _ o1.refl o1 (walk_enT e2 e3)⟩
    | lst ds =>
      refine ⟨_, pi_enum hg hm pa hs, lists _ fun d' st' r1 H1 v e o1 rv h1 => ?_⟩
      rw [q] at e
      cases e
      obtain ⟨a, xs, e1, e2, e3⟩ := lstAt_frz rv
      rw [hK]
      exact ⟨a, xs, by rw [e1], e2, h1 r1 H1 _ o1.refl o1 (walk_enL e3)⟩
    | ref k =>
      refine ⟨_, pi_enum hg hm pa hs, lists _ fun d' st' r1 H1 v e o1 rv h1 => ?_⟩
      rw [q] at e
      cases e
      cases qk : st1[k]? with
      | none => simp only [enOf, iterOf, qk] at h1; exact h1.elim
      | some c =>
        cases c with
        | lst ds =>
          simp only [enOf, iterOf, qk] at h1
          obtain ⟨a, xs, e1, e2, e3⟩ := lstAt_cel o1 rv qk
          rw [hK]
          exact ⟨a, xs, by rw [e1], e2, h1 r1 H1 _ o1.refl o1 (walk_enL e3)⟩
        | _ => simp only [enOf, iterOf, qk] at h1; exact h1.elim
    | _ =>
      refine ⟨_, pi_enum hg hm pa hs, lists _ fun d' st' r1 H1 v e o1 rv h1 => ?_⟩
      rw [q] at e
      cases e
      exact h1.elim
  | exc c d st1 =>
    refine ⟨_, pi_enum hg hm pa hs, lists _ fun d' st' r1 H1 v e o1 rv h1 => ?_⟩
    rw [q] at e
    cases e
  | bad => unfold iEn at h; rw [q] at h; exact h.elim
end
end Cw

/-! Repetition. -/
namespace Cw
open PySem L2 PyProof.Rows
theorem tup_mul1 (l : Addr) (items : Array Value) (n : Nat) (dd : Option Addr) (sl : Array (Option Value)) (u : Tok) :
    Meets (Builtin.«tuple.__mul__» ⟨[.ref l, .int 1 u], []⟩) (fun _ R s => s.heap.get? l = some { cls := .type "tuple", dict := dd, data := .seq items n, slots := sl } ∧
      R (.ok (.ret (Value.ref l))) s) :=
  .of_wp fun prog w A R s h => by
    obtain ⟨hp, g, d, tk, os⟩ := s
    obtain ⟨hl, h⟩ := h
    have f1 := AutoSeq1.idx_int
    wp_walk using wpAny_loadPart' hl
    repeat (first
      | (refine wpAny_ite_false (by decide) ?_; wp_walk using wpAny_loadPart' hl)
      | (refine wpAny_ite_true (by simp) ?_; wp_walk using wpAny_loadPart' hl))
    exact ⟨_, rfl, h⟩
theorem tup_mul0 (l : Addr) (items : Array Value) (n : Nat) (dd : Option Addr) (sl : Array (Option Value)) (u : Tok) (hi : items.isEmpty = false) :
    Meets (Builtin.«tuple.__mul__» ⟨[.ref l, .int 0 u], []⟩) (fun _ R s => s.heap.get? l = some { cls := .type "tuple", dict := dd, data := .seq items n, slots := sl } ∧
      R (.ok (.ret (Value.ref s.heap.objs.size))) { s with heap := s.heap.push { cls := Value.type "tuple", data := Data.seq #[] }, toks := s.toks }) :=
  .of_wp fun prog w A R s h => by
    obtain ⟨hp, g, d, tk, os⟩ := s
    obtain ⟨hl, h⟩ := h
    have f1 := AutoSeq1.idx_int
    wp_walk using wpAny_loadPart' hl
    repeat (first
      | (refine wpAny_ite_false (by simp [hi]) ?_; wp_walk using wpAny_loadPart' hl)
      | (refine wpAny_ite_true (by simp) ?_; wp_walk using wpAny_loadPart' hl))
    exact ⟨_, rfl, h⟩
section
variable {S : Stat} {W : WX} {X : Cx}
def rRepT01 (K : PySem.W.Frag) : R2 := fun x y H Q => ∃ l k xs, x = .ref l ∧ y = .int k ∧ SqT K H l xs ∧ xs ≠ [] ∧ ((k = 1 ∧ Q (.ref l) H) ∨ (k = 0 ∧ ∀ p, H p = none → Q (.ref p) (upd H p (.tup []))))
theorem op_repT01 : OpR X (binaryOp .Mult) (rRepT01 X.K) := by
  intro pins s σ H x y v u Q I rx ry h
  obtain ⟨l, k, xs, rfl, rfl, hT, hne, q⟩ := h
  cases rx
  obtain ⟨t, rfl⟩ := ry
  obtain ⟨its, r, ⟨⟨cls, dd, data, sl⟩, ho, hc, n, hd⟩, hs⟩ := I.tuple hT
  simp only at hc hd
  subst hc hd
  have hle : its.length = xs.length := r.length.symm
  have hn : its ≠ [] := fun e => hne (by
    rw [e] at hle
    exact List.eq_nil_of_length_eq_zero hle.symm)
  have hi : its.toArray.isEmpty = false := by
    cases its with
    | nil => exact absurd rfl hn
    | cons a b => rfl
  rcases q with ⟨rfl, q⟩ | ⟨rfl, q⟩
  · refine wpAny_binaryOp_repeat_ref (T := "tuple") (U := "int") (by decide) ⟨_, ho, rfl⟩ (fun s' => typeIs_int s' 1 t) noFill_tuple_mul F.fills_int_mul F.slot_int_rmul repeat_tuple F.slot_int_index.lookup
      (call_meets F.slot_int_rmul (typeIs_int s 1 t) F.entry_int_rmul (F.args_int_rmul_2 _ _) (int_rmul_tuple 1 t l its.toArray n dd sl)
        ⟨ho, rfl, ⟨_, ho, rfl⟩, call_meets F.slot_tuple_mul ⟨_, ho, rfl⟩ F.entry_tuple_mul (F.args_tuple_mul_2 _ _) (tup_mul1 l its.toArray n dd sl t) ⟨ho, ?_⟩⟩)
    exact ⟨.ref l, H, I, rfl, q⟩
  · refine wpAny_binaryOp_repeat_ref (T := "tuple") (U := "int") (by decide) ⟨_, ho, rfl⟩ (fun s' => typeIs_int s' 0 t) noFill_tuple_mul F.fills_int_mul F.slot_int_rmul repeat_tuple F.slot_int_index.lookup
      (call_meets F.slot_int_rmul (typeIs_int s 0 t) F.entry_int_rmul (F.args_int_rmul_2 _ _) (int_rmul_tuple 0 t l its.toArray n dd sl)
        ⟨ho, rfl, ⟨_, ho, rfl⟩, call_meets F.slot_tuple_mul ⟨_, ho, rfl⟩ F.entry_tuple_mul (F.args_tuple_mul_2 _ _) (tup_mul0 l its.toArray n dd sl t hi) ⟨ho, ?_⟩⟩)
    refine ⟨.ref s.heap.objs.size, _, I.laid (t' := s.toks) (o := .tup []) (fun b ob q => Heap.get?_push_of_some _ q) (Nat.le_refl _) ?_, rfl, q _ (I.hok.fresh (Nat.le_refl _))⟩
    exact ⟨Nat.zero_le _, [], .nil, IsTup.new _ _⟩
theorem hu64 {k : Nat} {A : Around} (hr : Room k A) : A.units + 64 < cLine := hr.units
def repD {α : Type} (k : Int) (ds : List α) : List α := (List.replicate k.toNat ds).flatten
theorem rep_rep {r : Rho} {n : Nat} {H : Hp} {ds : List D} {xs : List V} (h : RepL S r n H ds xs) : ∀ m : Nat, RepL S r n H (List.replicate m ds).flatten (List.replicate m xs).flatten
  | 0 => RepL.nil
  | m + 1 => by
    rw [List.replicate_succ, List.replicate_succ, List.flatten_cons, List.flatten_cons]
    exact h.append (rep_rep h m)
def mulT (ds : List D) (k : Int) : Option D := if ds.isEmpty = false ∧ 0 ≤ k ∧ k ≤ 1000 ∧ ds.length ≤ 1000 then some (.tup (repD k ds)) else none
theorem mulT_ok {pins : List (Addr × Obj)} {s : Shared} {σ : L2.St} {H : Hp} {x y : V} {v u : Value} {Q : VK} {r : Rho} {st : Sto} {ds : List D} {k : Int} (hK : X.K = S.K) (I : Inv X pins σ H s) (rx : RelV x v) (ry : RelV y u)
    (o : Ok S r st H) (ra : Rep S r st.length H (.tup ds) x) (rb : Rep S r st.length H (.int k) y) (h : EndO S r st.length H Q ((mulT ds k).map fun z => (z, st))) : wpAny (model X.prog X.w) X.A (binaryOp .Mult v u) (EP X pins σ Q) X.xe s := by
  unfold mulT at h
  split at h
  · rename_i hc
    obtain ⟨h1, h2, h3, h4⟩ := hc
    unfold Rep at ra rb
    obtain ⟨a, xs, e1, e2, e3⟩ := ra
    have hl := e3.length
    have hne : xs ≠ [] := fun e => by
      rw [e] at hl
      have : ds = [] := List.eq_nil_of_length_eq_zero hl
      rw [this] at h1
      cases h1
    rw [← hK] at e2
    by_cases k2 : 2 ≤ k
    · refine op_repT pins s σ H x y v u Q I rx ry ⟨a, k, xs, e1, rb, e2, hne, k2, h3, by omega, fun p hp => ?_⟩
      obtain ⟨l2, o2, r2'⟩ := new_tup o (rep_rep e3 k.toNat) hp
      exact h r _ _ l2 o2 r2'
    · by_cases k1 : k = 1
      · subst k1
        refine op_repT01 pins s σ H x y v u Q I rx ry ⟨a, 1, xs, e1, rb, e2, hne, .inl ⟨rfl, ?_⟩⟩
        refine h r H _ o.refl o ?_
        unfold Rep
        rw [hK] at e2
        exact ⟨a, xs, rfl, e2, by simpa [repD] using e3⟩
      · have k0 : k = 0 := by omega
        subst k0
        refine op_repT01 pins s σ H x y v u Q I rx ry ⟨a, 0, xs, e1, rb, e2, hne, .inr ⟨rfl, fun p hp => ?_⟩⟩
        obtain ⟨l2, o2, r2'⟩ := new_tup (l := []) (xs := []) o RepL.nil hp
        refine h r _ _ l2 o2 ?_
        simpa [repD] using r2'
  · exact h.elim
/-- x * n: ints; a tuple -/
def oMulX : O2 := fun a b st => match a, b with
  | .int i, .int j => oMul (.int i) (.int j) st
  | .tup ds, .int k => (mulT ds k).map fun z => (z, st)
  | _, _ => none
theorem or_mulX (hK : X.K = S.K := by rfl) : OpR X (binaryOp .Mult) (r2 S oMulX) := by
  intro pins s σ H x y v u Q I rx ry h
  obtain ⟨r, st, a, b, o, ra, rb, h⟩ := h
  cases a with
  | int i =>
    cases b with
    | int j => exact or_mul pins s σ H x y v u Q I rx ry ⟨r, st, .int i, .int j, o, ra, rb, h⟩
    | _ => exact h.elim
  | tup ds =>
    cases b with
    | int k => exact mulT_ok hK I rx ry o ra rb h
    | _ => exact h.elim
  | _ => exact h.elim
/-- [..] * n, (..) * n -/
def oRep (cell : Bool) : O2 := fun a b st => match b with
  | .int k => match a with
    | .tup ds => (mulT ds k).map fun z => (z, st)
    | d => match seqW st d with
      | some ds => if small62 k = true ∧ ds.length * k.toNat ≤ LIM then some (mkL cell (repD k ds) st) else none
      | none => none
  | _ => none
theorem or_rep (cell : Bool) (hK : X.K = S.K := by rfl) : OpR X (binaryOp .Mult) (r2 S (oRep cell)) := by
  intro pins s σ H x y v u Q I rx ry h
  obtain ⟨r, st, a, b, o, ra, rb, h⟩ := h
  cases b with
  | int k =>
    have go : EndO S r st.length H Q (match seqW st a with
      | some ds => if small62 k = true ∧ ds.length * k.toNat ≤ LIM then some (mkL cell (repD k ds) st) else none
      | none => none) → wpAny (model X.prog X.w) X.A (binaryOp .Mult v u) (EP X pins σ Q) X.xe s := fun h => by
      cases q : seqW st a with
      | none => rw [q] at h; exact h.elim
      | some ds =>
        rw [q] at h
        simp only at h
        split at h
        · rename_i hc
          obtain ⟨p, xs, e1, e2, e3⟩ := seqW_ok o ra q
          unfold Rep at rb
          have hk := (small62_iff.mp hc.1).1
          refine op_rep pins s σ H x y v u Q I rx ry ⟨p, k, xs, e1, rb, e2, by omega, by omega, by rw [← e3.length]; exact lim_ok hc.2, fun p' hp => ?_⟩
          obtain ⟨r', l2, o2, r2'⟩ := new_mk (cell := cell) o (rep_rep e3 k.toNat) hp
          exact h r' _ _ l2 o2 r2'
        · exact h.elim
    cases a with
    | tup ds => exact mulT_ok hK I rx ry o ra rb h
    | lst ds => exact go h
    | ref j => exact go h
    | _ => exact h.elim
  | _ => exact h.elim
end
end Cw

/-! The promise of a def, for printed texts. -/
namespace Cw
open PySem L2 PyProof.Rows
section
variable {S : Stat} {P : Program} {w : World} {K : PySem.W.Frag} {mg : Str → Option Value} {base : Heap}
theorem def_ok2 (hx0 : S.ex = none) {x qual : Str} {st : Stmt} {f : Addr} {fd : FuncData} {N ps : List Str} {k ar n : Nat} (keep : Bool) {fb : SM} {mf : List D → Sto → Res D} (F : L2.Fun K x qual st f fd) (sc : FnScope N ps (defScope st)) (hm : mf = runF keep n fb) (hN : N.length = n) (hp : ps.length = ar)
    (hb : ∀ (cdv : Value) (A : Around) (outer : List Env) (s : Shared) (H : Hp) (E : XK), Room k (cxOf (L2.CX P w) P w K mg base N qual (defScope st) f cdv A outer s H E).A →
      Takes (cxOf (L2.CX P w) P w K mg base N qual (defScope st) f cdv A outer s H E) (WC E) →
      PassesOwn (model P w) (cxOf (L2.CX P w) P w K mg base N qual (defScope st) f cdv A outer s H E).A (cxOf (L2.CX P w) P w K mg base N qual (defScope st) f cdv A outer s H E).env (cxOf (L2.CX P w) P w K mg base N qual (defScope st) f cdv A outer s H E).xe →
      PSs (cxOf (L2.CX P w) P w K mg base N qual (defScope st) f cdv A outer s H E) (defBody st) (rdS S (WC E) fb)) :
    FnOk P w K mg base (L2.CX P w) (k + 1) f fd ps (spM S ar mf) := by
  subst hm hN hp
  exact def_ok hx0 keep F sc fun cdv A outer s H E hr => hb cdv A outer s H E hr
    (takes_of (X := cxOf (L2.CX P w) P w K mg base N qual (defScope st) f cdv A outer s H E) rfl rfl rfl rfl) (passes_of (X := cxOf (L2.CX P w) P w K mg base N qual (defScope st) f cdv A outer s H E) rfl)
theorem bad_ok2 {ar k : Nat} {f : Addr} {fd : FuncData} {ps : List Str} (hp : ps.length = ar) {mf : List D → Sto → Res D} (hm : mf = fun _ _ => .bad) : FnOk P w K mg base (L2.CX P w) k f fd ps (spM S ar mf) := by
  subst hp hm
  exact bad_ok
end
end Cw

/-! Comprehensions within comprehensions. -/
namespace Cw
open PySem L2 PyProof.Rows
theorem lookup_cap {env : Env} : ∀ {names : List (Str × NameKind)} {x : Str}, names.lookup x = some .cell ∨ names.lookup x = some .free →
    (names.map fun (n, k) => if (k == NameKind.free && env.scope.kind == .function && env.kindOf n == some .cell) then (n, NameKind.cell) else (n, k)).lookup x = some .cell ∨
    (names.map fun (n, k) => if (k == NameKind.free && env.scope.kind == .function && env.kindOf n == some .cell) then (n, NameKind.cell) else (n, k)).lookup x = some .free
  | [], _, h => by simp at h
  | (n, k) :: r, x, h => by
    have ih := @lookup_cap env r x
    show List.lookup x ((if (k == NameKind.free && env.scope.kind == .function && env.kindOf n == some .cell) = true then (n, NameKind.cell) else (n, k)) :: _) = _ ∨ List.lookup x ((if (k == NameKind.free && env.scope.kind == .function && env.kindOf n == some .cell) = true then (n, NameKind.cell) else (n, k)) :: _) = _
    cases hx : x == n with
    | true =>
      simp only [List.lookup_cons, hx] at h
      by_cases hc : (k == NameKind.free && env.scope.kind == .function && env.kindOf n == some .cell) = true
      · rw [if_pos hc]; simp [List.lookup_cons, hx]
      · rw [if_neg hc]; simp only [List.lookup_cons, hx]; exact h
    | false =>
      simp only [List.lookup_cons, hx] at h
      by_cases hc : (k == NameKind.free && env.scope.kind == .function && env.kindOf n == some .cell) = true
      · rw [if_pos hc]; simp only [List.lookup_cons, hx]; exact ih h
      · rw [if_neg hc]; simp only [List.lookup_cons, hx]; exact ih h
theorem blk_relabel {N : List Str} {sc scope : Scope} {own : List (Str × Nat)} {env : Env} (h : BlkOk N sc scope own) : BlkOk N (relabel sc env) scope own :=
  ⟨h.kind, h.uniq, h.ix, fun y hy e => lookup_cap (h.free y hy e), h.own⟩
end Cw

/-! Plain data, runs of models. -/
namespace Cw
open PySem
mutual
def pl : D → Bool
  | .tup ds => plL ds
  | .lst ds => plL ds
  | .obj _ _ ds => plL ds
  | .ref _ => false
  | .exn _ _ => false
  | _ => true
def plL : List D → Bool
  | [] => true
  | d :: ds => pl d && plL ds
end
mutual
theorem frzG_pl (on : Nat → Option D) : ∀ d : D, pl d = true → frzG on d = some d
  | .tup ds, h => by
    unfold pl at h
    unfold frzG
    rw [frzL_pl on ds h]
  | .lst ds, h => by
    unfold pl at h
    unfold frzG
    rw [frzL_pl on ds h]
  | .obj _ _ ds, h => by
    unfold pl at h
    unfold frzG
    rw [frzL_pl on ds h]
  | .ref _, h => by simp [pl] at h
  | .exn _ _, h => by simp [pl] at h
  | .non, _ => by unfold frzG; rfl
  | .bl _, _ => by unfold frzG; rfl
  | .int _, _ => by unfold frzG; rfl
  | .str _, _ => by unfold frzG; rfl
  | .scr _, _ => by unfold frzG; rfl
theorem frzL_pl (on : Nat → Option D) : ∀ ds : List D, plL ds = true → frzL on ds = some ds
  | [], _ => by unfold frzL; rfl
  | d :: ds, h => by
    unfold plL at h
    obtain ⟨h1, h2⟩ := Bool.and_eq_true_iff.mp h
    unfold frzL
    rw [frzG_pl on d h1, frzL_pl on ds h2]
end
theorem frz_pl (st : Sto) (n : Nat) {d : D} (h : pl d = true) : ∀ f, frz st n f d = some d
  | 0 => by unfold frz; exact frzG_pl _ d h
  | f + 1 => by unfold frz; exact frzG_pl _ d h
mutual
theorem below_pl (n : Nat) : ∀ d : D, pl d = true → below n d = true
  | .tup ds, h => by unfold pl at h; unfold below; exact belowL_pl n ds h
  | .lst ds, h => by unfold pl at h; unfold below; exact belowL_pl n ds h
  | .obj _ _ ds, h => by unfold pl at h; unfold below; exact belowL_pl n ds h
  | .ref _, h => by simp [pl] at h
  | .exn _ _, h => by simp [pl] at h
  | .non, _ => rfl
  | .bl _, _ => rfl
  | .int _, _ => rfl
  | .str _, _ => rfl
  | .scr _, _ => rfl
theorem belowL_pl (n : Nat) : ∀ ds : List D, plL ds = true → belowL n ds = true
  | [], _ => rfl
  | d :: ds, h => by
    unfold plL at h
    obtain ⟨h1, h2⟩ := Bool.and_eq_true_iff.mp h
    unfold belowL
    rw [below_pl n d h1, belowL_pl n ds h2]
    rfl
end
theorem popB_refl (st : Sto) : popB st st = true := by
  unfold popB
  rw [List.all_eq_true]
  intro k hk
  have hk := List.mem_range.mp hk
  have e : st[k]? = some st[k] := by simp [hk]
  rw [e]
  simp [cbeq_refl]
/-- what a state keeps: as long, but for the cells in ks, which are plain -/
theorem popB_set {st st' : Sto} (hl : st.length ≤ st'.length) (h : ∀ k, k < st.length → st'[k]? = st[k]? ∨ ∃ ds, st'[k]? = some (.lst ds) ∧ plL ds = true) : popB st st' = true := by
  unfold popB
  rw [List.all_eq_true]
  intro k hk
  have hk := List.mem_range.mp hk
  have e : st[k]? = some st[k] := by simp [hk]
  rcases h k hk with q | ⟨ds, q, p⟩
  · rw [q, e]
    simp [cbeq_refl]
  · rw [e, q]
    have := belowL_pl st.length ds p
    simp [belowC, this]
theorem plL_append : ∀ (a b : List D), plL (a ++ b) = (plL a && plL b)
  | [], b => by simp [plL]
  | d :: a, b => by simp [plL, plL_append a b, Bool.and_assoc]
theorem plL_iff {ds : List D} : plL ds = true ↔ ∀ d ∈ ds, pl d = true := by
  induction ds with
  | nil => simp [plL]
  | cons d ds ih => simp [plL, ih]
/-- a def that leaves the store as it is -/
theorem run_pure {n : Nat} {f : SM} {ds : List D} {st : Sto} {d : D} (h : bodyR (f (ds.map some ++ List.replicate (n - ds.length) none) st) = .ok d st) (p : pl d = true) : runF false n f ds st = .ok d st := by
  unfold runF
  rw [h]
  unfold popR
  simp [frz_pl st st.length p, popB_refl]
theorem run_exc {n : Nat} {f : SM} {ds : List D} {st : Sto} {c : Nat} {d : D} (h : bodyR (f (ds.map some ++ List.replicate (n - ds.length) none) st) = .exc c d st) (p : pl d = true) : runF false n f ds st = .exc c d st := by
  unfold runF
  rw [h]
  unfold popR
  simp [below_pl st.length d p, popB_refl]
/-- a def that may change cells of the caller's, and makes new ones -/
theorem run_cells {n : Nat} {f : SM} {ds : List D} {st st' : Sto} {d e : D} (h : bodyR (f (ds.map some ++ List.replicate (n - ds.length) none) st) = .ok d st') (p : frz st' st.length 5 d = some e) (b : popB st st' = true) : runF false n f ds st = .ok e (st'.take st.length) := by
  unfold runF
  rw [h]
  unfold popR
  simp [p, b]

theorem take_app {α : Type} (a b : List α) : (a ++ b).take a.length = a := by simp
theorem popB_app (st ext : Sto) : popB st (st ++ ext) = true :=
  popB_set (by simp) fun k hk => .inl (by rw [List.getElem?_append_left hk])
/-- a list just made, handed out frozen -/
theorem pop_new {st : Sto} {l : List D} (h : plL l = true) : popR false st (.ok (.ref st.length) (st ++ [.lst l])) = .ok (.lst l) st := by
  have hf : frz (st ++ [.lst l]) st.length 5 (.ref st.length) = some (.lst l) := by
    unfold frz frzG
    simp only [Nat.lt_irrefl, if_false]
    have e : (st ++ [Cell.lst l])[st.length]? = some (.lst l) := by simp
    rw [e]
    have e2 : frzL (fun j => frz (st ++ [.lst l]) st.length 4 (.ref j)) l = some l := frzL_pl _ l h
    simp only [e2]
  unfold popR
  simp [hf, popB_app]
theorem comp_pure {lock : List (Nat × List D)} {vs : List Nat} {t : Tgt} {ft : EM Bool} {fe : EM D} {env : En} {st : Sto} (b : D → Bool) (g : D → D) (hl : ∀ a, lockB lock (st ++ [Cell.lst a]) = true) : ∀ (items acc : List D), acc.length + items.length < LIM →
    (∀ x ∈ items, ∃ env1, tgtD t x (wipeE env vs) = some env1 ∧ ∀ a, ft env1 (st ++ [.lst a]) = .ok (b x) (st ++ [.lst a]) ∧ (b x = true → fe env1 (st ++ [.lst a]) = .ok (g x) (st ++ [.lst a]))) →
    compL lock vs t ft fe env st.length items (st ++ [.lst acc]) = .ok (.ref st.length) (st ++ [.lst (acc ++ (items.filter b).map g)])
  | [], acc, _, _ => by
    unfold compL
    rw [if_pos (hl _)]
    simp
  | x :: xs, acc, hn, h => by
    obtain ⟨env1, e1, e2⟩ := h x (List.mem_cons_self ..)
    have hn' : acc.length + (xs.length + 1) < LIM := by simpa using hn
    unfold compL
    rw [if_pos (hl _), e1]
    simp only [(e2 acc).1]
    cases hb : b x with
    | false =>
      simp only
      rw [comp_pure b g hl xs acc (by omega) fun y hy => h y (List.mem_cons_of_mem _ hy)]
      simp [hb]
    | true =>
      simp only [(e2 acc).2 hb]
      have e : (st ++ [Cell.lst acc])[st.length]? = some (.lst acc) := by simp
      have e3 : (st ++ [Cell.lst acc]).set st.length (.lst (acc ++ [g x])) = st ++ [.lst (acc ++ [g x])] := by simp
      rw [e]
      simp only
      rw [if_pos (by omega), e3, comp_pure b g hl xs (acc ++ [g x]) (by simp; omega) fun y hy => h y (List.mem_cons_of_mem _ hy)]
      simp [hb]
theorem mcomp_pure {fi : EM IterD} {lock : List (Nat × List D)} {vs : List Nat} {t : Tgt} {ft : EM Bool} {fe : EM D} {env : En} {st : Sto} {items : List D} (b : D → Bool) (g : D → D) (hi : fi env st = .ok ⟨items, lock⟩ st) (hl : ∀ a, lockB lock (st ++ [Cell.lst a]) = true) (hn : items.length < LIM)
    (h : ∀ x ∈ items, ∃ env1, tgtD t x (wipeE env vs) = some env1 ∧ ∀ a, ft env1 (st ++ [.lst a]) = .ok (b x) (st ++ [.lst a]) ∧ (b x = true → fe env1 (st ++ [.lst a]) = .ok (g x) (st ++ [.lst a])))
    (hp : plL ((items.filter b).map g) = true) : mComp false fi vs t ft fe env st = .ok (.lst ((items.filter b).map g)) st := by
  unfold mComp
  rw [hi]
  show popR false st (compL lock vs t ft fe env st.length items (st ++ [.lst []])) = _
  rw [comp_pure b g hl items [] (by simpa using hn) h]
  simpa using pop_new hp
/-- without a test -/
theorem mcomp_all {fi : EM IterD} {lock : List (Nat × List D)} {vs : List Nat} {t : Tgt} {fe : EM D} {env : En} {st : Sto} {items : List D} (g : D → D) (hi : fi env st = .ok ⟨items, lock⟩ st) (hl : ∀ a, lockB lock (st ++ [Cell.lst a]) = true) (hn : items.length < LIM)
    (h : ∀ x ∈ items, ∃ env1, tgtD t x (wipeE env vs) = some env1 ∧ ∀ a, fe env1 (st ++ [.lst a]) = .ok (g x) (st ++ [.lst a])) (hp : plL (items.map g) = true) : mComp false fi vs t mYes fe env st = .ok (.lst (items.map g)) st := by
  have e : items.filter (fun _ => true) = items := by simp
  have := mcomp_pure (ft := mYes) (fun _ => true) g hi hl hn (fun x hx => by
    obtain ⟨env1, e1, e2⟩ := h x hx
    exact ⟨env1, e1, fun a => ⟨rfl, fun _ => e2 a⟩⟩) (by rw [e]; exact hp)
  rw [e] at this
  exact this
theorem lock0 (st : Sto) : lockB [] st = true := rfl

section
open L2
theorem at_nat {α : Type} (l : List α) (k : Nat) : atI l (k : Int) = l[k]? := by
  unfold atI ixN
  rw [if_pos (by omega)]
  by_cases h : (k : Int) < l.length
  · rw [if_pos h]
    simp
  · rw [if_neg h]
    have : l[k]? = none := List.getElem?_eq_none (by omega)
    rw [this]
    rfl
variable {α : Type} (a b c d e f : α) (l : List α)
theorem at0 : atI (a :: l) 0 = some a := at_nat (a :: l) 0
theorem at1 : atI (a :: b :: l) 1 = some b := at_nat (a :: b :: l) 1
theorem at2 : atI (a :: b :: c :: l) 2 = some c := at_nat (a :: b :: c :: l) 2
theorem at3 : atI (a :: b :: c :: d :: l) 3 = some d := at_nat (a :: b :: c :: d :: l) 3
theorem at4 : atI (a :: b :: c :: d :: e :: l) 4 = some e := at_nat (a :: b :: c :: d :: e :: l) 4
theorem at5 : atI (a :: b :: c :: d :: e :: f :: l) 5 = some f := at_nat (a :: b :: c :: d :: e :: f :: l) 5
theorem cut_to {k : Nat} : cutD l none (some (k : Int)) = l.take k := by
  unfold cutD
  simp only [HT.sIx_nat, HT.sIx_none, List.drop_zero, Nat.sub_zero]
  by_cases h : k ≤ l.length
  · rw [Nat.min_eq_left h]
  · rw [Nat.min_eq_right (by omega), List.take_of_length_le (Nat.le_refl _), List.take_of_length_le (by omega)]
theorem cut_from {k : Nat} : cutD l (some (k : Int)) none = l.drop k := by
  unfold cutD
  simp only [HT.sIx_nat, HT.sIx_none]
  by_cases h : k ≤ l.length
  · rw [Nat.min_eq_left h]
    exact List.take_of_length_le (by simp)
  · rw [Nat.min_eq_right (by omega)]
    simp
    omega
theorem cut_to1 : cutD (a :: l) none (some 1) = [a] := by
  have := cut_to (a :: l) (k := 1)
  simpa using this
theorem cut_from1 : cutD (a :: l) (some 1) none = l := by
  have := cut_from (a :: l) (k := 1)
  simpa using this
end

theorem popB_gen {st st' : Sto} (h : ∀ k, k < st.length → st'[k]? = st[k]? ∨ ∃ c, st'[k]? = some c ∧ belowC st.length c = true) : popB st st' = true := by
  unfold popB
  rw [List.all_eq_true]
  intro k hk
  have hk := List.mem_range.mp hk
  have e : st[k]? = some st[k] := by simp [hk]
  rcases h k hk with q | ⟨c, q, p⟩
  · rw [q, e]
    simp [cbeq_refl]
  · rw [e, q]
    simp [p]

theorem for_all {lock : List (Nat × List D)} {g : GM} {b : SM} {st : Sto} (I : En → Prop) (hl : lockB lock st = true) : ∀ (items : List D) (env : En), I env →
    (∀ x ∈ items, ∀ env, I env → ∃ env1 env2, g x env st = some (env1, st) ∧ b env1 st = .nx env2 st ∧ I env2) → ∃ env', forL lock g b items env st = .nx env' st ∧ I env'
  | [], env, h, _ => ⟨env, by unfold forL; simp [hl], h⟩
  | x :: xs, env, h, k => by
    obtain ⟨env1, env2, h1, h2, h3⟩ := k x (List.mem_cons_self ..) env h
    obtain ⟨env', h4, h5⟩ := for_all I hl xs env2 h3 fun y hy => k y (List.mem_cons_of_mem _ hy)
    refine ⟨env', ?_, h5⟩
    unfold forL
    simp [hl, h1, h2, h4]
/-- the store goes on, too -/
theorem for_st {lock : List (Nat × List D)} {g : GM} {b : SM} (I : En → Sto → Prop) (hl : ∀ env st, I env st → lockB lock st = true) : ∀ (items : List D) (env : En) (st : Sto), I env st →
    (∀ x ∈ items, ∀ env st, I env st → ∃ env1 st1 env2 st2, g x env st = some (env1, st1) ∧ (b env1 st1 = .nx env2 st2 ∨ b env1 st1 = .ct env2 st2) ∧ I env2 st2) → ∃ env' st', forL lock g b items env st = .nx env' st' ∧ I env' st'
  | [], env, st, h, _ => ⟨env, st, by unfold forL; simp [hl env st h], h⟩
  | x :: xs, env, st, h, k => by
    obtain ⟨env1, st1, env2, st2, h1, h2, h3⟩ := k x (List.mem_cons_self ..) env st h
    obtain ⟨env', st', h4, h5⟩ := for_st I hl xs env2 st2 h3 fun y hy => k y (List.mem_cons_of_mem _ hy)
    refine ⟨env', st', ?_, h5⟩
    unfold forL
    rcases h2 with h2 | h2 <;> simp [hl env st h, h1, h2, h4]

theorem chkS_refl (st : Sto) : chkS st st = true := by
  unfold chkS
  rw [List.all_eq_true]
  intro k hk
  have hk := List.mem_range.mp hk
  have e : st[k]? = some st[k] := by simp [hk]
  rw [e]
  simp [cbeq_refl]

theorem for_ix {lock : List (Nat × List D)} {g : GM} {b : SM} (I : Nat → En → Sto → Prop) (hl : ∀ j env st, I j env st → lockB lock st = true) : ∀ (items : List D) (j : Nat) (env : En) (st : Sto), I j env st →
    (∀ i x, items[i]? = some x → ∀ env st, I (j + i) env st → ∃ env1 st1 env2 st2, g x env st = some (env1, st1) ∧ (b env1 st1 = .nx env2 st2 ∨ b env1 st1 = .ct env2 st2) ∧ I (j + i + 1) env2 st2) → ∃ env' st', forL lock g b items env st = .nx env' st' ∧ I (j + items.length) env' st'
  | [], j, env, st, h, _ => ⟨env, st, by unfold forL; simp [hl j env st h], h⟩
  | x :: xs, j, env, st, h, k => by
    obtain ⟨env1, st1, env2, st2, h1, h2, h3⟩ := k 0 x rfl env st h
    obtain ⟨env', st', h4, h5⟩ := for_ix I hl xs (j + 1) env2 st2 h3 fun i y hy env st hi => by
      have := k (i + 1) y (by simpa using hy) env st (by rw [show j + (i + 1) = j + 1 + i by omega]; exact hi)
      rw [show j + (i + 1) + 1 = j + 1 + i + 1 by omega] at this
      exact this
    refine ⟨env', st', ?_, ?_⟩
    · unfold forL
      rcases h2 with h2 | h2 <;> simp [hl j env st h, h1, h2, h4]
    · rw [List.length_cons, show j + (xs.length + 1) = j + 1 + xs.length by omega]
      exact h5
end Cw

/-! Weakest conditions of runs of models. -/
namespace Cw
open PySem
def wp {α : Type} (r : Res α) (Q : α → Sto → Prop) : Prop := match r with
  | .ok a st => Q a st
  | _ => False
theorem w_out {α : Type} {r : Res α} {Q : α → Sto → Prop} (h : wp r Q) : ∃ a st, r = .ok a st ∧ Q a st := by
  cases r with
  | ok a st => exact ⟨a, st, rfl, h⟩
  | _ => exact h.elim
theorem w_eq {α : Type} {r : Res α} {Q : α → Sto → Prop} {a : α} {st : Sto} (e : r = .ok a st) (q : Q a st) : wp r Q := by
  rw [e]
  exact q
theorem w_bind {α β : Type} {r : Res α} {f : α → Sto → Res β} {Q : β → Sto → Prop} (h : wp r fun a s => wp (f a s) Q) : wp (r.bind f) Q := by
  cases r <;> exact h
theorem w_mono {α : Type} {r : Res α} {P Q : α → Sto → Prop} (h : wp r P) (k : ∀ a s, P a s → Q a s) : wp r Q := by
  cases r with
  | ok a st => exact k _ _ h
  | _ => exact h
theorem w_lift {x : Option (D × Sto)} {d : D} {s : Sto} {Q : D → Sto → Prop} (h : x = some (d, s)) (q : Q d s) : wp (lift x) Q := by
  rw [h]
  exact q
section
variable {env : En} {st : Sto} {Q : D → Sto → Prop} {fa fb fc : EM D} {ta tb : EM Bool} {g : EM (List D)} {QL : List D → Sto → Prop} {QB : Bool → Sto → Prop}
theorem w_var {i : Nat} {d : D} (h : env[i]? = some (some d)) (q : Q d st) : wp (mVar i env st) Q := by
  unfold mVar
  rw [h]
  exact q
theorem w_c {d : D} (q : Q d st) : wp (mC d env st) Q := q
theorem w_bin {op : O2} (h : wp (fa env st) fun a s1 => wp (fb env s1) fun b s2 => wp (lift (op a b s2)) Q) : wp (mBin op fa fb env st) Q :=
  w_bind (w_mono h fun _ _ h => w_bind h)
theorem w_m1 {op : O1} (h : wp (fa env st) fun a s1 => wp (lift (op a s1)) Q) : wp (m1 op fa env st) Q := w_bind h
theorem w_un {op : D → Option D} (h : wp (fa env st) fun a s1 => ∃ d, op a = some d ∧ Q d s1) : wp (mUn op fa env st) Q :=
  w_bind (w_mono h fun a s ⟨d, e, q⟩ => by rw [e]; exact q)
theorem w_T (h : wp (fa env st) fun a s1 => ∃ b, a = .bl b ∧ QB b s1) : wp (mT fa env st) QB :=
  w_bind (w_mono h fun a s ⟨d, e, q⟩ => by rw [e]; exact q)
theorem w_NotT (h : wp (ta env st) fun b s1 => QB (!b) s1) : wp (mNotT ta env st) QB := w_bind h
theorem w_AndT (h : wp (ta env st) fun b s1 => (b = true → wp (tb env s1) QB) ∧ (b = false → QB false s1)) : wp (mAndT ta tb env st) QB :=
  w_bind (w_mono h fun b s k => by
    cases b with
    | true => exact k.1 rfl
    | false => exact k.2 rfl)
theorem w_OrT (h : wp (ta env st) fun b s1 => (b = true → QB true s1) ∧ (b = false → wp (tb env s1) QB)) : wp (mOrT ta tb env st) QB :=
  w_bind (w_mono h fun b s k => by
    cases b with
    | true => exact k.1 rfl
    | false => exact k.2 rfl)
theorem w_And (h : wp (fa env st) fun a s1 => ∃ b, a = .bl b ∧ (b = true → wp (fb env s1) Q) ∧ (b = false → Q (.bl false) s1)) : wp (mAnd fa fb env st) Q :=
  w_bind (w_mono h fun a s ⟨b, e, k⟩ => by
    subst e
    cases b with
    | true => exact k.1 rfl
    | false => exact k.2 rfl)
theorem w_Or (h : wp (fa env st) fun a s1 => ∃ b, a = .bl b ∧ (b = true → Q (.bl true) s1) ∧ (b = false → wp (fb env s1) Q)) : wp (mOr fa fb env st) Q :=
  w_bind (w_mono h fun a s ⟨b, e, k⟩ => by
    subst e
    cases b with
    | true => exact k.1 rfl
    | false => exact k.2 rfl)
theorem w_Not (h : wp (fa env st) fun a s1 => ∃ b, a = .bl b ∧ Q (.bl (!b)) s1) : wp (mNot fa env st) Q :=
  w_bind (w_mono h fun a s ⟨b, e, k⟩ => by
    subst e
    exact k)
theorem w_If (h : wp (ta env st) fun b s1 => (b = true → wp (fa env s1) Q) ∧ (b = false → wp (fb env s1) Q)) : wp (mIf ta fa fb env st) Q :=
  w_bind (w_mono h fun b s k => by
    cases b with
    | true => exact k.1 rfl
    | false => exact k.2 rfl)
theorem w_nil (q : QL [] st) : wp (mNil env st) QL := q
theorem w_cons (h : wp (fa env st) fun a s1 => wp (g env s1) fun l s2 => QL (a :: l) s2) : wp (mCons fa g env st) QL :=
  w_bind (w_mono h fun _ _ h => w_bind h)
theorem w_tup (h : wp (g env st) fun l s1 => l.length ≤ LIM ∧ Q (.tup l) s1) : wp (mTup g env st) Q :=
  w_bind (w_mono h fun l s ⟨h1, h2⟩ => by rw [if_pos h1]; exact h2)
theorem w_lstF (h : wp (g env st) fun l s1 => l.length ≤ LIM ∧ Q (.lst l) s1) : wp (mLst false g env st) Q :=
  w_bind (w_mono h fun l s ⟨h1, h2⟩ => by rw [if_pos h1]; exact h2)
theorem w_lstT (h : wp (g env st) fun l s1 => l.length ≤ LIM ∧ Q (.ref s1.length) (s1 ++ [.lst l])) : wp (mLst true g env st) Q :=
  w_bind (w_mono h fun l s ⟨h1, h2⟩ => by rw [if_pos h1]; exact h2)
theorem w_noP {QO : Option Int → Sto → Prop} (q : QO none st) : wp (mNoP env st) QO := q
theorem w_part {QO : Option Int → Sto → Prop} (h : wp (fa env st) fun a s => ∃ i, a = .int i ∧ QO (some i) s) : wp (mPart fa env st) QO :=
  w_bind (w_mono h fun a s ⟨d, e, q⟩ => by rw [e]; exact q)
theorem w_slice {c : Bool} {fl fh : EM (Option Int)} (h : wp (fa env st) fun a s1 => wp (fl env s1) fun l s2 => wp (fh env s2) fun u s3 => wp (lift (oSl c a l u s3)) Q) : wp (mSlice c fa fl fh env st) Q :=
  w_bind (w_mono h fun _ _ h => w_bind (w_mono h fun _ _ h => w_bind h))
theorem w_isN {neg : Bool} (h : wp (fa env st) fun a s1 => Q (.bl (match a with
  | .non => !neg
  | _ => neg)) s1) : wp (mIsN neg fa env st) Q := w_bind h
theorem w_meth {T : String} {op : OM} (h : wp (fa env st) fun d s1 => tyM T d s1 = true ∧ wp (g env s1) fun ds s2 => wp (lift (op d ds s2)) Q) : wp (mMeth T op fa g env st) Q :=
  w_bind (w_mono h fun a s ⟨e, k⟩ => by rw [if_pos e]; exact w_bind k)
theorem w_callN {ar : Nat} {cf : List D → Sto → Res D} (h : wp (g env st) fun ds s1 => ds.length = ar ∧ wp (cf ds s1) Q) : wp (mCallN ar cf g env st) Q :=
  w_bind (w_mono h fun a s ⟨e, k⟩ => by rw [if_pos e]; exact k)
theorem w_callK {ar : Nat} {perm : List Nat} {cf : List D → Sto → Res D} (h : wp (g env st) fun ds s1 => ∃ es, perm.filterMap (ds[·]?) = es ∧ ds.length = ar ∧ es.length = ar ∧ wp (cf es s1) Q) : wp (mCallK ar perm cf g env st) Q :=
  w_bind (w_mono h fun a s ⟨es, e, e1, e2, k⟩ => by
    subst e
    rw [if_pos ⟨e1, e2⟩]
    exact k)
theorem w_fld {cs : List Nat} {a : Nat} (h : wp (fa env st) fun d s1 => ∃ x, fldD s1 cs a d = some x ∧ Q x s1) : wp (mFld cs a fa env st) Q :=
  w_bind (w_mono h fun d s ⟨x, e, k⟩ => by rw [e]; exact k)
theorem w_iSeq {QI : IterD → Sto → Prop} (h : wp (fa env st) fun d s1 => ∃ it, iterOf s1 d = some it ∧ QI it s1) : wp (iSeq fa env st) QI :=
  w_bind (w_mono h fun d s ⟨x, e, k⟩ => by rw [e]; exact k)
theorem w_iRg1 {QI : IterD → Sto → Prop} (h : wp (fa env st) fun d s1 => ∃ n : Nat, d = .int n ∧ n < 1000000 ∧ QI (rngD 0 n) s1) : wp (iRg1 fa env st) QI :=
  w_bind (w_mono h fun d s ⟨n, e, k, q⟩ => by
    have : small62 (n : Int) = true := by
      unfold small62
      rw [decide_eq_true_eq]
      omega
    subst e
    simp only [this, if_true, Int.toNat_natCast]
    exact q)
end
/-- ends of a suite: on, returned, a turn ended, a loop ended -/
def wo (o : Out) (N : En → Sto → Prop) (R : D → Sto → Prop) (C B : En → Sto → Prop) : Prop := match o with
  | .nx e s => N e s
  | .rt d s => R d s
  | .ct e s => C e s
  | .bk e s => B e s
  | _ => False
theorem o_mono {o : Out} {N N' : En → Sto → Prop} {R R' : D → Sto → Prop} {C C' B B' : En → Sto → Prop} (h : wo o N R C B) (hN : ∀ e s, N e s → N' e s) (hR : ∀ d s, R d s → R' d s) (hC : ∀ e s, C e s → C' e s) (hB : ∀ e s, B e s → B' e s) : wo o N' R' C' B' := by
  cases o with
  | nx e s => exact hN _ _ h
  | rt e s => exact hR _ _ h
  | ct e s => exact hC _ _ h
  | bk e s => exact hB _ _ h
  | _ => exact h
section
variable {env : En} {st : Sto} {fa fb fc : EM D} {ta tb : EM Bool} {f g : SM} {N : En → Sto → Prop} {R : D → Sto → Prop} {C B : En → Sto → Prop}
theorem o_toS {α : Type} {r : Res α} {k : α → Sto → Out} (h : wp r fun a s => wo (k a s) N R C B) : wo (r.toS env k) N R C B := by
  cases r with
  | ok a s => exact h
  | _ => exact h.elim
theorem o_seq (h : wo (f env st) (fun e s => wo (g e s) N R C B) R C B) : wo (sSeq f g env st) N R C B := by
  unfold sSeq
  cases q : f env st with
  | nx e s => rw [q] at h; exact h
  | rt e s => rw [q] at h; exact h
  | ct e s => rw [q] at h; exact h
  | bk e s => rw [q] at h; exact h
  | _ => rw [q] at h; exact h.elim
theorem o_set {i : Nat} (h : wp (fa env st) fun d s => N (env.set i (some d)) s) : wo (sSet i fa env st) N R C B := o_toS h
theorem o_if (h : wp (ta env st) fun b s => (b = true → wo (f env s) N R C B) ∧ (b = false → wo (g env s) N R C B)) : wo (sIf ta f g env st) N R C B :=
  o_toS (w_mono h fun b s k => by
    cases b with
    | true => exact k.1 rfl
    | false => exact k.2 rfl)
theorem o_nil (h : N env st) : wo (sNil env st) N R C B := h
theorem o_expr (h : wp (fa env st) fun _ s => N env s) : wo (sExpr fa env st) N R C B := o_toS h
theorem o_ret (h : wp (fa env st) R) : wo (sRet fa env st) N R C B := o_toS h
theorem o_retN (h : R .non st) : wo (sRetN env st) N R C B := h
theorem o_brk (h : B env st) : wo (sBrk env st) N R C B := h
theorem o_cont (h : C env st) : wo (sCont env st) N R C B := h
theorem o_asg {gm : GM} (h : wp (fa env st) fun d s => ∃ e1 s1, gm d env s = some (e1, s1) ∧ N e1 s1) : wo (sAsg gm fa env st) N R C B :=
  o_toS (w_mono h fun d s ⟨e1, s1, e, k⟩ => by
    rw [e]
    exact k)
theorem o_for {fi : EM IterD} {gm : GM} (h : wp (fi env st) fun it s => ∃ I : Nat → En → Sto → Prop, I 0 env s ∧ (∀ j e s, I j e s → lockB it.lock s = true) ∧
    (∀ j x, it.items[j]? = some x → ∀ e s, I j e s → ∃ e1 s1, gm x e s = some (e1, s1) ∧ wo (f e1 s1) (I (j + 1)) R (I (j + 1)) N) ∧ ∀ e s, I it.items.length e s → N e s) : wo (sFor fi gm f env st) N R C B := by
  refine o_toS (w_mono h fun it s ⟨I, h0, hl, hs, hn⟩ => ?_)
  have go : ∀ (items : List D) (j : Nat) (env : En) (s : Sto), I j env s → j + items.length = it.items.length → (∀ i x, items[i]? = some x → it.items[j + i]? = some x) → wo (forL it.lock gm f items env s) N R C B := by
    intro items
    induction items with
    | nil =>
      intro j env s h0 hj _
      unfold forL
      rw [if_pos (hl j env s h0)]
      refine hn _ _ ?_
      rw [← hj]
      exact h0
    | cons x xs ih =>
      intro j env s h0 hj hx
      obtain ⟨e1, s1, q1, q2⟩ := hs j x (by simpa using hx 0 x rfl) env s h0
      unfold forL
      rw [if_pos (hl j env s h0), q1]
      have nxt : ∀ e2 s2, I (j + 1) e2 s2 → wo (forL it.lock gm f xs e2 s2) N R C B := fun e2 s2 hi => ih (j + 1) e2 s2 hi (by rw [List.length_cons] at hj; omega) fun i y hy => by
        have := hx (i + 1) y (by simpa using hy)
        rw [show j + 1 + i = j + (i + 1) by omega]
        exact this
      show wo (match f e1 s1 with
        | .nx env2 st2 => forL it.lock gm f xs env2 st2
        | .ct env2 st2 => forL it.lock gm f xs env2 st2
        | .bk env2 st2 => .nx env2 st2
        | o => o) N R C B
      cases q : f e1 s1 with
      | nx e s => rw [q] at q2; exact nxt e s q2
      | ct e s => rw [q] at q2; exact nxt e s q2
      | bk e s => rw [q] at q2; exact q2
      | rt d s => rw [q] at q2; exact q2
      | _ => rw [q] at q2; exact q2.elim
  exact go it.items 0 env s h0 (by omega) (fun i x hx => by rw [Nat.zero_add]; exact hx)
end
/-- a def's end -/
def fin (st : Sto) (Q : D → Sto → Prop) (d : D) (s : Sto) : Prop := ∃ e, frz s st.length 5 d = some e ∧ popB st s = true ∧ Q e (s.take st.length)
theorem w_run {n : Nat} {f : SM} {ds : List D} {st : Sto} {Q : D → Sto → Prop} (h : wo (f (ds.map some ++ List.replicate (n - ds.length) none) st) (fun _ s => fin st Q .non s) (fin st Q) (fun _ _ => False) (fun _ _ => False)) : wp (runF false n f ds st) Q := by
  unfold runF
  cases q : f (ds.map some ++ List.replicate (n - ds.length) none) st with
  | nx e s =>
    rw [q] at h
    obtain ⟨e, h1, h2, h3⟩ := h
    unfold bodyR popR
    simp only [h1, h2, Bool.false_eq_true, if_false, if_true]
    exact h3
  | rt d s =>
    rw [q] at h
    obtain ⟨e, h1, h2, h3⟩ := h
    unfold bodyR popR
    simp only [h1, h2, Bool.false_eq_true, if_false, if_true]
    exact h3
  | _ => rw [q] at h; exact h.elim
/-- a def's end with plain data -/
theorem fin_pl {st s : Sto} {Q : D → Sto → Prop} {d : D} (p : pl d = true) (b : popB st s = true) (q : Q d (s.take st.length)) : fin st Q d s := ⟨d, frz_pl _ _ p _, b, q⟩
theorem fin_same {st : Sto} {Q : D → Sto → Prop} {d : D} (p : pl d = true) (q : Q d st) : fin st Q d st := fin_pl p (popB_refl st) (by rw [List.take_of_length_le (Nat.le_refl _)]; exact q)
/-- a comprehension, its cell on top of a state that goes on -/
theorem w_comp {fi : EM IterD} {vs : List Nat} {t : Tgt} {ft : EM Bool} {fe : EM D} {env : En} {st : Sto} {Q : D → Sto → Prop} (h : wp (fi env st) fun it s1 => ∃ I : Nat → List D → Sto → Prop, it.items.length < LIM ∧ I 0 [] s1 ∧
    (∀ j acc s, I j acc s → acc.length ≤ j ∧ s.length = s1.length ∧ lockB it.lock (s ++ [.lst acc]) = true) ∧
    (∀ j x, it.items[j]? = some x → ∀ acc s, I j acc s → ∃ e1, tgtD t x (wipeE env vs) = some e1 ∧ wp (ft e1 (s ++ [.lst acc])) fun c s2 =>
      (c = true → wp (fe e1 s2) fun d s3 => ∃ s4, s3 = s4 ++ [.lst acc] ∧ I (j + 1) (acc ++ [d]) s4) ∧ (c = false → ∃ s4, s2 = s4 ++ [.lst acc] ∧ I (j + 1) acc s4)) ∧
    ∀ acc s, I it.items.length acc s → plL acc = true ∧ popB s1 s = true ∧ Q (.lst acc) s) : wp (mComp false fi vs t ft fe env st) Q := by
  unfold mComp
  refine w_bind (w_mono h fun it s1 ⟨I, hlim, h0, hl, hs, hn⟩ => ?_)
  have hget : ∀ (s : Sto) (acc : List D), s.length = s1.length → (s ++ [Cell.lst acc])[s1.length]? = some (.lst acc) := fun s acc e => by
    rw [← e]
    simp
  have hset : ∀ (s : Sto) (acc b : List D), s.length = s1.length → (s ++ [Cell.lst acc]).set s1.length (.lst b) = s ++ [.lst b] := fun s acc b e => by
    rw [← e]
    simp
  have go : ∀ (items : List D) (j : Nat) (acc : List D) (s : Sto), I j acc s → j + items.length = it.items.length → (∀ i x, items[i]? = some x → it.items[j + i]? = some x) →
      ∃ acc' s', compL it.lock vs t ft fe env s1.length items (s ++ [.lst acc]) = .ok (.ref s1.length) (s' ++ [.lst acc']) ∧ I it.items.length acc' s' := by
    intro items
    induction items with
    | nil =>
      intro j acc s h0 hj _
      refine ⟨acc, s, ?_, by rw [← hj]; exact h0⟩
      unfold compL
      rw [if_pos (hl j acc s h0).2.2]
    | cons x xs ih =>
      intro j acc s h0 hj hx
      obtain ⟨l1, l2, l3⟩ := hl j acc s h0
      obtain ⟨e1, q1, q2⟩ := hs j x (by simpa using hx 0 x rfl) acc s h0
      obtain ⟨c, s2, c1, c2, c3⟩ := w_out q2
      have hlen : acc.length < LIM := by
        rw [List.length_cons] at hj
        omega
      have nxt : ∀ acc2 s4, I (j + 1) acc2 s4 → ∃ acc' s', compL it.lock vs t ft fe env s1.length xs (s4 ++ [.lst acc2]) = .ok (.ref s1.length) (s' ++ [.lst acc']) ∧ I it.items.length acc' s' := fun acc2 s4 hi => ih (j + 1) acc2 s4 hi (by rw [List.length_cons] at hj; omega) fun i y hy => by
        have := hx (i + 1) y (by simpa using hy)
        rw [show j + 1 + i = j + (i + 1) by omega]
        exact this
      unfold compL
      rw [if_pos l3, q1]
      simp only [c1]
      cases c with
      | true =>
        obtain ⟨d, s3, d1, s4, d2, d3⟩ := w_out (c2 rfl)
        subst d2
        have l4 := (hl _ _ _ d3).2.1
        simp only [d1, hget s4 acc l4, hlen, if_true, hset s4 acc _ l4]
        exact nxt _ _ d3
      | false =>
        obtain ⟨s4, d2, d3⟩ := c3 rfl
        subst d2
        exact nxt _ _ d3
  obtain ⟨acc, s, e, hi⟩ := go it.items 0 [] s1 h0 (by omega) (fun i x hx => by rw [Nat.zero_add]; exact hx)
  obtain ⟨p1, p2, p3⟩ := hn acc s hi
  have l4 := (hl _ _ _ hi).2.1
  rw [e]
  have hf : frz (s ++ [Cell.lst acc]) s1.length 5 (.ref s1.length) = some (.lst acc) := by
    unfold frz frzG
    simp only [Nat.lt_irrefl, if_false, hget s acc l4]
    rw [frzL_pl _ _ p1]
  have hp : popB s1 (s ++ [Cell.lst acc]) = true := by
    unfold popB at p2 ⊢
    rw [List.all_eq_true] at p2 ⊢
    intro k hk
    have := p2 k hk
    have hk := List.mem_range.mp hk
    rw [List.getElem?_append_left (by omega)]
    exact this
  unfold popR
  simp only [Bool.false_eq_true, if_false, hf, hp, if_true]
  have : (s ++ [Cell.lst acc]).take s1.length = s := by
    rw [← l4]
    simp
  rw [this]
  exact p3
theorem ex_bl {b : Bool} {P : Bool → Prop} (q : P b) : ∃ b', D.bl b = .bl b' ∧ P b' := ⟨b, rfl, q⟩
theorem ex_int {b : Int} {P : Int → Prop} (q : P b) : ∃ b', D.int b = .int b' ∧ P b' := ⟨b, rfl, q⟩
/-! ### what operators give -/
section
variable {st : Sto} {Q : D → Sto → Prop} {i j : Int} {ds : List D} {d : D} {k : Nat}
theorem w_add (q : Q (.int (i + j)) st) : wp (lift (oAdd false (.int i) (.int j) st)) Q := q
theorem w_sub (q : Q (.int (i - j)) st) : wp (lift (oSub (.int i) (.int j) st)) Q := q
theorem w_mod (h : 0 < j) (q : Q (.int (i % j)) st) : wp (lift (oMod (.int i) (.int j) st)) Q := by
  refine w_lift (d := .int (i % j)) (s := st) ?_ q
  unfold oMod pu
  simp only [if_pos h]
theorem w_gt (q : Q (.bl (decide (j < i))) st) : wp (lift (oGt (.int i) (.int j) st)) Q := q
theorem w_lt (q : Q (.bl (decide (i < j))) st) : wp (lift (oLt (.int i) (.int j) st)) Q := q
theorem w_ge (q : Q (.bl (decide (j ≤ i))) st) : wp (lift (oGe (.int i) (.int j) st)) Q := q
theorem w_le (q : Q (.bl (decide (i ≤ j))) st) : wp (lift (oLe (.int i) (.int j) st)) Q := q
theorem w_eqI (q : Q (.bl (decide (i = j))) st) : wp (lift (oEq false (.int i) (.int j) st)) Q := q
theorem w_neI (q : Q (.bl (!decide (i = j))) st) : wp (lift (oEq true (.int i) (.int j) st)) Q := q
theorem w_eqS {x y : Str} (q : Q (.bl (decide (x = y))) st) : wp (lift (oEq false (.str x) (.str y) st)) Q := q
theorem w_neS {x y : Str} (q : Q (.bl (!decide (x = y))) st) : wp (lift (oEq true (.str x) (.str y) st)) Q := q
theorem w_ixT (h : L2.atI ds i = some d) (q : Q d st) : wp (lift (oIx (.tup ds) (.int i) st)) Q := by
  refine w_lift (d := d) (s := st) ?_ q
  unfold oIx
  simp only [h]
theorem w_ixL (h : L2.atI ds i = some d) (q : Q d st) : wp (lift (oIx (.lst ds) (.int i) st)) Q := by
  refine w_lift (d := d) (s := st) ?_ q
  unfold oIx seqR
  simp only [seqW, h]
theorem w_ixR (hk : st[k]? = some (.lst ds)) (h : L2.atI ds i = some d) (q : Q d st) : wp (lift (oIx (.ref k) (.int i) st)) Q := by
  refine w_lift (d := d) (s := st) ?_ q
  unfold oIx seqR
  simp only [seqW, hk, h]
theorem w_lenT (q : Q (.int ds.length) st) : wp (lift (oLen (.tup ds) st)) Q := q
theorem w_lenL (q : Q (.int ds.length) st) : wp (lift (oLen (.lst ds) st)) Q := q
theorem w_lenR (hk : st[k]? = some (.lst ds)) (q : Q (.int ds.length) st) : wp (lift (oLen (.ref k) st)) Q := by
  refine w_lift (d := .int ds.length) (s := st) ?_ q
  unfold oLen seqR
  simp only [seqW, hk]
theorem w_intI (q : Q (.int i) st) : wp (lift (oInt (.int i) st)) Q := q
theorem w_intB {b : Bool} (q : Q (.int (if b then 1 else 0)) st) : wp (lift (oInt (.bl b) st)) Q := q
theorem w_tupT (q : Q (.tup ds) st) : wp (lift (oTuple (.tup ds) st)) Q := q
theorem w_tupL (q : Q (.tup ds) st) : wp (lift (oTuple (.lst ds) st)) Q := q
theorem w_tupR (hk : st[k]? = some (.lst ds)) (q : Q (.tup ds) st) : wp (lift (oTuple (.ref k) st)) Q := by
  refine w_lift (d := .tup ds) (s := st) ?_ q
  unfold oTuple seqR
  simp only [seqW, hk]
theorem w_addL {es : List D} (h : ds.length + es.length ≤ LIM) (q : Q (.lst (ds ++ es)) st) : wp (lift (oAdd false (.lst ds) (.lst es) st)) Q := by
  refine w_lift (d := .lst (ds ++ es)) (s := st) ?_ q
  unfold oAdd
  simp only [seqW, if_pos h]
  rfl
theorem w_addT {es : List D} (h : ds.length + es.length ≤ LIM) (q : Q (.tup (ds ++ es)) st) : wp (lift (oAdd false (.tup ds) (.tup es) st)) Q := by
  refine w_lift (d := .tup (ds ++ es)) (s := st) ?_ q
  unfold oAdd
  simp only [if_pos h]
theorem w_slT {lo hi : Option Int} (q : Q (.tup (cutD ds lo hi)) st) : wp (lift (oSl false (.tup ds) lo hi st)) Q := q
theorem w_slL {lo hi : Option Int} (q : Q (.lst (cutD ds lo hi)) st) : wp (lift (oSl false (.lst ds) lo hi st)) Q := q
theorem w_app {x : D} (hk : st[k]? = some (.lst ds)) (hl : ds.length < LIM) (q : Q .non (st.set k (.lst (ds ++ [x])))) : wp (lift (oAppend (.ref k) [x] st)) Q := by
  refine w_lift (d := .non) (s := st.set k (.lst (ds ++ [x]))) ?_ q
  unfold oAppend onCell
  simp only [hk, if_pos hl]
theorem w_pow (h0 : 0 ≤ j) (h1 : j ≤ 1000000) (h2 : i.natAbs < 2 ^ 64) (q : Q (.int (i ^ j.toNat)) st) : wp (lift (oPow (.int i) (.int j) st)) Q := by
  refine w_lift (d := .int (i ^ j.toNat)) (s := st) ?_ q
  unfold oPow pu
  simp only [h0, h1, h2, and_self, if_true]
theorem x_lenT {d : D} (e : d = .tup ds) (q : Q (.int ds.length) st) : wp (lift (oLen d st)) Q := by
  subst e
  exact q
theorem x_lenL {d : D} (e : d = .lst ds) (q : Q (.int ds.length) st) : wp (lift (oLen d st)) Q := by
  subst e
  exact q
theorem x_ixT {d x : D} (e : x = .tup ds) (h : L2.atI ds i = some d) (q : Q d st) : wp (lift (oIx x (.int i) st)) Q := by
  subst e
  exact w_ixT h q
theorem x_ixL {d x : D} (e : x = .lst ds) (h : L2.atI ds i = some d) (q : Q d st) : wp (lift (oIx x (.int i) st)) Q := by
  subst e
  exact w_ixL h q
theorem ex_neg {P : D → Prop} (q : P (.int (-i))) : ∃ d, oNeg (.int i) = some d ∧ P d := ⟨_, rfl, q⟩
end
end Cw

namespace K
open PySem L2 PyProof.Rows Cw
def top (i : Nat) : Stmt := PySem.Challenge.pw_cutweave_k04_possible_deeds.main.body.getD i (.Pass ⟨0, 0, 0, 0⟩)
abbrev s_is_whole : Stmt := (top 13)
abbrev s_is_below : Stmt := (top 14)
abbrev s_is_name : Stmt := (top 15)
abbrev s_is_process : Stmt := (top 16)
abbrev s_is_channel : Stmt := (top 17)
abbrev s_is_act : Stmt := (top 18)
abbrev s_is_rule : Stmt := (top 19)
abbrev s__frozen : Stmt := (top 20)
abbrev s__rows : Stmt := (top 21)
abbrev s_Net_init : Stmt := (inClass (top 22) 0)
abbrev s_start : Stmt := (top 24)
abbrev s_is_lossy : Stmt := (top 25)
abbrev s_is_ordered : Stmt := (top 26)
abbrev s_as_deed : Stmt := (top 27)
abbrev s_open_messages_of : Stmt := (top 28)
abbrev s_can_do : Stmt := (top 29)
abbrev s_possible : Stmt := (top 30)
abbrev s__with_part : Stmt := (top 31)
abbrev s__without_message : Stmt := (top 32)
abbrev s_behind : Stmt := (top 33)
abbrev s_done : Stmt := (top 34)
abbrev s__law_mix : Stmt := (top 36)
abbrev s__law_box : Stmt := (top 37)
abbrev s__law_draw : Stmt := (top 38)
abbrev s__law_alike : Stmt := (top 39)
abbrev s__law_names : Stmt := (top 40)
abbrev s__law_channels : Stmt := (top 41)
abbrev s__law_rule : Stmt := (top 42)
abbrev s__law_net : Stmt := (top 43)
abbrev s__law_start : Stmt := (top 44)
abbrev s__law_takes : Stmt := (top 45)
abbrev s__law_possible : Stmt := (top 46)
abbrev s__law_with : Stmt := (top 47)
abbrev s__law_done : Stmt := (top 48)
abbrev s__law_step : Stmt := (top 49)
abbrev s__law_lively : Stmt := (top 50)
abbrev s__law_listed : Stmt := (top 51)
abbrev s__law_walked : Stmt := (top 52)
abbrev s_law : Stmt := (top 53)
abbrev g_KINDS : List D := [.str ("order" : Str), .str ("loose" : Str), .str ("order lossy" : Str), .str ("loose lossy" : Str)]
abbrev cls_all : List Nat := [100]
abbrev attrs_all : List Str := [("at" : Str), ("word" : Str), ("name" : Str), ("processes" : Str), ("channels" : Str), ("rules" : Str), ("net" : Str), ("rows" : Str), ("run" : Str), ("whole" : Str), ("sent" : Str), ("ended" : Str), ("token" : Str), ("lost" : Str), ("clocks" : Str), ("world" : Str), ("deeds" : Str), ("counts" : Str), ("records" : Str), ("tokens" : Str), ("going" : Str), ("things" : Str), ("arrived" : Str), ("taken" : Str), ("begun" : Str), ("snapshots" : Str), ("pairs" : Str), ("bears" : Str), ("awaited" : Str), ("text" : Str), ("claim" : Str), ("place" : Str), ("number" : Str), ("sign" : Str), ("simple" : Str), ("told" : Str), ("empty" : Str), ("states" : Str), ("sends" : Str), ("gone" : Str), ("levels" : Str), ("steps" : Str), ("story" : Str), ("happenings" : Str), ("checkpoints" : Str), ("lines" : Str), ("cuts" : Str)]
def mb_is_whole : SM := (sRet (mAnd (m1 (oIsi "int") (mVar 0)) (mNot (m1 (oIsi "bool") (mVar 0)))))
def m_is_whole : List D → Sto → Res D := runF false 1 mb_is_whole
def mb_is_below : SM := (sRet (mAnd (mCallN 1 m_is_whole (mCons (mVar 0) mNil)) (mChain oLe oLt (mC (.int 0)) (mVar 0) (mVar 1))))
def m_is_below : List D → Sto → Res D := runF false 2 mb_is_below
def mb_is_name : SM := (sSeq (sIf (mOrT (mNotT (mT (m1 (oIsi "str") (mVar 0)))) (mNotT (mT (mChain oLe oLe (mC (.int 1)) (m1 oLen (mVar 0)) (mC (.int 6))))))
    (sRet (mC (.bl false)))
    sNil)
    (sRet (m1 oAll (mComp false (iSeq (mVar 0)) [1] (.nm 1) mYes (mBin (oIn false) (mVar 1) (mC (.str ("abcdefghijklmnopqrstuvwxyz" : Str))))))))
def m_is_name : List D → Sto → Res D := runF false 2 mb_is_name
def mb_is_process : SM := (sSeq (sIf (mOrT (mT (mBin (oEq true) (m1 oLen (mVar 0)) (mC (.int 2)))) (mOrT (mNotT (mT (mCallN 1 m_is_name (mCons (mBin oIx (mVar 0) (mC (.int 0))) mNil)))) (mNotT (mT (mCallN 1 m_is_whole (mCons (mBin oIx (mVar 0) (mC (.int 1))) mNil))))))
    (sRet (mC (.bl false)))
    sNil)
    (sRet (mAnd (mChain oLe oLe (mC (.int 1)) (mBin oIx (mVar 0) (mC (.int 1))) (mC (.int 8))) (mBin (oIn true) (mSlice false (mVar 0) mNoP (mPart (mC (.int 1)))) (mComp false (iSeq (mVar 1)) [2] (.nm 2) mYes (mSlice false (mVar 2) mNoP (mPart (mC (.int 1)))))))))
def m_is_process : List D → Sto → Res D := runF false 3 mb_is_process
def mb_is_channel : SM := (sSeq (sIf (mOrT (mT (mBin (oEq true) (m1 oLen (mVar 0)) (mC (.int 4)))) (mOrT (mNotT (mT (mCallN 1 m_is_name (mCons (mBin oIx (mVar 0) (mC (.int 0))) mNil)))) (mT (mBin (oIn false) (mSlice false (mVar 0) mNoP (mPart (mC (.int 1)))) (mComp false (iSeq (mVar 2)) [3] (.nm 3) mYes (mSlice false (mVar 3) mNoP (mPart (mC (.int 1)))))))))
    (sRet (mC (.bl false)))
    sNil)
    (sSeq (sIf (mOrT (mNotT (mT (mCallN 2 m_is_below (mCons (mBin oIx (mVar 0) (mC (.int 1))) (mCons (m1 oLen (mVar 1)) mNil))))) (mOrT (mNotT (mT (mCallN 2 m_is_below (mCons (mBin oIx (mVar 0) (mC (.int 2))) (mCons (m1 oLen (mVar 1)) mNil))))) (mT (mBin (oEq false) (mBin oIx (mVar 0) (mC (.int 1))) (mBin oIx (mVar 0) (mC (.int 2)))))))
    (sRet (mC (.bl false)))
    sNil)
    (sRet (mAnd (m1 (oIsi "str") (mBin oIx (mVar 0) (mC (.int 3)))) (mBin (oIn false) (mBin oIx (mVar 0) (mC (.int 3))) (mC (.tup g_KINDS)))))))
def m_is_channel : List D → Sto → Res D := runF false 4 mb_is_channel
def mb_is_act : SM := (sSeq (sIf (mOrT (mNotT (mT (m1 (oIsi "tuple") (mVar 0)))) (mOrT (mT (mBin (oEq false) (m1 oLen (mVar 0)) (mC (.int 0)))) (mNotT (mT (m1 (oIsi "str") (mBin oIx (mVar 0) (mC (.int 0))))))))
    (sRet (mC (.bl false)))
    sNil)
    (sSeq (sIf (mT (mBin (oEq false) (mBin oIx (mVar 0) (mC (.int 0))) (mC (.str ("do" : Str)))))
    (sRet (mBin (oEq false) (m1 oLen (mVar 0)) (mC (.int 1))))
    sNil)
    (sSeq (sIf (mOrT (mT (mBin (oIn true) (mBin oIx (mVar 0) (mC (.int 0))) (mTup (mCons (mC (.str ("send" : Str))) (mCons (mC (.str ("take" : Str))) mNil))))) (mT (mBin (oEq true) (m1 oLen (mVar 0)) (mC (.int 3)))))
    (sRet (mC (.bl false)))
    sNil)
    (sSeq (sIf (mOrT (mNotT (mT (mCallN 2 m_is_below (mCons (mBin oIx (mVar 0) (mC (.int 1))) (mCons (m1 oLen (mVar 2)) mNil))))) (mNotT (mT (mCallN 2 m_is_below (mCons (mBin oIx (mVar 0) (mC (.int 2))) (mCons (mC (.int 10)) mNil))))))
    (sRet (mC (.bl false)))
    sNil)
    (sRet (mBin (oEq false) (mBin oIx (mBin oIx (mVar 2) (mBin oIx (mVar 0) (mC (.int 1)))) (mIf (mT (mBin (oEq false) (mBin oIx (mVar 0) (mC (.int 0))) (mC (.str ("send" : Str))))) (mC (.int 1)) (mC (.int 2)))) (mVar 1)))))))
def m_is_act : List D → Sto → Res D := runF false 3 mb_is_act
def mb_is_rule : SM := (sSeq (sIf (mOrT (mT (mBin (oEq true) (m1 oLen (mVar 0)) (mC (.int 4)))) (mNotT (mT (mCallN 2 m_is_below (mCons (mBin oIx (mVar 0) (mC (.int 0))) (mCons (m1 oLen (mVar 1)) mNil))))))
    (sRet (mC (.bl false)))
    sNil)
    (sSeq (sSet 3 (mBin oIx (mBin oIx (mVar 1) (mBin oIx (mVar 0) (mC (.int 0)))) (mC (.int 1))))
    (sRet (mAnd (mCallN 2 m_is_below (mCons (mBin oIx (mVar 0) (mC (.int 1))) (mCons (mVar 3) mNil))) (mAnd (mCallN 2 m_is_below (mCons (mBin oIx (mVar 0) (mC (.int 3))) (mCons (mVar 3) mNil))) (mCallN 3 m_is_act (mCons (mBin oIx (mVar 0) (mC (.int 2))) (mCons (mBin oIx (mVar 0) (mC (.int 0))) (mCons (mVar 2) mNil)))))))))
def m_is_rule : List D → Sto → Res D := runF false 4 mb_is_rule
def mb__frozen (IHm : List D → Sto → Res D) : SM := (sSeq (sIf (mAndT (mT (mBin oGt (mVar 1) (mC (.int 0)))) (mT (m1 (oIsi2 "list" "tuple") (mVar 0))))
    (sRet (m1 oTuple (mComp false (iSeq (mVar 0)) [2] (.nm 2) mYes (mCallN 2 IHm (mCons (mVar 2) (mCons (mBin oSub (mVar 1) (mC (.int 1))) mNil))))))
    sNil)
    (sRet (mVar 0)))
def m__frozen : Nat → List D → Sto → Res D
  | 0 => fun _ _ => .bad
  | n + 1 => runF false 3 (mb__frozen (m__frozen n))
def mb__rows : SM := (sSeq (sSet 3 (mCallN 2 (m__frozen 8) (mCons (mVar 0) (mCons (mC (.int 3)) mNil))))
    (sSeq (sIf (mOrT (mNotT (mT (m1 (oIsi "tuple") (mVar 3)))) (mNotT (mT (mChain oLe oLe (mVar 1) (m1 oLen (mVar 3)) (mVar 2)))))
    (sRet (mC .non))
    sNil)
    (sRet (mIf (mT (m1 oAll (mComp false (iSeq (mVar 3)) [4] (.nm 4) mYes (m1 (oIsi "tuple") (mVar 4))))) (mVar 3) (mC .non)))))
def m__rows : List D → Sto → Res D := runF false 5 mb__rows
def mb_Net_init : SM := (sSeq (sSet 4 (mCallN 3 m__rows (mCons (mVar 1) (mCons (mC (.int 1)) (mCons (mC (.int 5)) mNil)))))
    (sSeq (sIf (mOrT (mT (mIsN false (mVar 4))) (mNotT (mT (m1 oAll (mComp false (iEn (mVar 4)) [7, 8] (.tp [7, 8]) mYes (mCallN 2 m_is_process (mCons (mVar 8) (mCons (mSlice false (mVar 4) mNoP (mPart (mVar 7))) mNil))))))))
    (sRaise 1 (mC (.int 0)))
    sNil)
    (sSeq (sSet 5 (mCallN 3 m__rows (mCons (mVar 2) (mCons (mC (.int 0)) (mCons (mC (.int 8)) mNil)))))
    (sSeq (sIf (mOrT (mT (mIsN false (mVar 5))) (mNotT (mT (m1 oAll (mComp false (iEn (mVar 5)) [7, 9] (.tp [7, 9]) mYes (mCallN 3 m_is_channel (mCons (mVar 9) (mCons (mVar 4) (mCons (mSlice false (mVar 5) mNoP (mPart (mVar 7))) mNil)))))))))
    (sRaise 1 (mC (.int 1)))
    sNil)
    (sSeq (sSet 6 (mCallN 3 m__rows (mCons (mVar 3) (mCons (mC (.int 0)) (mCons (mC (.int 40)) mNil)))))
    (sSeq (sIf (mOrT (mT (mIsN false (mVar 6))) (mNotT (mT (m1 oAll (mComp false (iSeq (mVar 6)) [10] (.nm 10) mYes (mCallN 3 m_is_rule (mCons (mVar 10) (mCons (mVar 4) (mCons (mVar 5) mNil)))))))))
    (sRaise 1 (mC (.int 2)))
    sNil)
    (sSeq (sFld cls_all 3 (mVar 0) (mVar 4))
    (sSeq (sFld cls_all 4 (mVar 0) (mVar 5))
    (sFld cls_all 5 (mVar 0) (mVar 6))))))))))
def m_Net_init : List D → Sto → Res D := runF false 11 mb_Net_init
def mb_start : SM := (sSeq (sSet 1 (m1 oLen (mFld cls_all 4 (mVar 0))))
    (sRet (mTup (mCons (mBin (oRep false) (mTup (mCons (mC (.int 0)) mNil)) (m1 oLen (mFld cls_all 3 (mVar 0)))) (mCons (mBin (oRep false) (mTup (mCons (mC (.int 0)) mNil)) (mVar 1)) (mCons (mBin (oRep false) (mTup (mCons (mTup mNil) mNil)) (mVar 1)) mNil))))))
def m_start : List D → Sto → Res D := runF false 2 mb_start
def mb_is_lossy : SM := (sRet (mBin (oIn false) (mBin oIx (mBin oIx (mFld cls_all 4 (mVar 0)) (mVar 1)) (mC (.int 3))) (mTup (mCons (mC (.str ("order lossy" : Str))) (mCons (mC (.str ("loose lossy" : Str))) mNil)))))
def m_is_lossy : List D → Sto → Res D := runF false 2 mb_is_lossy
def mb_is_ordered : SM := (sRet (mBin (oIn false) (mBin oIx (mBin oIx (mFld cls_all 4 (mVar 0)) (mVar 1)) (mC (.int 3))) (mTup (mCons (mC (.str ("order" : Str))) (mCons (mC (.str ("order lossy" : Str))) mNil)))))
def m_is_ordered : List D → Sto → Res D := runF false 2 mb_is_ordered
def mb_as_deed : SM := (sSeq (sIf (mOrT (mNotT (mT (m1 (oIsi2 "list" "tuple") (mVar 1)))) (mOrT (mT (mBin oLt (m1 oLen (mVar 1)) (mC (.int 2)))) (mNotT (mT (m1 (oIsi "str") (mBin oIx (mVar 1) (mC (.int 0))))))))
    (sRet (mC .non))
    sNil)
    (sSeq (sIf (mNotT (mT (m1 oAll (mComp false (iSeq (mSlice false (mVar 1) (mPart (mC (.int 1))) mNoP)) [4] (.nm 4) mYes (mAnd (mCallN 1 m_is_whole (mCons (mVar 4) mNil)) (mBin oGe (mVar 4) (mC (.int 0))))))))
    (sRet (mC .non))
    sNil)
    (sSeq (sIf (mT (mBin (oEq false) (mBin oIx (mVar 1) (mC (.int 0))) (mC (.str ("lose" : Str)))))
    (sSeq (sSet 3 (mAnd (mBin (oEq false) (m1 oLen (mVar 1)) (mC (.int 3))) (mAnd (mCallN 2 m_is_below (mCons (mBin oIx (mVar 1) (mC (.int 1))) (mCons (m1 oLen (mFld cls_all 4 (mVar 0))) mNil))) (mCallN 2 m_is_lossy (mCons (mVar 0) (mCons (mBin oIx (mVar 1) (mC (.int 1))) mNil))))))
    (sRet (mIf (mT (mVar 3)) (m1 oTuple (mVar 1)) (mC .non))))
    sNil)
    (sSeq (sIf (mOrT (mT (mBin (oIn true) (mBin oIx (mVar 1) (mC (.int 0))) (mTup (mCons (mC (.str ("act" : Str))) (mCons (mC (.str ("take" : Str))) mNil))))) (mNotT (mT (mCallN 2 m_is_below (mCons (mBin oIx (mVar 1) (mC (.int 1))) (mCons (m1 oLen (mFld cls_all 5 (mVar 0))) mNil))))))
    (sRet (mC .non))
    sNil)
    (sSeq (sSet 2 (mBin (oEq false) (mBin oIx (mBin oIx (mBin oIx (mFld cls_all 5 (mVar 0)) (mBin oIx (mVar 1) (mC (.int 1)))) (mC (.int 2))) (mC (.int 0))) (mC (.str ("take" : Str)))))
    (sSeq (sSet 3 (mAnd (mBin (oEq false) (mVar 2) (mBin (oEq false) (mBin oIx (mVar 1) (mC (.int 0))) (mC (.str ("take" : Str))))) (mBin (oEq false) (m1 oLen (mVar 1)) (mIf (mT (mVar 2)) (mC (.int 3)) (mC (.int 2))))))
    (sRet (mIf (mT (mVar 3)) (m1 oTuple (mVar 1)) (mC .non)))))))))
def m_as_deed : List D → Sto → Res D := runF false 5 mb_as_deed
def mb_open_messages_of : SM := (sSeq (sSet 3 (m1 oTuple (mComp false (iSeq (mBin oIx (mBin oIx (mVar 1) (mC (.int 2))) (mVar 2))) [4] (.nm 4) mYes (m1 oTuple (mVar 4)))))
    (sRet (mIf (mT (mCallN 2 m_is_ordered (mCons (mVar 0) (mCons (mVar 2) mNil)))) (mSlice false (mVar 3) mNoP (mPart (mC (.int 1)))) (mVar 3))))
def m_open_messages_of : List D → Sto → Res D := runF false 5 mb_open_messages_of
def mb_can_do : SM := (sSeq (sIf (mT (mBin (oEq false) (mBin oIx (mVar 2) (mC (.int 0))) (mC (.str ("lose" : Str)))))
    (sRet (mBin (oIn false) (mBin oIx (mVar 2) (mC (.int 2))) (mComp false (iSeq (mCallN 3 m_open_messages_of (mCons (mVar 0) (mCons (mVar 1) (mCons (mBin oIx (mVar 2) (mC (.int 1))) mNil))))) [7, 6] (.tp [7, 6]) mYes (mVar 7))))
    sNil)
    (sSeq (sAsg (gT 4 (gsCons (gN 3) (gsCons (gN 4) (gsCons (gN 5) (gsCons (gN 6) gsNil))))) (mBin oIx (mFld cls_all 5 (mVar 0)) (mBin oIx (mVar 2) (mC (.int 1)))))
    (sSeq (sIf (mT (mBin (oEq true) (mBin oIx (mBin oIx (mVar 1) (mC (.int 0))) (mVar 3)) (mVar 4)))
    (sRet (mC (.bl false)))
    sNil)
    (sRet (mOr (mBin (oEq false) (mBin oIx (mVar 2) (mC (.int 0))) (mC (.str ("act" : Str)))) (mBin (oIn false) (mTup (mCons (mBin oIx (mVar 2) (mC (.int 2))) (mCons (mBin oIx (mVar 5) (mC (.int 2))) mNil))) (mCallN 3 m_open_messages_of (mCons (mVar 0) (mCons (mVar 1) (mCons (mBin oIx (mVar 5) (mC (.int 1))) mNil))))))))))
def m_can_do : List D → Sto → Res D := runF false 8 mb_can_do
def mb_possible : SM := (sSeq (sSet 2 (mLst true mNil))
    (sSeq (sFor (iEn (mFld cls_all 5 (mVar 0))) (gT 2 (gsCons (gN 3) (gsCons (gN 4) gsNil)))
    (sIf (mAndT (mT (mBin (oEq false) (mBin oIx (mBin oIx (mVar 1) (mC (.int 0))) (mBin oIx (mVar 4) (mC (.int 0)))) (mBin oIx (mVar 4) (mC (.int 1))))) (mT (mBin (oEq true) (mBin oIx (mBin oIx (mVar 4) (mC (.int 2))) (mC (.int 0))) (mC (.str ("take" : Str))))))
    (sExpr (mMeth "list" oAppend (mVar 2) (mCons (mTup (mCons (mC (.str ("act" : Str))) (mCons (mVar 3) mNil))) mNil)))
    (sIf (mT (mBin (oEq false) (mBin oIx (mBin oIx (mVar 1) (mC (.int 0))) (mBin oIx (mVar 4) (mC (.int 0)))) (mBin oIx (mVar 4) (mC (.int 1)))))
    (sSeq (sSet 6 (mCallN 3 m_open_messages_of (mCons (mVar 0) (mCons (mVar 1) (mCons (mBin oIx (mBin oIx (mVar 4) (mC (.int 2))) (mC (.int 1))) mNil)))))
    (sExpr (mMeth "list" oExtend (mVar 2) (mCons (mComp false (iSeq (mVar 6)) [7, 9] (.tp [7, 9]) (mT (mBin (oEq false) (mVar 9) (mBin oIx (mBin oIx (mVar 4) (mC (.int 2))) (mC (.int 2))))) (mTup (mCons (mC (.str ("take" : Str))) (mCons (mVar 3) (mCons (mVar 7) mNil))))) mNil))))
    sNil)))
    (sSeq (sFor (iRg1 (m1 oLen (mFld cls_all 4 (mVar 0)))) (gN 5)
    (sIf (mT (mCallN 2 m_is_lossy (mCons (mVar 0) (mCons (mVar 5) mNil))))
    (sExpr (mMeth "list" oExtend (mVar 2) (mCons (mComp false (iSeq (mCallN 3 m_open_messages_of (mCons (mVar 0) (mCons (mVar 1) (mCons (mVar 5) mNil))))) [7, 8] (.tp [7, 8]) mYes (mTup (mCons (mC (.str ("lose" : Str))) (mCons (mVar 5) (mCons (mVar 7) mNil))))) mNil)))
    sNil))
    (sRet (m1 oTuple (mVar 2))))))
def m_possible : List D → Sto → Res D := runF false 10 mb_possible
def mb__with_part : SM := (sRet (mBin (oAdd false) (mBin (oAdd false) (m1 oTuple (mSlice false (mVar 0) mNoP (mPart (mVar 1)))) (mTup (mCons (mVar 2) mNil))) (m1 oTuple (mSlice false (mVar 0) (mPart (mBin (oAdd false) (mVar 1) (mC (.int 1)))) mNoP))))
def m__with_part : List D → Sto → Res D := runF false 3 mb__with_part
def mb__without_message : SM := (sSeq (sSet 3 (m1 oTuple (mComp false (iSeq (mBin oIx (mVar 0) (mVar 1))) [4] (.nm 4) (mT (mBin (oEq true) (mBin oIx (mVar 4) (mC (.int 0))) (mVar 2))) (m1 oTuple (mVar 4)))))
    (sRet (mCallN 3 m__with_part (mCons (mVar 0) (mCons (mVar 1) (mCons (mVar 3) mNil))))))
def m__without_message : List D → Sto → Res D := runF false 5 mb__without_message
def mb_behind : SM := (sSeq (sSet 3 (m1 oTuple (mBin oIx (mVar 1) (mC (.int 0)))))
    (sSeq (sSet 4 (m1 oTuple (mBin oIx (mVar 1) (mC (.int 1)))))
    (sSeq (sSet 5 (m1 oTuple (mComp false (iSeq (mBin oIx (mVar 1) (mC (.int 2)))) [11] (.nm 11) mYes (m1 oTuple (mComp false (iSeq (mVar 11)) [12] (.nm 12) mYes (m1 oTuple (mVar 12)))))))
    (sSeq (sIf (mT (mBin (oEq false) (mBin oIx (mVar 2) (mC (.int 0))) (mC (.str ("lose" : Str)))))
    (sRet (mTup (mCons (mVar 3) (mCons (mVar 4) (mCons (mCallN 3 m__without_message (mCons (mVar 5) (mCons (mBin oIx (mVar 2) (mC (.int 1))) (mCons (mBin oIx (mVar 2) (mC (.int 2))) mNil)))) mNil)))))
    sNil)
    (sSeq (sAsg (gT 4 (gsCons (gN 6) (gsCons (gN 7) (gsCons (gN 8) (gsCons (gN 9) gsNil))))) (mBin oIx (mFld cls_all 5 (mVar 0)) (mBin oIx (mVar 2) (mC (.int 1)))))
    (sSeq (sSet 3 (mCallN 3 m__with_part (mCons (mVar 3) (mCons (mVar 6) (mCons (mVar 9) mNil)))))
    (sSeq (sIf (mT (mBin (oEq false) (mBin oIx (mVar 8) (mC (.int 0))) (mC (.str ("take" : Str)))))
    (sRet (mTup (mCons (mVar 3) (mCons (mVar 4) (mCons (mCallN 3 m__without_message (mCons (mVar 5) (mCons (mBin oIx (mVar 8) (mC (.int 1))) (mCons (mBin oIx (mVar 2) (mC (.int 2))) mNil)))) mNil)))))
    sNil)
    (sSeq (sIf (mT (mBin (oEq false) (mBin oIx (mVar 8) (mC (.int 0))) (mC (.str ("send" : Str)))))
    (sSeq (sSet 10 (mBin oIx (mVar 4) (mBin oIx (mVar 8) (mC (.int 1)))))
    (sSeq (sSet 5 (mCallN 3 m__with_part (mCons (mVar 5) (mCons (mBin oIx (mVar 8) (mC (.int 1))) (mCons (mBin (oAdd false) (mBin oIx (mVar 5) (mBin oIx (mVar 8) (mC (.int 1)))) (mTup (mCons (mTup (mCons (mVar 10) (mCons (mBin oIx (mVar 8) (mC (.int 2))) mNil))) mNil))) mNil)))))
    (sSet 4 (mCallN 3 m__with_part (mCons (mVar 4) (mCons (mBin oIx (mVar 8) (mC (.int 1))) (mCons (mBin (oAdd false) (mVar 10) (mC (.int 1))) mNil)))))))
    sNil)
    (sRet (mTup (mCons (mVar 3) (mCons (mVar 4) (mCons (mVar 5) mNil)))))))))))))
def m_behind : List D → Sto → Res D := runF false 13 mb_behind
def mb_done : SM := (sSeq (sSet 3 (mCallN 2 m_as_deed (mCons (mVar 0) (mCons (mVar 2) mNil))))
    (sSeq (sIf (mOrT (mT (mIsN false (mVar 3))) (mNotT (mT (mCallN 3 m_can_do (mCons (mVar 0) (mCons (mVar 1) (mCons (mVar 3) mNil)))))))
    (sRaise 3 (mC (.int 0)))
    sNil)
    (sRet (mCallN 3 m_behind (mCons (mVar 0) (mCons (mVar 1) (mCons (mVar 3) mNil)))))))
def m_done : List D → Sto → Res D := runF false 4 mb_done
def mb__law_mix : SM := (sSeq (sSet 2 (mBin oMod (m1 oInt (mBin (oAdd false) (mBin (oAdd false) (mBin oMulX (mVar 0) (mC (.int 48271))) (mBin oMulX (mVar 1) (mC (.int 69621)))) (mC (.int 12345)))) (mC (.int 2147483647))))
    (sRet (mBin oMod (m1 oInt (mBin (oAdd false) (mBin (oAdd false) (mBin oMulX (mVar 2) (mVar 2)) (mBin oMulX (mVar 2) (mC (.int 16807)))) (mBin oMulX (mVar 1) (mC (.int 7919))))) (mC (.int 2147483629)))))
def m__law_mix : List D → Sto → Res D := runF false 3 mb__law_mix
def mb__law_box : SM := (sRet (mLst true (mCons (mC (.int 0)) (mCons (mC (.int 0)) (mCons (mVar 1) (mCons (mC (.int 0)) (mCons (mVar 1) (mCons (mComp false (iSeq (mVar 0)) [2] (.nm 2) mYes (m1 oInt (mVar 2))) mNil))))))))
def m__law_box : List D → Sto → Res D := runF true 3 mb__law_box
def mb__law_draw : SM := (sSeq (sIf (mAndT (mT (mBin (oEq false) (mBin oIx (mVar 0) (mC (.int 1))) (mC (.int 0)))) (mT (mBin oLt (mBin oIx (mVar 0) (mC (.int 2))) (m1 oLen (mBin oIx (mVar 0) (mC (.int 5)))))))
    (sSeq (sSet 2 (mBin oIx (mBin oIx (mVar 0) (mC (.int 5))) (mBin oIx (mVar 0) (mC (.int 2)))))
    (sSeq (sAsg (gSet (mVar 0) (mC (.int 2))) (mBin (oAdd false) (mBin oIx (mVar 0) (mC (.int 2))) (mC (.int 2))))
    (sSeq (sAsg (gSet (mVar 0) (mC (.int 4))) (mBin oMod (m1 oInt (mBin (oAdd false) (mBin oMulX (mBin oIx (mVar 0) (mC (.int 4))) (mC (.int 31))) (mVar 2))) (mC (.int 2147483647))))
    (sIf (mT (mBin oGe (mVar 2) (mBin oPow (mC (.int 10)) (mC (.int 18)))))
    (sSeq (sAsg (gSet (mVar 0) (mC (.int 0))) (mBin oSub (mVar 2) (mBin oPow (mC (.int 10)) (mC (.int 18)))))
    (sAsg (gSet (mVar 0) (mC (.int 1))) (mC (.int 60))))
    sNil))))
    sNil)
    (sSeq (sIf (mAndT (mT (mBin oGt (mBin oIx (mVar 0) (mC (.int 1))) (mC (.int 0)))) (mT (mBin oGt (mBin oIx (mVar 0) (mC (.int 0))) (mC (.int 0)))))
    (sSeq (sSet 3 (mBin oMod (m1 oInt (mBin oIx (mVar 0) (mC (.int 0)))) (mVar 1)))
    (sSeq (sAsg (gSet (mVar 0) (mC (.int 0))) (mBin oFdiv (mBin oIx (mVar 0) (mC (.int 0))) (mVar 1)))
    (sSeq (sAsg (gSet (mVar 0) (mC (.int 1))) (mBin oSub (mBin oIx (mVar 0) (mC (.int 1))) (mC (.int 1))))
    (sRet (mVar 3)))))
    sNil)
    (sSeq (sAsg (gSet (mVar 0) (mC (.int 1))) (mC (.int 0)))
    (sSeq (sAsg (gSet (mVar 0) (mC (.int 3))) (mBin (oAdd false) (mBin oIx (mVar 0) (mC (.int 3))) (mC (.int 1))))
    (sRet (mBin oMod (m1 oInt (mCallN 2 m__law_mix (mCons (mBin oIx (mVar 0) (mC (.int 4))) (mCons (mBin oIx (mVar 0) (mC (.int 3))) mNil)))) (mVar 1)))))))
def m__law_draw : List D → Sto → Res D := runF false 4 mb__law_draw
def mb__law_alike (IHm : List D → Sto → Res D) : SM := (sSeq (sIf (mT (m1 (oIsi2 "tuple" "list") (mVar 1)))
    (sSeq (sIf (mOrT (mT (mBin (oEq true) (m1 (oIsi "tuple") (mVar 0)) (m1 (oIsi "tuple") (mVar 1)))) (mT (mBin (oEq true) (m1 (oIsi "list") (mVar 0)) (m1 (oIsi "list") (mVar 1)))))
    (sRet (mC (.bl false)))
    sNil)
    (sSeq (sIf (mT (mBin (oEq true) (m1 oLen (mVar 0)) (m1 oLen (mVar 1))))
    (sRet (mC (.bl false)))
    sNil)
    (sSeq (sFor (iRg1 (m1 oLen (mVar 1))) (gN 2)
    (sIf (mNotT (mT (mCallN 2 IHm (mCons (mBin oIx (mVar 0) (mVar 2)) (mCons (mBin oIx (mVar 1) (mVar 2)) mNil)))))
    (sRet (mC (.bl false)))
    sNil))
    (sRet (mC (.bl true))))))
    sNil)
    (sSeq (sIf (mT (mIsN false (mVar 1)))
    (sRet (mIsN false (mVar 0)))
    sNil)
    (sSeq (sIf (mT (m1 (oIsi "bool") (mVar 1)))
    (sRet (mAnd (m1 (oIsi "bool") (mVar 0)) (mBin (oEq false) (mVar 0) (mVar 1))))
    sNil)
    (sSeq (sIf (mT (m1 (oIsi "str") (mVar 1)))
    (sRet (mAnd (m1 (oIsi "str") (mVar 0)) (mBin (oEq false) (mVar 0) (mVar 1))))
    sNil)
    (sRet (mAnd (m1 (oIsi "int") (mVar 0)) (mAnd (mNot (m1 (oIsi "bool") (mVar 0))) (mBin (oEq false) (mVar 0) (mVar 1)))))))))
def m__law_alike : Nat → List D → Sto → Res D
  | 0 => fun _ _ => .bad
  | n + 1 => runF false 3 (mb__law_alike (m__law_alike n))
def mb__law_names : SM := (sSeq (sSet 3 (m1 (oList true) (mVar 1)))
    (sSeq (sSet 4 (mLst true mNil))
    (sSeq (sFor (iRg1 (mVar 2)) (gN 5)
    (sExpr (mMeth "list" oAppend (mVar 4) (mCons (mMeth "list" oPopAt (mVar 3) (mCons (mCallN 2 m__law_draw (mCons (mVar 0) (mCons (m1 oLen (mVar 3)) mNil))) mNil)) mNil))))
    (sRet (mVar 4)))))
def m__law_names : List D → Sto → Res D := runF false 6 mb__law_names
def mb__law_channels : SM := (sSeq (sSet 2 (mLst true mNil))
    (sSeq (sIf (mT (mBin oGt (mVar 1) (mC (.int 1))))
    (sSeq (sSet 3 (mCallN 2 m__law_draw (mCons (mVar 0) (mCons (mBin oIx (mLst false (mCons (mC (.int 5)) (mCons (mC (.int 9)) mNil))) (m1 oInt (mBin (oEq false) (mCallN 2 m__law_draw (mCons (mVar 0) (mCons (mC (.int 5)) mNil))) (mC (.int 0))))) mNil))))
    (sFor (iSeq (mCallN 3 m__law_names (mCons (mVar 0) (mCons (mLst false (mCons (mC (.str ("c" : Str))) (mCons (mC (.str ("d" : Str))) (mCons (mC (.str ("p" : Str))) (mCons (mC (.str ("cc" : Str))) (mCons (mC (.str ("abcdef" : Str))) (mCons (mC (.str ("x" : Str))) (mCons (mC (.str ("to" : Str))) (mCons (mC (.str ("q" : Str))) (mCons (mC (.str ("wire" : Str))) mNil)))))))))) (mCons (mVar 3) mNil))))) (gN 4)
    (sSeq (sSet 5 (mCallN 2 m__law_draw (mCons (mVar 0) (mCons (mVar 1) mNil))))
    (sSeq (sSet 6 (mBin oMod (m1 oInt (mBin (oAdd false) (mBin (oAdd false) (mVar 5) (mC (.int 1))) (mCallN 2 m__law_draw (mCons (mVar 0) (mCons (mBin oSub (mVar 1) (mC (.int 1))) mNil))))) (mVar 1)))
    (sSeq (sSet 7 (mBin oIx (mLst false (mCons (mC (.str ("order" : Str))) (mCons (mC (.str ("loose" : Str))) (mCons (mC (.str ("order lossy" : Str))) (mCons (mC (.str ("loose lossy" : Str))) mNil))))) (mCallN 2 m__law_draw (mCons (mVar 0) (mCons (mC (.int 4)) mNil)))))
    (sExpr (mMeth "list" oAppend (mVar 2) (mCons (mTup (mCons (mVar 4) (mCons (mVar 5) (mCons (mVar 6) (mCons (mVar 7) mNil))))) mNil))))))))
    sNil)
    (sRet (mVar 2))))
def m__law_channels : List D → Sto → Res D := runF false 8 mb__law_channels
def mb__law_rule : SM := (sSeq (sSet 4 (mCallN 2 m__law_draw (mCons (mVar 0) (mCons (m1 oLen (mVar 1)) mNil))))
    (sSeq (sSet 5 (mBin oIx (mBin oIx (mVar 1) (mVar 4)) (mC (.int 1))))
    (sSeq (sSet 6 (mTup (mCons (mC (.str ("do" : Str))) mNil)))
    (sSeq (sSet 7 (mComp false (iRg1 (m1 oLen (mVar 2))) [8] (.nm 8) (mT (mBin (oIn false) (mVar 4) (mSlice false (mBin oIx (mVar 2) (mVar 8)) (mPart (mC (.int 1))) (mPart (mC (.int 3)))))) (mVar 8)))
    (sSeq (sIf (mAndT (mT (mBin oGt (m1 oLen (mVar 7)) (mC (.int 0)))) (mT (mBin oGt (mCallN 2 m__law_draw (mCons (mVar 0) (mCons (mC (.int 6)) mNil))) (mC (.int 0)))))
    (sSeq (sSet 8 (mBin oIx (mVar 7) (mCallN 2 m__law_draw (mCons (mVar 0) (mCons (m1 oLen (mVar 7)) mNil)))))
    (sSet 6 (mTup (mCons (mBin oIx (mLst false (mCons (mC (.str ("take" : Str))) (mCons (mC (.str ("send" : Str))) mNil))) (m1 oInt (mBin (oEq false) (mBin oIx (mBin oIx (mVar 2) (mVar 8)) (mC (.int 1))) (mVar 4)))) (mCons (mVar 8) (mCons (mCallN 2 m__law_draw (mCons (mVar 0) (mCons (mVar 3) mNil))) mNil))))))
    sNil)
    (sRet (mTup (mCons (mVar 4) (mCons (mCallN 2 m__law_draw (mCons (mVar 0) (mCons (mVar 5) mNil))) (mCons (mVar 6) (mCons (mCallN 2 m__law_draw (mCons (mVar 0) (mCons (mVar 5) mNil))) mNil)))))))))))
def m__law_rule : List D → Sto → Res D := runF false 9 mb__law_rule
def mb__law_net : SM := (sSeq (sSet 1 (mBin (oAdd false) (mC (.int 1)) (mCallN 2 m__law_draw (mCons (mVar 0) (mCons (mBin oIx (mLst false (mCons (mC (.int 3)) (mCons (mC (.int 5)) mNil))) (m1 oInt (mBin (oEq false) (mCallN 2 m__law_draw (mCons (mVar 0) (mCons (mC (.int 6)) mNil))) (mC (.int 0))))) mNil)))))
    (sSeq (sIf (mAndT (mT (mBin (oEq false) (mVar 1) (mC (.int 1)))) (mT (mBin (oEq false) (mCallN 2 m__law_draw (mCons (mVar 0) (mCons (mC (.int 2)) mNil))) (mC (.int 0)))))
    (sSet 1 (mC (.int 2)))
    sNil)
    (sSeq (sSet 2 (mLst true mNil))
    (sSeq (sFor (iSeq (mCallN 3 m__law_names (mCons (mVar 0) (mCons (mLst false (mCons (mC (.str ("p" : Str))) (mCons (mC (.str ("q" : Str))) (mCons (mC (.str ("c" : Str))) (mCons (mC (.str ("ab" : Str))) (mCons (mC (.str ("abcdef" : Str))) (mCons (mC (.str ("z" : Str))) (mCons (mC (.str ("pp" : Str))) mNil)))))))) (mCons (mVar 1) mNil))))) (gN 3)
    (sExpr (mMeth "list" oAppend (mVar 2) (mCons (mTup (mCons (mVar 3) (mCons (mBin (oAdd false) (mC (.int 1)) (mCallN 2 m__law_draw (mCons (mVar 0) (mCons (mBin oIx (mLst false (mCons (mC (.int 3)) (mCons (mC (.int 8)) mNil))) (m1 oInt (mBin (oEq false) (mCallN 2 m__law_draw (mCons (mVar 0) (mCons (mC (.int 4)) mNil))) (mC (.int 0))))) mNil)))) mNil))) mNil))))
    (sSeq (sSet 4 (mCallN 2 m__law_channels (mCons (mVar 0) (mCons (mVar 1) mNil))))
    (sSeq (sSet 5 (mBin oIx (mLst false (mCons (mC (.int 2)) (mCons (mC (.int 3)) (mCons (mC (.int 10)) mNil)))) (mCallN 2 m__law_draw (mCons (mVar 0) (mCons (mC (.int 3)) mNil)))))
    (sSeq (sSet 6 (mCallN 2 m__law_draw (mCons (mVar 0) (mCons (mBin oIx (mLst false (mCons (mC (.int 13)) (mCons (mC (.int 25)) (mCons (mC (.int 41)) mNil)))) (mCallN 2 m__law_draw (mCons (mVar 0) (mCons (mC (.int 3)) mNil)))) mNil))))
    (sSeq (sSet 7 (mComp false (iRg1 (mVar 6)) [8] (.nm 8) mYes (mCallN 4 m__law_rule (mCons (mVar 0) (mCons (mVar 2) (mCons (mVar 4) (mCons (mVar 5) mNil)))))))
    (sRet (mTup (mCons (m1 oTuple (mVar 2)) (mCons (m1 oTuple (mVar 4)) (mCons (m1 oTuple (mVar 7)) mNil)))))))))))))
def m__law_net : List D → Sto → Res D := runF false 9 mb__law_net
def mb__law_start : SM := (sRet (mTup (mCons (m1 oTuple (mBin (oRep false) (mLst false (mCons (mC (.int 0)) mNil)) (m1 oLen (mBin oIx (mVar 0) (mC (.int 0)))))) (mCons (m1 oTuple (mBin (oRep false) (mLst false (mCons (mC (.int 0)) mNil)) (m1 oLen (mBin oIx (mVar 0) (mC (.int 1)))))) (mCons (m1 oTuple (mBin (oRep false) (mLst false (mCons (mTup mNil) mNil)) (m1 oLen (mBin oIx (mVar 0) (mC (.int 1)))))) mNil)))))
def m__law_start : List D → Sto → Res D := runF false 1 mb__law_start
def mb__law_takes : SM := (sSeq (sSet 3 (mBin oIx (mBin oIx (mVar 0) (mC (.int 2))) (mVar 2)))
    (sSeq (sSet 4 (mBin oIx (mBin oIx (mVar 1) (mC (.int 2))) (mBin oIx (mBin oIx (mVar 3) (mC (.int 2))) (mC (.int 1)))))
    (sSeq (sIf (mT (mBin (oIn false) (mBin oIx (mBin oIx (mBin oIx (mVar 0) (mC (.int 1))) (mBin oIx (mBin oIx (mVar 3) (mC (.int 2))) (mC (.int 1)))) (mC (.int 3))) (mLst false (mCons (mC (.str ("order" : Str))) (mCons (mC (.str ("order lossy" : Str))) mNil)))))
    (sSet 4 (mSlice false (mVar 4) mNoP (mPart (mC (.int 1)))))
    sNil)
    (sRet (mComp false (iSeq (mVar 4)) [5] (.nm 5) (mT (mBin (oEq false) (mBin oIx (mVar 5) (mC (.int 1))) (mBin oIx (mBin oIx (mVar 3) (mC (.int 2))) (mC (.int 2))))) (mBin oIx (mVar 5) (mC (.int 0))))))))
def m__law_takes : List D → Sto → Res D := runF false 6 mb__law_takes
def mb__law_possible : SM := (sSeq (sSet 2 (mLst true mNil))
    (sSeq (sFor (iRg1 (m1 oLen (mBin oIx (mVar 0) (mC (.int 2))))) (gN 3)
    (sSeq (sSet 5 (mBin oIx (mBin oIx (mVar 0) (mC (.int 2))) (mVar 3)))
    (sIf (mT (mBin (oEq false) (mBin oIx (mBin oIx (mVar 1) (mC (.int 0))) (mBin oIx (mVar 5) (mC (.int 0)))) (mBin oIx (mVar 5) (mC (.int 1)))))
    (sIf (mT (mBin (oEq false) (mBin oIx (mBin oIx (mVar 5) (mC (.int 2))) (mC (.int 0))) (mC (.str ("take" : Str)))))
    (sSet 2 (mBin (oAdd true) (mVar 2) (mComp false (iSeq (mCallN 3 m__law_takes (mCons (mVar 0) (mCons (mVar 1) (mCons (mVar 3) mNil))))) [7] (.nm 7) mYes (mTup (mCons (mC (.str ("take" : Str))) (mCons (mVar 3) (mCons (mVar 7) mNil)))))))
    (sExpr (mMeth "list" oAppend (mVar 2) (mCons (mTup (mCons (mC (.str ("act" : Str))) (mCons (mVar 3) mNil))) mNil))))
    sNil)))
    (sSeq (sFor (iRg1 (m1 oLen (mBin oIx (mVar 0) (mC (.int 1))))) (gN 4)
    (sSeq (sIf (mT (mBin (oEq false) (mBin oIx (mBin oIx (mBin oIx (mVar 0) (mC (.int 1))) (mVar 4)) (mC (.int 3))) (mC (.str ("order lossy" : Str)))))
    (sSet 2 (mBin (oAdd true) (mVar 2) (mComp false (iSeq (mSlice false (mBin oIx (mBin oIx (mVar 1) (mC (.int 2))) (mVar 4)) mNoP (mPart (mC (.int 1))))) [6] (.nm 6) mYes (mTup (mCons (mC (.str ("lose" : Str))) (mCons (mVar 4) (mCons (mBin oIx (mVar 6) (mC (.int 0))) mNil)))))))
    sNil)
    (sIf (mT (mBin (oEq false) (mBin oIx (mBin oIx (mBin oIx (mVar 0) (mC (.int 1))) (mVar 4)) (mC (.int 3))) (mC (.str ("loose lossy" : Str)))))
    (sSet 2 (mBin (oAdd true) (mVar 2) (mComp false (iSeq (mBin oIx (mBin oIx (mVar 1) (mC (.int 2))) (mVar 4))) [6] (.nm 6) mYes (mTup (mCons (mC (.str ("lose" : Str))) (mCons (mVar 4) (mCons (mBin oIx (mVar 6) (mC (.int 0))) mNil)))))))
    sNil)))
    (sRet (m1 oTuple (mVar 2))))))
def m__law_possible : List D → Sto → Res D := runF false 8 mb__law_possible
def mb__law_with : SM := (sRet (mBin (oAdd false) (mBin (oAdd false) (mSlice false (mVar 0) mNoP (mPart (mVar 1))) (mTup (mCons (mVar 2) mNil))) (mSlice false (mVar 0) (mPart (mBin (oAdd false) (mVar 1) (mC (.int 1)))) mNoP)))
def m__law_with : List D → Sto → Res D := runF false 3 mb__law_with
def mb__law_done : SM := (sSeq (sAsg (gT 3 (gsCons (gN 3) (gsCons (gN 4) (gsCons (gN 5) gsNil)))) (mVar 1))
    (sSeq (sIf (mT (mBin (oEq false) (mBin oIx (mVar 2) (mC (.int 0))) (mC (.str ("lose" : Str)))))
    (sSeq (sSet 8 (m1 oTuple (mComp false (iSeq (mBin oIx (mVar 5) (mBin oIx (mVar 2) (mC (.int 1))))) [10] (.nm 10) (mT (mBin (oEq true) (mBin oIx (mVar 10) (mC (.int 0))) (mBin oIx (mVar 2) (mC (.int 2))))) (mVar 10))))
    (sRet (mTup (mCons (mVar 3) (mCons (mVar 4) (mCons (mCallN 3 m__law_with (mCons (mVar 5) (mCons (mBin oIx (mVar 2) (mC (.int 1))) (mCons (mVar 8) mNil)))) mNil))))))
    sNil)
    (sSeq (sSet 6 (mBin oIx (mBin oIx (mVar 0) (mC (.int 2))) (mBin oIx (mVar 2) (mC (.int 1)))))
    (sSeq (sSet 3 (mCallN 3 m__law_with (mCons (mVar 3) (mCons (mBin oIx (mVar 6) (mC (.int 0))) (mCons (mBin oIx (mVar 6) (mC (.int 3))) mNil)))))
    (sSeq (sIf (mT (mBin (oEq false) (mBin oIx (mBin oIx (mVar 6) (mC (.int 2))) (mC (.int 0))) (mC (.str ("do" : Str)))))
    (sRet (mTup (mCons (mVar 3) (mCons (mVar 4) (mCons (mVar 5) mNil)))))
    sNil)
    (sSeq (sSet 7 (mBin oIx (mBin oIx (mVar 6) (mC (.int 2))) (mC (.int 1))))
    (sSeq (sIf (mT (mBin (oEq false) (mBin oIx (mBin oIx (mVar 6) (mC (.int 2))) (mC (.int 0))) (mC (.str ("send" : Str)))))
    (sSeq (sSet 9 (mBin (oAdd false) (mBin oIx (mVar 5) (mVar 7)) (mTup (mCons (mTup (mCons (mBin oIx (mVar 4) (mVar 7)) (mCons (mBin oIx (mBin oIx (mVar 6) (mC (.int 2))) (mC (.int 2))) mNil))) mNil))))
    (sRet (mTup (mCons (mVar 3) (mCons (mCallN 3 m__law_with (mCons (mVar 4) (mCons (mVar 7) (mCons (mBin (oAdd false) (mBin oIx (mVar 4) (mVar 7)) (mC (.int 1))) mNil)))) (mCons (mCallN 3 m__law_with (mCons (mVar 5) (mCons (mVar 7) (mCons (mVar 9) mNil)))) mNil))))))
    sNil)
    (sSeq (sSet 8 (m1 oTuple (mComp false (iSeq (mBin oIx (mVar 5) (mVar 7))) [10] (.nm 10) (mT (mBin (oEq true) (mBin oIx (mVar 10) (mC (.int 0))) (mBin oIx (mVar 2) (mC (.int 2))))) (mVar 10))))
    (sRet (mTup (mCons (mVar 3) (mCons (mVar 4) (mCons (mCallN 3 m__law_with (mCons (mVar 5) (mCons (mVar 7) (mCons (mVar 8) mNil)))) mNil)))))))))))))
def m__law_done : List D → Sto → Res D := runF false 11 mb__law_done
def mb__law_step : SM := (sSeq (sSet 3 (mCallN 2 m__law_possible (mCons (mVar 1) (mCons (mVar 2) mNil))))
    (sSeq (sIf (mT (mBin (oEq false) (m1 oLen (mVar 3)) (mC (.int 0))))
    (sRet (mTup mNil))
    sNil)
    (sSeq (sSet 4 (mBin oIx (mVar 3) (mCallN 2 m__law_draw (mCons (mVar 0) (mCons (m1 oLen (mVar 3)) mNil)))))
    (sSeq (sIf (mAndT (mT (mBin (oEq false) (mBin oIx (mVar 4) (mC (.int 0))) (mC (.str ("lose" : Str))))) (mT (mBin oGt (mCallN 2 m__law_draw (mCons (mVar 0) (mCons (mC (.int 3)) mNil))) (mC (.int 0)))))
    (sSet 4 (mBin oIx (mVar 3) (mCallN 2 m__law_draw (mCons (mVar 0) (mCons (m1 oLen (mVar 3)) mNil)))))
    sNil)
    (sRet (mVar 4))))))
def m__law_step : List D → Sto → Res D := runF false 5 mb__law_step
def mb__law_lively : SM := (sSeq (sSet 1 (mBin (oAdd false) (mC (.int 2)) (mCallN 2 m__law_draw (mCons (mVar 0) (mCons (mC (.int 2)) mNil)))))
    (sSeq (sSet 2 (mComp false (iRg1 (mVar 1)) [4] (.nm 4) mYes (mTup (mCons (mBin oIx (mC (.str ("pqr" : Str))) (mVar 4)) (mCons (mBin (oAdd false) (mC (.int 1)) (mCallN 2 m__law_draw (mCons (mVar 0) (mCons (mC (.int 2)) mNil)))) mNil)))))
    (sSeq (sSet 3 (mLst true mNil))
    (sSeq (sFor (iRg1 (mBin (oAdd false) (mC (.int 1)) (mCallN 2 m__law_draw (mCons (mVar 0) (mCons (mC (.int 4)) mNil))))) (gN 4)
    (sSeq (sSet 6 (mCallN 2 m__law_draw (mCons (mVar 0) (mCons (mVar 1) mNil))))
    (sSeq (sSet 7 (mBin oMod (m1 oInt (mBin (oAdd false) (mBin (oAdd false) (mVar 6) (mC (.int 1))) (mCallN 2 m__law_draw (mCons (mVar 0) (mCons (mBin oSub (mVar 1) (mC (.int 1))) mNil))))) (mVar 1)))
    (sExpr (mMeth "list" oAppend (mVar 3) (mCons (mTup (mCons (mBin oIx (mC (.str ("cdef" : Str))) (mVar 4)) (mCons (mVar 6) (mCons (mVar 7) (mCons (mBin oIx (mLst false (mCons (mC (.str ("order" : Str))) (mCons (mC (.str ("loose" : Str))) (mCons (mC (.str ("order lossy" : Str))) (mCons (mC (.str ("loose lossy" : Str))) mNil))))) (mCallN 2 m__law_draw (mCons (mVar 0) (mCons (mC (.int 4)) mNil)))) mNil))))) mNil))))))
    (sSeq (sSet 5 (mLst true mNil))
    (sSeq (sFor (iRg1 (mBin (oAdd false) (mC (.int 6)) (mCallN 2 m__law_draw (mCons (mVar 0) (mCons (mC (.int 7)) mNil))))) (gN 4)
    (sSeq (sSet 8 (mCallN 2 m__law_draw (mCons (mVar 0) (mCons (m1 oLen (mVar 3)) mNil))))
    (sSeq (sSet 9 (mBin oIx (mLst false (mCons (mTup (mCons (mC (.str ("send" : Str))) (mCons (mVar 8) (mCons (mCallN 2 m__law_draw (mCons (mVar 0) (mCons (mC (.int 2)) mNil))) mNil)))) (mCons (mTup (mCons (mC (.str ("take" : Str))) (mCons (mVar 8) (mCons (mCallN 2 m__law_draw (mCons (mVar 0) (mCons (mC (.int 2)) mNil))) mNil)))) mNil))) (mCallN 2 m__law_draw (mCons (mVar 0) (mCons (mC (.int 2)) mNil)))))
    (sSeq (sSet 10 (mBin oIx (mBin oIx (mVar 3) (mVar 8)) (mBin (oAdd false) (mC (.int 1)) (m1 oInt (mBin (oEq false) (mBin oIx (mVar 9) (mC (.int 0))) (mC (.str ("take" : Str))))))))
    (sSeq (sSet 11 (mBin oIx (mBin oIx (mVar 2) (mVar 10)) (mC (.int 1))))
    (sExpr (mMeth "list" oAppend (mVar 5) (mCons (mTup (mCons (mVar 10) (mCons (mCallN 2 m__law_draw (mCons (mVar 0) (mCons (mVar 11) mNil))) (mCons (mVar 9) (mCons (mCallN 2 m__law_draw (mCons (mVar 0) (mCons (mVar 11) mNil))) mNil))))) mNil))))))))
    (sRet (mTup (mCons (m1 oTuple (mVar 2)) (mCons (m1 oTuple (mVar 3)) (mCons (m1 oTuple (mVar 5)) mNil)))))))))))
def m__law_lively : List D → Sto → Res D := runF false 12 mb__law_lively
def mb__law_listed : SM := (sRet (mLst false (mCons (m1 (oList false) (mBin oIx (mVar 0) (mC (.int 0)))) (mCons (m1 (oList false) (mBin oIx (mVar 0) (mC (.int 1)))) (mCons (mComp false (iSeq (mBin oIx (mVar 0) (mC (.int 2)))) [1] (.nm 1) mYes (mComp false (iSeq (mVar 1)) [2] (.nm 2) mYes (m1 (oList false) (mVar 2)))) mNil)))))
def m__law_listed : List D → Sto → Res D := runF false 3 mb__law_listed
def mb__law_walked : SM := (sSeq (sSet 3 (mMake 100 4 m_Net_init (mCons (mBin oIx (mVar 1) (mC (.int 0))) (mCons (mBin oIx (mVar 1) (mC (.int 1))) (mCons (mBin oIx (mVar 1) (mC (.int 2))) mNil)))))
    (sSeq (sSet 4 (mCallN 1 m__law_start (mCons (mVar 1) mNil)))
    (sSeq (sIf (mNotT (mT (mCallN 2 (m__law_alike 8) (mCons (mCallN 1 m_start (mCons (mVar 3) mNil)) (mCons (mVar 4) mNil)))))
    (sRet (mC (.bl false)))
    sNil)
    (sSeq (sFor (iRg1 (mVar 2)) (gN 5)
    (sSeq (sSet 6 (mCallN 2 m__law_possible (mCons (mVar 1) (mCons (mVar 4) mNil))))
    (sSeq (sIf (mOrT (mNotT (mT (mCallN 2 (m__law_alike 8) (mCons (mCallN 2 m_possible (mCons (mVar 3) (mCons (mVar 4) mNil))) (mCons (mVar 6) mNil))))) (mNotT (mT (mCallN 2 (m__law_alike 8) (mCons (mCallK 2 [1, 0] m_possible (mCons (mVar 4) (mCons (mVar 3) mNil))) (mCons (mVar 6) mNil))))))
    (sRet (mC (.bl false)))
    sNil)
    (sSeq (sSet 7 (mCallN 3 m__law_step (mCons (mVar 0) (mCons (mVar 1) (mCons (mVar 4) mNil)))))
    (sSeq (sIf (mT (mBin (oEq false) (mVar 7) (mTup mNil)))
    (sRet (mC (.bl true)))
    sNil)
    (sSeq (sSet 8 (mBin oIx (mLst false (mCons (mVar 4) (mCons (mCallN 1 m__law_listed (mCons (mVar 4) mNil)) mNil))) (mCallN 2 m__law_draw (mCons (mVar 0) (mCons (mC (.int 2)) mNil)))))
    (sSeq (sIf (mNotT (mT (mCallN 2 (m__law_alike 8) (mCons (mCallN 2 m_possible (mCons (mVar 3) (mCons (mVar 8) mNil))) (mCons (mVar 6) mNil)))))
    (sRet (mC (.bl false)))
    sNil)
    (sSeq (sSet 9 (mCallN 3 m_done (mCons (mVar 3) (mCons (mVar 8) (mCons (mVar 7) mNil)))))
    (sSeq (sSet 4 (mCallN 3 m__law_done (mCons (mVar 1) (mCons (mVar 4) (mCons (mVar 7) mNil)))))
    (sIf (mNotT (mT (mCallN 2 (m__law_alike 8) (mCons (mVar 9) (mCons (mVar 4) mNil)))))
    (sRet (mC (.bl false)))
    sNil))))))))))
    (sRet (mCallN 2 (m__law_alike 8) (mCons (mCallN 2 m_possible (mCons (mVar 3) (mCons (mVar 4) mNil))) (mCons (mCallN 2 m__law_possible (mCons (mVar 1) (mCons (mVar 4) mNil))) mNil))))))))
def m__law_walked : List D → Sto → Res D := runF false 10 mb__law_walked
def mb_law : SM := (sSeq (sSet 1 (mCallN 2 m__law_box (mCons (mVar 0) (mCons (mC (.int 0)) mNil))))
    (sSeq (sSet 2 (mCallN 1 m__law_net (mCons (mVar 1) mNil)))
    (sSeq (sSet 3 (mCallN 2 m__law_box (mCons (mVar 0) (mCons (mC (.int 1)) mNil))))
    (sRet (mAnd (mCallN 3 m__law_walked (mCons (mVar 1) (mCons (mVar 2) (mCons (mC (.int 8)) mNil)))) (mCallN 3 m__law_walked (mCons (mVar 3) (mCons (mCallN 1 m__law_lively (mCons (mVar 3) mNil)) (mCons (mBin (oAdd false) (mC (.int 8)) (mCallN 2 m__law_draw (mCons (mVar 3) (mCons (mC (.int 20)) mNil)))) mNil)))))))))
def m_law : List D → Sto → Res D := runF false 4 mb_law
structure Tx (P : Program) (K : PySem.W.Frag) (mg : Str → Option Value) where
  c_CutError : Addr
  c_BadValue : Addr
  c_BadStep : Addr
  i_BadValue : Addr
  i_BadStep : Addr
  ca_Net : Addr
  a_is_whole : Addr
  d_is_whole : FuncData
  F_is_whole : L2.Fun K "is_whole" "is_whole" s_is_whole a_is_whole d_is_whole
  b_is_whole : Binds K d_is_whole [("value" : Str)] []
  g_is_whole : mg "is_whole" = some (.ref a_is_whole)
  k_is_whole : PySem.W.keepIn K (.ref a_is_whole) = true
  a_is_below : Addr
  d_is_below : FuncData
  F_is_below : L2.Fun K "is_below" "is_below" s_is_below a_is_below d_is_below
  b_is_below : Binds K d_is_below [("value" : Str), ("top" : Str)] []
  g_is_below : mg "is_below" = some (.ref a_is_below)
  k_is_below : PySem.W.keepIn K (.ref a_is_below) = true
  a_is_name : Addr
  d_is_name : FuncData
  F_is_name : L2.Fun K "is_name" "is_name" s_is_name a_is_name d_is_name
  b_is_name : Binds K d_is_name [("value" : Str)] []
  g_is_name : mg "is_name" = some (.ref a_is_name)
  k_is_name : PySem.W.keepIn K (.ref a_is_name) = true
  a_is_process : Addr
  d_is_process : FuncData
  F_is_process : L2.Fun K "is_process" "is_process" s_is_process a_is_process d_is_process
  b_is_process : Binds K d_is_process [("value" : Str), ("elder" : Str)] []
  g_is_process : mg "is_process" = some (.ref a_is_process)
  k_is_process : PySem.W.keepIn K (.ref a_is_process) = true
  a_is_channel : Addr
  d_is_channel : FuncData
  F_is_channel : L2.Fun K "is_channel" "is_channel" s_is_channel a_is_channel d_is_channel
  b_is_channel : Binds K d_is_channel [("value" : Str), ("processes" : Str), ("elder" : Str)] []
  g_is_channel : mg "is_channel" = some (.ref a_is_channel)
  k_is_channel : PySem.W.keepIn K (.ref a_is_channel) = true
  a_is_act : Addr
  d_is_act : FuncData
  F_is_act : L2.Fun K "is_act" "is_act" s_is_act a_is_act d_is_act
  b_is_act : Binds K d_is_act [("act" : Str), ("process" : Str), ("channels" : Str)] []
  g_is_act : mg "is_act" = some (.ref a_is_act)
  k_is_act : PySem.W.keepIn K (.ref a_is_act) = true
  a_is_rule : Addr
  d_is_rule : FuncData
  F_is_rule : L2.Fun K "is_rule" "is_rule" s_is_rule a_is_rule d_is_rule
  b_is_rule : Binds K d_is_rule [("value" : Str), ("processes" : Str), ("channels" : Str)] []
  g_is_rule : mg "is_rule" = some (.ref a_is_rule)
  k_is_rule : PySem.W.keepIn K (.ref a_is_rule) = true
  a__frozen : Addr
  d__frozen : FuncData
  F__frozen : L2.Fun K "_frozen" "_frozen" s__frozen a__frozen d__frozen
  b__frozen : Binds K d__frozen [("value" : Str), ("depth" : Str)] []
  g__frozen : mg "_frozen" = some (.ref a__frozen)
  k__frozen : PySem.W.keepIn K (.ref a__frozen) = true
  a__rows : Addr
  d__rows : FuncData
  F__rows : L2.Fun K "_rows" "_rows" s__rows a__rows d__rows
  b__rows : Binds K d__rows [("value" : Str), ("least" : Str), ("most" : Str)] []
  g__rows : mg "_rows" = some (.ref a__rows)
  k__rows : PySem.W.keepIn K (.ref a__rows) = true
  a_Net_init : Addr
  d_Net_init : FuncData
  F_Net_init : L2.Fun K "__init__" "Net.__init__" s_Net_init a_Net_init d_Net_init
  b_Net_init : Binds K d_Net_init [("self" : Str), ("processes" : Str), ("channels" : Str), ("rules" : Str)] []
  a_start : Addr
  d_start : FuncData
  F_start : L2.Fun K "start" "start" s_start a_start d_start
  b_start : Binds K d_start [("net" : Str)] []
  g_start : mg "start" = some (.ref a_start)
  k_start : PySem.W.keepIn K (.ref a_start) = true
  a_is_lossy : Addr
  d_is_lossy : FuncData
  F_is_lossy : L2.Fun K "is_lossy" "is_lossy" s_is_lossy a_is_lossy d_is_lossy
  b_is_lossy : Binds K d_is_lossy [("net" : Str), ("channel" : Str)] []
  g_is_lossy : mg "is_lossy" = some (.ref a_is_lossy)
  k_is_lossy : PySem.W.keepIn K (.ref a_is_lossy) = true
  a_is_ordered : Addr
  d_is_ordered : FuncData
  F_is_ordered : L2.Fun K "is_ordered" "is_ordered" s_is_ordered a_is_ordered d_is_ordered
  b_is_ordered : Binds K d_is_ordered [("net" : Str), ("channel" : Str)] []
  g_is_ordered : mg "is_ordered" = some (.ref a_is_ordered)
  k_is_ordered : PySem.W.keepIn K (.ref a_is_ordered) = true
  a_as_deed : Addr
  d_as_deed : FuncData
  F_as_deed : L2.Fun K "as_deed" "as_deed" s_as_deed a_as_deed d_as_deed
  b_as_deed : Binds K d_as_deed [("net" : Str), ("deed" : Str)] []
  g_as_deed : mg "as_deed" = some (.ref a_as_deed)
  k_as_deed : PySem.W.keepIn K (.ref a_as_deed) = true
  a_open_messages_of : Addr
  d_open_messages_of : FuncData
  F_open_messages_of : L2.Fun K "open_messages_of" "open_messages_of" s_open_messages_of a_open_messages_of d_open_messages_of
  b_open_messages_of : Binds K d_open_messages_of [("net" : Str), ("world" : Str), ("channel" : Str)] []
  g_open_messages_of : mg "open_messages_of" = some (.ref a_open_messages_of)
  k_open_messages_of : PySem.W.keepIn K (.ref a_open_messages_of) = true
  a_can_do : Addr
  d_can_do : FuncData
  F_can_do : L2.Fun K "can_do" "can_do" s_can_do a_can_do d_can_do
  b_can_do : Binds K d_can_do [("net" : Str), ("world" : Str), ("deed" : Str)] []
  g_can_do : mg "can_do" = some (.ref a_can_do)
  k_can_do : PySem.W.keepIn K (.ref a_can_do) = true
  a_possible : Addr
  d_possible : FuncData
  F_possible : L2.Fun K "possible" "possible" s_possible a_possible d_possible
  b_possible : Binds K d_possible [("net" : Str), ("world" : Str)] []
  g_possible : mg "possible" = some (.ref a_possible)
  k_possible : PySem.W.keepIn K (.ref a_possible) = true
  a__with_part : Addr
  d__with_part : FuncData
  F__with_part : L2.Fun K "_with_part" "_with_part" s__with_part a__with_part d__with_part
  b__with_part : Binds K d__with_part [("row" : Str), ("at" : Str), ("part" : Str)] []
  g__with_part : mg "_with_part" = some (.ref a__with_part)
  k__with_part : PySem.W.keepIn K (.ref a__with_part) = true
  a__without_message : Addr
  d__without_message : FuncData
  F__without_message : L2.Fun K "_without_message" "_without_message" s__without_message a__without_message d__without_message
  b__without_message : Binds K d__without_message [("present" : Str), ("channel" : Str), ("k" : Str)] []
  g__without_message : mg "_without_message" = some (.ref a__without_message)
  k__without_message : PySem.W.keepIn K (.ref a__without_message) = true
  a_behind : Addr
  d_behind : FuncData
  F_behind : L2.Fun K "behind" "behind" s_behind a_behind d_behind
  b_behind : Binds K d_behind [("net" : Str), ("world" : Str), ("deed" : Str)] []
  g_behind : mg "behind" = some (.ref a_behind)
  k_behind : PySem.W.keepIn K (.ref a_behind) = true
  a_done : Addr
  d_done : FuncData
  F_done : L2.Fun K "done" "done" s_done a_done d_done
  b_done : Binds K d_done [("net" : Str), ("world" : Str), ("deed" : Str)] []
  g_done : mg "done" = some (.ref a_done)
  k_done : PySem.W.keepIn K (.ref a_done) = true
  a__law_mix : Addr
  d__law_mix : FuncData
  F__law_mix : L2.Fun K "_law_mix" "_law_mix" s__law_mix a__law_mix d__law_mix
  b__law_mix : Binds K d__law_mix [("_law_cell" : Str), ("_law_salt" : Str)] []
  g__law_mix : mg "_law_mix" = some (.ref a__law_mix)
  k__law_mix : PySem.W.keepIn K (.ref a__law_mix) = true
  a__law_box : Addr
  d__law_box : FuncData
  F__law_box : L2.Fun K "_law_box" "_law_box" s__law_box a__law_box d__law_box
  b__law_box : Binds K d__law_box [("_law_script" : Str), ("_law_at" : Str)] []
  g__law_box : mg "_law_box" = some (.ref a__law_box)
  k__law_box : PySem.W.keepIn K (.ref a__law_box) = true
  a__law_draw : Addr
  d__law_draw : FuncData
  F__law_draw : L2.Fun K "_law_draw" "_law_draw" s__law_draw a__law_draw d__law_draw
  b__law_draw : Binds K d__law_draw [("_law_box_here" : Str), ("_law_many" : Str)] []
  g__law_draw : mg "_law_draw" = some (.ref a__law_draw)
  k__law_draw : PySem.W.keepIn K (.ref a__law_draw) = true
  a__law_alike : Addr
  d__law_alike : FuncData
  F__law_alike : L2.Fun K "_law_alike" "_law_alike" s__law_alike a__law_alike d__law_alike
  b__law_alike : Binds K d__law_alike [("_law_told" : Str), ("_law_due" : Str)] []
  g__law_alike : mg "_law_alike" = some (.ref a__law_alike)
  k__law_alike : PySem.W.keepIn K (.ref a__law_alike) = true
  a__law_names : Addr
  d__law_names : FuncData
  F__law_names : L2.Fun K "_law_names" "_law_names" s__law_names a__law_names d__law_names
  b__law_names : Binds K d__law_names [("_law_box_here" : Str), ("_law_pool" : Str), ("_law_many" : Str)] []
  g__law_names : mg "_law_names" = some (.ref a__law_names)
  k__law_names : PySem.W.keepIn K (.ref a__law_names) = true
  a__law_channels : Addr
  d__law_channels : FuncData
  F__law_channels : L2.Fun K "_law_channels" "_law_channels" s__law_channels a__law_channels d__law_channels
  b__law_channels : Binds K d__law_channels [("_law_box_here" : Str), ("_law_many" : Str)] []
  g__law_channels : mg "_law_channels" = some (.ref a__law_channels)
  k__law_channels : PySem.W.keepIn K (.ref a__law_channels) = true
  a__law_rule : Addr
  d__law_rule : FuncData
  F__law_rule : L2.Fun K "_law_rule" "_law_rule" s__law_rule a__law_rule d__law_rule
  b__law_rule : Binds K d__law_rule [("_law_box_here" : Str), ("_law_processes" : Str), ("_law_channels_here" : Str), ("_law_tokens" : Str)] []
  g__law_rule : mg "_law_rule" = some (.ref a__law_rule)
  k__law_rule : PySem.W.keepIn K (.ref a__law_rule) = true
  a__law_net : Addr
  d__law_net : FuncData
  F__law_net : L2.Fun K "_law_net" "_law_net" s__law_net a__law_net d__law_net
  b__law_net : Binds K d__law_net [("_law_box_here" : Str)] []
  g__law_net : mg "_law_net" = some (.ref a__law_net)
  k__law_net : PySem.W.keepIn K (.ref a__law_net) = true
  a__law_start : Addr
  d__law_start : FuncData
  F__law_start : L2.Fun K "_law_start" "_law_start" s__law_start a__law_start d__law_start
  b__law_start : Binds K d__law_start [("_law_net_here" : Str)] []
  g__law_start : mg "_law_start" = some (.ref a__law_start)
  k__law_start : PySem.W.keepIn K (.ref a__law_start) = true
  a__law_takes : Addr
  d__law_takes : FuncData
  F__law_takes : L2.Fun K "_law_takes" "_law_takes" s__law_takes a__law_takes d__law_takes
  b__law_takes : Binds K d__law_takes [("_law_net_here" : Str), ("_law_world" : Str), ("_law_r" : Str)] []
  g__law_takes : mg "_law_takes" = some (.ref a__law_takes)
  k__law_takes : PySem.W.keepIn K (.ref a__law_takes) = true
  a__law_possible : Addr
  d__law_possible : FuncData
  F__law_possible : L2.Fun K "_law_possible" "_law_possible" s__law_possible a__law_possible d__law_possible
  b__law_possible : Binds K d__law_possible [("_law_net_here" : Str), ("_law_world" : Str)] []
  g__law_possible : mg "_law_possible" = some (.ref a__law_possible)
  k__law_possible : PySem.W.keepIn K (.ref a__law_possible) = true
  a__law_with : Addr
  d__law_with : FuncData
  F__law_with : L2.Fun K "_law_with" "_law_with" s__law_with a__law_with d__law_with
  b__law_with : Binds K d__law_with [("_law_row" : Str), ("_law_at" : Str), ("_law_value" : Str)] []
  g__law_with : mg "_law_with" = some (.ref a__law_with)
  k__law_with : PySem.W.keepIn K (.ref a__law_with) = true
  a__law_done : Addr
  d__law_done : FuncData
  F__law_done : L2.Fun K "_law_done" "_law_done" s__law_done a__law_done d__law_done
  b__law_done : Binds K d__law_done [("_law_net_here" : Str), ("_law_world" : Str), ("_law_deed" : Str)] []
  g__law_done : mg "_law_done" = some (.ref a__law_done)
  k__law_done : PySem.W.keepIn K (.ref a__law_done) = true
  a__law_step : Addr
  d__law_step : FuncData
  F__law_step : L2.Fun K "_law_step" "_law_step" s__law_step a__law_step d__law_step
  b__law_step : Binds K d__law_step [("_law_box_here" : Str), ("_law_net_here" : Str), ("_law_world" : Str)] []
  g__law_step : mg "_law_step" = some (.ref a__law_step)
  k__law_step : PySem.W.keepIn K (.ref a__law_step) = true
  a__law_lively : Addr
  d__law_lively : FuncData
  F__law_lively : L2.Fun K "_law_lively" "_law_lively" s__law_lively a__law_lively d__law_lively
  b__law_lively : Binds K d__law_lively [("_law_box_here" : Str)] []
  g__law_lively : mg "_law_lively" = some (.ref a__law_lively)
  k__law_lively : PySem.W.keepIn K (.ref a__law_lively) = true
  a__law_listed : Addr
  d__law_listed : FuncData
  F__law_listed : L2.Fun K "_law_listed" "_law_listed" s__law_listed a__law_listed d__law_listed
  b__law_listed : Binds K d__law_listed [("_law_world" : Str)] []
  g__law_listed : mg "_law_listed" = some (.ref a__law_listed)
  k__law_listed : PySem.W.keepIn K (.ref a__law_listed) = true
  a__law_walked : Addr
  d__law_walked : FuncData
  F__law_walked : L2.Fun K "_law_walked" "_law_walked" s__law_walked a__law_walked d__law_walked
  b__law_walked : Binds K d__law_walked [("_law_box_here" : Str), ("_law_net_here" : Str), ("_law_turns" : Str)] []
  g__law_walked : mg "_law_walked" = some (.ref a__law_walked)
  k__law_walked : PySem.W.keepIn K (.ref a__law_walked) = true
  a_law : Addr
  d_law : FuncData
  F_law : L2.Fun K "law" "law" s_law a_law d_law
  b_law : Binds K d_law [("_law_script" : Str)] []
  g_law : mg "law" = some (.ref a_law)
  k_law : PySem.W.keepIn K (.ref a_law) = true
  n_all : mg "all" = none
  n_bool : mg "bool" = none
  n_enumerate : mg "enumerate" = none
  n_int : mg "int" = none
  n_isinstance : mg "isinstance" = none
  n_len : mg "len" = none
  n_list : mg "list" = none
  n_range : mg "range" = none
  n_str : mg "str" = none
  n_tuple : mg "tuple" = none
  g_KINDS : GTup K mg "KINDS" g_KINDS
  g_LETTERS : ∃ t, mg "LETTERS" = some (.str ("abcdefghijklmnopqrstuvwxyz" : Str) t)
  g_MOST_CHANNELS : ∃ t, mg "MOST_CHANNELS" = some (.int 8 t)
  g_MOST_LETTERS : ∃ t, mg "MOST_LETTERS" = some (.int 6 t)
  g_MOST_PROCESSES : ∃ t, mg "MOST_PROCESSES" = some (.int 5 t)
  g_MOST_RULES : ∃ t, mg "MOST_RULES" = some (.int 40 t)
  g_MOST_STATES : ∃ t, mg "MOST_STATES" = some (.int 8 t)
  g_TOKENS : ∃ t, mg "TOKENS" = some (.int 10 t)
  e_BadValue : E_at.Txt P K mg "BadValue" c_BadValue i_BadValue
  x_BadValue : XfC K c_BadValue
  e_BadStep : E_at.Txt P K mg "BadStep" c_BadStep i_BadStep
  x_BadStep : XfC K c_BadStep
  c_Net : mg "Net" = some (.ref ca_Net)
  mk_Net : Mk K ca_Net a_Net_init
  cl_Net : Cls K ca_Net
  na_Net_processes : NoAttr K ca_Net ("processes" : Str)
  na_Net_channels : NoAttr K ca_Net ("channels" : Str)
  na_Net_rules : NoAttr K ca_Net ("rules" : Str)
namespace Tx
variable {P : Program} {K : PySem.W.Frag} {mg : Str → Option Value}
def CA (T : Tx P K mg) : Nat → Addr
  | 0 => T.c_CutError
  | 1 => T.c_BadValue
  | 3 => T.c_BadStep
  | 100 => T.ca_Net
  | _ => 0
def EN : Nat → Str
  | 1 => ("at" : Str)
  | 3 => ("at" : Str)
  | _ => ("" : Str)
def S (T : Tx P K mg) : Stat := { K := K, CA := T.CA, AN := anOf attrs_all, EN := EN, ex := none }
theorem an_inj (T : Tx P K mg) : ∀ a b, T.S.AN a = T.S.AN b → a = b := anOf_inj (by decide +kernel) (by decide +kernel)
theorem fld4 (T : Tx P K mg) : ∀ c ∈ cls_all, FldOk T.S c 4 := fun c hc => by
  simp only [cls_all, List.mem_cons, List.not_mem_nil, or_false] at hc
  rcases hc with rfl
  · exact ⟨T.cl_Net, T.na_Net_channels⟩
theorem fld3 (T : Tx P K mg) : ∀ c ∈ cls_all, FldOk T.S c 3 := fun c hc => by
  simp only [cls_all, List.mem_cons, List.not_mem_nil, or_false] at hc
  rcases hc with rfl
  · exact ⟨T.cl_Net, T.na_Net_processes⟩
theorem fld5 (T : Tx P K mg) : ∀ c ∈ cls_all, FldOk T.S c 5 := fun c hc => by
  simp only [cls_all, List.mem_cons, List.not_mem_nil, or_false] at hc
  rcases hc with rfl
  · exact ⟨T.cl_Net, T.na_Net_rules⟩
end Tx
section
variable {P : Program} {w : World} {K : PySem.W.Frag} {mg : Str → Option Value} {base : Heap}
theorem kb_possible_1_0 (T : Tx P K mg) : KBindsP K T.d_possible [("net" : Str), ("world" : Str)] [("world" : Str), ("net" : Str)] [1, 0] := Fun.kbinds T.F_possible fun _ _ _ _ _ _ ws hl => match ws, hl with | [_, _], _ => rfl
theorem sc_is_whole : FnScope [("value" : Str)] [("value" : Str)] (defScope s_is_whole) := ⟨rfl, rfl, rfl, by decide +kernel, rfl, by decide +kernel, by decide +kernel⟩
theorem ok_is_whole (T : Tx P K mg) : FnOk P w K mg base (L2.CX P w) 1 T.a_is_whole T.d_is_whole [("value" : Str)] (spM T.S 1 m_is_whole) :=
  def_ok2 (k := 0) rfl false (fb := mb_is_whole) T.F_is_whole sc_is_whole rfl rfl rfl (fun cdv A outer s H E hr tk hp =>
    (ss_one (s_ret (e_and (e_isi (e_var 0) T.n_isinstance T.n_int) (e_one (e_not (e_isi (e_var 0) T.n_isinstance T.n_bool)))))))
theorem sc_is_below : FnScope [("value" : Str), ("top" : Str)] [("value" : Str), ("top" : Str)] (defScope s_is_below) := ⟨rfl, rfl, rfl, by decide +kernel, rfl, by decide +kernel, by decide +kernel⟩
theorem ok_is_below (T : Tx P K mg) : FnOk P w K mg base (L2.CX P w) 2 T.a_is_below T.d_is_below [("value" : Str), ("top" : Str)] (spM T.S 2 m_is_below) :=
  def_ok2 (k := 1) rfl false (fb := mb_is_below) T.F_is_below sc_is_below rfl rfl rfl (fun cdv A outer s H E hr tk hp =>
    (ss_one (s_ret (e_and (e_call (ok_is_whole T) (hr.mono (by first | decide | omega)) T.g_is_whole T.k_is_whole T.b_is_whole tk (a_cons (e_var 0) a_nil)) (e_one (e_chain or_le or_lt e_int (e_var 0) (e_var 1)))))))
theorem sc_is_name : FnScope [("value" : Str), ("sign" : Str)] [("value" : Str)] (defScope s_is_name) := ⟨rfl, rfl, rfl, by decide +kernel, rfl, by decide +kernel, by decide +kernel⟩
theorem ok_is_name (T : Tx P K mg) : FnOk P w K mg base (L2.CX P w) 1 T.a_is_name T.d_is_name [("value" : Str)] (spM T.S 1 m_is_name) :=
  def_ok2 (k := 0) rfl false (fb := mb_is_name) T.F_is_name sc_is_name rfl rfl rfl (fun cdv A outer s H E hr tk hp =>
    (ss_cons (s_if (PW.pt (w_or (t_not (t_val (e_isi (e_var 0) T.n_isinstance T.n_str))) (w_or1 (t_not (t_chain or_le or_le e_int (e_callB1 cr_len T.n_len (e_var 0)) (e_gint T.g_MOST_LETTERS))))))
    (ss_one (s_ret e_bl))
    ss_nil)
    (ss_one (s_ret (e_callB1 cr_allD T.n_all (e_comp (own := [(("sign" : Str), 1)]) false (.nm 1) sc_is_name.nd (i_seq (e_var 0)) (blkOk_by (N := [("value" : Str), ("sign" : Str)]) (sc := defScope s_is_name) (by decide +kernel)) (fun _ _ _ _ _ => tg_nm 1 sc_is_name.nd) (fun _ _ _ _ _ => ts_nil) (fun _ _ _ _ _ => (e_cmp (or_in (hu65 hr)) (e_var 1) (e_gstr T.g_LETTERS)))))))))
theorem sc_is_process : FnScope [("value" : Str), ("elder" : Str), ("one" : Str)] [("value" : Str), ("elder" : Str)] (defScope s_is_process) := ⟨rfl, rfl, rfl, by decide +kernel, rfl, by decide +kernel, by decide +kernel⟩
theorem ok_is_process (T : Tx P K mg) : FnOk P w K mg base (L2.CX P w) 2 T.a_is_process T.d_is_process [("value" : Str), ("elder" : Str)] (spM T.S 2 m_is_process) :=
  def_ok2 (k := 1) rfl false (fb := mb_is_process) T.F_is_process sc_is_process rfl rfl rfl (fun cdv A outer s H E hr tk hp =>
    (ss_cons (s_if (PW.pt (w_or (t_cmp (or_ne (hu64 hr)) (e_callB1 cr_len T.n_len (e_var 0)) e_int) (w_or (t_not (t_val (e_call (ok_is_name T) (hr.mono (by first | decide | omega)) T.g_is_name T.k_is_name T.b_is_name tk (a_cons (e_ix (e_var 0) e_int) a_nil)))) (w_or1 (t_not (t_val (e_call (ok_is_whole T) (hr.mono (by first | decide | omega)) T.g_is_whole T.k_is_whole T.b_is_whole tk (a_cons (e_ix (e_var 0) e_int) a_nil))))))))
    (ss_one (s_ret e_bl))
    ss_nil)
    (ss_one (s_ret (e_and (e_chain or_le or_le e_int (e_ix (e_var 0) e_int) (e_gint T.g_MOST_STATES)) (e_one (e_cmp (or_notin (hu65 hr)) (e_slice false (e_var 0) o_none (o_some e_int)) (e_comp (own := [(("one" : Str), 2)]) false (.nm 2) sc_is_process.nd (i_seq (e_var 1)) (blkOk_by (N := [("value" : Str), ("elder" : Str), ("one" : Str)]) (sc := defScope s_is_process) (by decide +kernel)) (fun _ _ _ _ _ => tg_nm 2 sc_is_process.nd) (fun _ _ _ _ _ => ts_nil) (fun _ _ _ _ _ => (e_slice false (e_var 2) o_none (o_some e_int)))))))))))
theorem sc_is_channel : FnScope [("value" : Str), ("processes" : Str), ("elder" : Str), ("one" : Str)] [("value" : Str), ("processes" : Str), ("elder" : Str)] (defScope s_is_channel) := ⟨rfl, rfl, rfl, by decide +kernel, rfl, by decide +kernel, by decide +kernel⟩
theorem ok_is_channel (T : Tx P K mg) : FnOk P w K mg base (L2.CX P w) 3 T.a_is_channel T.d_is_channel [("value" : Str), ("processes" : Str), ("elder" : Str)] (spM T.S 3 m_is_channel) :=
  def_ok2 (k := 2) rfl false (fb := mb_is_channel) T.F_is_channel sc_is_channel rfl rfl rfl (fun cdv A outer s H E hr tk hp =>
    (ss_cons (s_if (PW.pt (w_or (t_cmp (or_ne (hu64 hr)) (e_callB1 cr_len T.n_len (e_var 0)) e_int) (w_or (t_not (t_val (e_call (ok_is_name T) (hr.mono (by first | decide | omega)) T.g_is_name T.k_is_name T.b_is_name tk (a_cons (e_ix (e_var 0) e_int) a_nil)))) (w_or1 (t_cmp (or_in (hu65 hr)) (e_slice false (e_var 0) o_none (o_some e_int)) (e_comp (own := [(("one" : Str), 3)]) false (.nm 3) sc_is_channel.nd (i_seq (e_var 2)) (blkOk_by (N := [("value" : Str), ("processes" : Str), ("elder" : Str), ("one" : Str)]) (sc := defScope s_is_channel) (by decide +kernel)) (fun _ _ _ _ _ => tg_nm 3 sc_is_channel.nd) (fun _ _ _ _ _ => ts_nil) (fun _ _ _ _ _ => (e_slice false (e_var 3) o_none (o_some e_int)))))))))
    (ss_one (s_ret e_bl))
    ss_nil)
    (ss_cons (s_if (PW.pt (w_or (t_not (t_val (e_call (ok_is_below T) (hr.mono (by first | decide | omega)) T.g_is_below T.k_is_below T.b_is_below tk (a_cons (e_ix (e_var 0) e_int) (a_cons (e_callB1 cr_len T.n_len (e_var 1)) a_nil))))) (w_or (t_not (t_val (e_call (ok_is_below T) (hr.mono (by first | decide | omega)) T.g_is_below T.k_is_below T.b_is_below tk (a_cons (e_ix (e_var 0) e_int) (a_cons (e_callB1 cr_len T.n_len (e_var 1)) a_nil))))) (w_or1 (t_cmp (or_eq (hu64 hr)) (e_ix (e_var 0) e_int) (e_ix (e_var 0) e_int))))))
    (ss_one (s_ret e_bl))
    ss_nil)
    (ss_one (s_ret (e_and (e_isi (e_ix (e_var 0) e_int) T.n_isinstance T.n_str) (e_one (e_cmp (or_in (hu65 hr)) (e_ix (e_var 0) e_int) (e_gtup T.g_KINDS)))))))))
theorem sc_is_act : FnScope [("act" : Str), ("process" : Str), ("channels" : Str)] [("act" : Str), ("process" : Str), ("channels" : Str)] (defScope s_is_act) := ⟨rfl, rfl, rfl, by decide +kernel, rfl, by decide +kernel, by decide +kernel⟩
theorem ok_is_act (T : Tx P K mg) : FnOk P w K mg base (L2.CX P w) 3 T.a_is_act T.d_is_act [("act" : Str), ("process" : Str), ("channels" : Str)] (spM T.S 3 m_is_act) :=
  def_ok2 (k := 2) rfl false (fb := mb_is_act) T.F_is_act sc_is_act rfl rfl rfl (fun cdv A outer s H E hr tk hp =>
    (ss_cons (s_if (PW.pt (w_or (t_not (t_val (e_isi (e_var 0) T.n_isinstance T.n_tuple))) (w_or (t_cmp (or_eq (hu64 hr)) (e_callB1 cr_len T.n_len (e_var 0)) e_int) (w_or1 (t_not (t_val (e_isi (e_ix (e_var 0) e_int) T.n_isinstance T.n_str)))))))
    (ss_one (s_ret e_bl))
    ss_nil)
    (ss_cons (s_if (t_cmp (or_eq (hu64 hr)) (e_ix (e_var 0) e_int) e_str)
    (ss_one (s_ret (e_cmp (or_eq (hu64 hr)) (e_callB1 cr_len T.n_len (e_var 0)) e_int)))
    ss_nil)
    (ss_cons (s_if (PW.pt (w_or (t_cmp (or_notin (hu65 hr)) (e_ix (e_var 0) e_int) (e_tup (a_cons e_str (a_cons e_str a_nil)))) (w_or1 (t_cmp (or_ne (hu64 hr)) (e_callB1 cr_len T.n_len (e_var 0)) e_int))))
    (ss_one (s_ret e_bl))
    ss_nil)
    (ss_cons (s_if (PW.pt (w_or (t_not (t_val (e_call (ok_is_below T) (hr.mono (by first | decide | omega)) T.g_is_below T.k_is_below T.b_is_below tk (a_cons (e_ix (e_var 0) e_int) (a_cons (e_callB1 cr_len T.n_len (e_var 2)) a_nil))))) (w_or1 (t_not (t_val (e_call (ok_is_below T) (hr.mono (by first | decide | omega)) T.g_is_below T.k_is_below T.b_is_below tk (a_cons (e_ix (e_var 0) e_int) (a_cons (e_gint T.g_TOKENS) a_nil))))))))
    (ss_one (s_ret e_bl))
    ss_nil)
    (ss_one (s_ret (e_cmp (or_eq (hu64 hr)) (e_ix (e_ix (e_var 2) (e_ix (e_var 0) e_int)) (e_if (t_cmp (or_eq (hu64 hr)) (e_ix (e_var 0) e_int) e_str) e_int e_int)) (e_var 1)))))))))
theorem sc_is_rule : FnScope [("value" : Str), ("processes" : Str), ("channels" : Str), ("states" : Str)] [("value" : Str), ("processes" : Str), ("channels" : Str)] (defScope s_is_rule) := ⟨rfl, rfl, rfl, by decide +kernel, rfl, by decide +kernel, by decide +kernel⟩
theorem ok_is_rule (T : Tx P K mg) : FnOk P w K mg base (L2.CX P w) 4 T.a_is_rule T.d_is_rule [("value" : Str), ("processes" : Str), ("channels" : Str)] (spM T.S 3 m_is_rule) :=
  def_ok2 (k := 3) rfl false (fb := mb_is_rule) T.F_is_rule sc_is_rule rfl rfl rfl (fun cdv A outer s H E hr tk hp =>
    (ss_cons (s_if (PW.pt (w_or (t_cmp (or_ne (hu64 hr)) (e_callB1 cr_len T.n_len (e_var 0)) e_int) (w_or1 (t_not (t_val (e_call (ok_is_below T) (hr.mono (by first | decide | omega)) T.g_is_below T.k_is_below T.b_is_below tk (a_cons (e_ix (e_var 0) e_int) (a_cons (e_callB1 cr_len T.n_len (e_var 1)) a_nil))))))))
    (ss_one (s_ret e_bl))
    ss_nil)
    (ss_cons (s_set 3 (e_ix (e_ix (e_var 1) (e_ix (e_var 0) e_int)) e_int) sc_is_rule.nd)
    (ss_one (s_ret (e_and (e_call (ok_is_below T) (hr.mono (by first | decide | omega)) T.g_is_below T.k_is_below T.b_is_below tk (a_cons (e_ix (e_var 0) e_int) (a_cons (e_var 3) a_nil))) (e_and (e_call (ok_is_below T) (hr.mono (by first | decide | omega)) T.g_is_below T.k_is_below T.b_is_below tk (a_cons (e_ix (e_var 0) e_int) (a_cons (e_var 3) a_nil))) (e_one (e_call (ok_is_act T) (hr.mono (by first | decide | omega)) T.g_is_act T.k_is_act T.b_is_act tk (a_cons (e_ix (e_var 0) e_int) (a_cons (e_ix (e_var 0) e_int) (a_cons (e_var 2) a_nil))))))))))))
theorem sc__frozen : FnScope [("value" : Str), ("depth" : Str), ("part" : Str)] [("value" : Str), ("depth" : Str)] (defScope s__frozen) := ⟨rfl, rfl, rfl, by decide +kernel, rfl, by decide +kernel, by decide +kernel⟩
theorem ok__frozen (T : Tx P K mg) : ∀ n, FnOk P w K mg base (L2.CX P w) (1 + n) T.a__frozen T.d__frozen [("value" : Str), ("depth" : Str)] (spM T.S 2 (m__frozen n))
  | 0 => bad_ok2 rfl rfl
  | n + 1 => by
    have IH : FnOk P w K mg base (L2.CX P w) (1 + n) T.a__frozen T.d__frozen [("value" : Str), ("depth" : Str)] (spM T.S 2 (m__frozen n)) := ok__frozen T n
    exact def_ok2 (k := 1 + n) rfl false (fb := mb__frozen (m__frozen n)) T.F__frozen sc__frozen rfl rfl rfl (fun cdv A outer s H E hr tk hp =>
    (ss_cons (s_if (PW.pt (w_and (t_cmp or_gt (e_var 1) e_int) (w_and1 (t_val (e_isi2 (e_var 0) T.n_isinstance T.n_list T.n_tuple)))))
    (ss_one (s_ret (e_callT1 cr_tuple T.n_tuple (e_comp (own := [(("part" : Str), 2)]) false (.nm 2) sc__frozen.nd (i_seq (e_var 0)) (blkOk_by (N := [("value" : Str), ("depth" : Str), ("part" : Str)]) (sc := defScope s__frozen) (by decide +kernel)) (fun _ _ _ _ _ => tg_nm 2 sc__frozen.nd) (fun _ _ _ _ _ => ts_nil) (fun _ _ _ _ _ => (e_call IH (hr.mono (by first | decide | omega)) T.g__frozen T.k__frozen T.b__frozen takes0 (a_cons (e_var 2) (a_cons (e_bin or_sub (e_var 1) e_int) a_nil))))))))
    ss_nil)
    (ss_one (s_ret (e_var 0)))))
theorem sc__rows : FnScope [("value" : Str), ("least" : Str), ("most" : Str), ("rows" : Str), ("row" : Str)] [("value" : Str), ("least" : Str), ("most" : Str)] (defScope s__rows) := ⟨rfl, rfl, rfl, by decide +kernel, rfl, by decide +kernel, by decide +kernel⟩
theorem ok__rows (T : Tx P K mg) : FnOk P w K mg base (L2.CX P w) 10 T.a__rows T.d__rows [("value" : Str), ("least" : Str), ("most" : Str)] (spM T.S 3 m__rows) :=
  def_ok2 (k := 9) rfl false (fb := mb__rows) T.F__rows sc__rows rfl rfl rfl (fun cdv A outer s H E hr tk hp =>
    (ss_cons (s_set 3 (e_call (ok__frozen T 8) (hr.mono (by first | decide | omega)) T.g__frozen T.k__frozen T.b__frozen tk (a_cons (e_var 0) (a_cons e_int a_nil))) sc__rows.nd)
    (ss_cons (s_if (PW.pt (w_or (t_not (t_val (e_isi (e_var 3) T.n_isinstance T.n_tuple))) (w_or1 (t_not (t_chain or_le or_le (e_var 1) (e_callB1 cr_len T.n_len (e_var 3)) (e_var 2))))))
    (ss_one (s_ret e_non))
    ss_nil)
    (ss_one (s_ret (e_if (t_val (e_callB1 cr_allD T.n_all (e_comp (own := [(("row" : Str), 4)]) false (.nm 4) sc__rows.nd (i_seq (e_var 3)) (blkOk_by (N := [("value" : Str), ("least" : Str), ("most" : Str), ("rows" : Str), ("row" : Str)]) (sc := defScope s__rows) (by decide +kernel)) (fun _ _ _ _ _ => tg_nm 4 sc__rows.nd) (fun _ _ _ _ _ => ts_nil) (fun _ _ _ _ _ => (e_isi (e_var 4) T.n_isinstance T.n_tuple))))) (e_var 3) e_non))))))
theorem sc_Net_init : FnScope [("self" : Str), ("processes" : Str), ("channels" : Str), ("rules" : Str), ("rows" : Str), ("ways" : Str), ("told" : Str), ("at" : Str), ("row" : Str), ("way" : Str), ("rule" : Str)] [("self" : Str), ("processes" : Str), ("channels" : Str), ("rules" : Str)] (defScope s_Net_init) := ⟨rfl, rfl, rfl, by decide +kernel, rfl, by decide +kernel, by decide +kernel⟩
theorem ok_Net_init (T : Tx P K mg) : FnOk P w K mg base (L2.CX P w) 11 T.a_Net_init T.d_Net_init [("self" : Str), ("processes" : Str), ("channels" : Str), ("rules" : Str)] (spM T.S 4 m_Net_init) :=
  def_ok2 (k := 10) rfl false (fb := mb_Net_init) T.F_Net_init sc_Net_init rfl rfl rfl (fun cdv A outer s H E hr tk hp =>
    (ss_cons (s_set 4 (e_call (ok__rows T) (hr.mono (by first | decide | omega)) T.g__rows T.k__rows T.b__rows tk (a_cons (e_var 1) (a_cons e_int (a_cons (e_gint T.g_MOST_PROCESSES) a_nil)))) sc_Net_init.nd)
    (ss_cons (s_if (PW.pt (w_or (t_isN (e_var 4)) (w_or1 (t_not (t_val (e_callB1 cr_allD T.n_all (e_comp (own := [(("at" : Str), 7), (("row" : Str), 8)]) false (.tp [7, 8]) sc_Net_init.nd (i_en (e_var 4) T.n_enumerate) (blkOk_by (N := [("self" : Str), ("processes" : Str), ("channels" : Str), ("rules" : Str), ("rows" : Str), ("ways" : Str), ("told" : Str), ("at" : Str), ("row" : Str), ("way" : Str), ("rule" : Str)]) (sc := defScope s_Net_init) (by decide +kernel)) (fun _ _ _ _ _ => tg_tp [7, 8] (gn_cons 7 sc_Net_init.nd (gn_cons 8 sc_Net_init.nd gn_nil))) (fun _ _ _ _ _ => ts_nil) (fun _ _ _ _ _ => (e_call (ok_is_process T) (hr.mono (by first | decide | omega)) T.g_is_process T.k_is_process T.b_is_process takes0 (a_cons (e_var 8) (a_cons (e_slice false (e_var 4) o_none (o_some (e_var 7))) a_nil)))))))))))
    (ss_one (s_raise 1 tk (E_at.pmk T.e_BadValue hr e_int)))
    ss_nil)
    (ss_cons (s_set 5 (e_call (ok__rows T) (hr.mono (by first | decide | omega)) T.g__rows T.k__rows T.b__rows tk (a_cons (e_var 2) (a_cons e_int (a_cons (e_gint T.g_MOST_CHANNELS) a_nil)))) sc_Net_init.nd)
    (ss_cons (s_if (PW.pt (w_or (t_isN (e_var 5)) (w_or1 (t_not (t_val (e_callB1 cr_allD T.n_all (e_comp (own := [(("at" : Str), 7), (("way" : Str), 9)]) false (.tp [7, 9]) sc_Net_init.nd (i_en (e_var 5) T.n_enumerate) (blkOk_by (N := [("self" : Str), ("processes" : Str), ("channels" : Str), ("rules" : Str), ("rows" : Str), ("ways" : Str), ("told" : Str), ("at" : Str), ("row" : Str), ("way" : Str), ("rule" : Str)]) (sc := defScope s_Net_init) (by decide +kernel)) (fun _ _ _ _ _ => tg_tp [7, 9] (gn_cons 7 sc_Net_init.nd (gn_cons 9 sc_Net_init.nd gn_nil))) (fun _ _ _ _ _ => ts_nil) (fun _ _ _ _ _ => (e_call (ok_is_channel T) (hr.mono (by first | decide | omega)) T.g_is_channel T.k_is_channel T.b_is_channel takes0 (a_cons (e_var 9) (a_cons (e_var 4) (a_cons (e_slice false (e_var 5) o_none (o_some (e_var 7))) a_nil))))))))))))
    (ss_one (s_raise 1 tk (E_at.pmk T.e_BadValue hr e_int)))
    ss_nil)
    (ss_cons (s_set 6 (e_call (ok__rows T) (hr.mono (by first | decide | omega)) T.g__rows T.k__rows T.b__rows tk (a_cons (e_var 3) (a_cons e_int (a_cons (e_gint T.g_MOST_RULES) a_nil)))) sc_Net_init.nd)
    (ss_cons (s_if (PW.pt (w_or (t_isN (e_var 6)) (w_or1 (t_not (t_val (e_callB1 cr_allD T.n_all (e_comp (own := [(("rule" : Str), 10)]) false (.nm 10) sc_Net_init.nd (i_seq (e_var 6)) (blkOk_by (N := [("self" : Str), ("processes" : Str), ("channels" : Str), ("rules" : Str), ("rows" : Str), ("ways" : Str), ("told" : Str), ("at" : Str), ("row" : Str), ("way" : Str), ("rule" : Str)]) (sc := defScope s_Net_init) (by decide +kernel)) (fun _ _ _ _ _ => tg_nm 10 sc_Net_init.nd) (fun _ _ _ _ _ => ts_nil) (fun _ _ _ _ _ => (e_call (ok_is_rule T) (hr.mono (by first | decide | omega)) T.g_is_rule T.k_is_rule T.b_is_rule takes0 (a_cons (e_var 10) (a_cons (e_var 4) (a_cons (e_var 5) a_nil))))))))))))
    (ss_one (s_raise 1 tk (E_at.pmk T.e_BadValue hr e_int)))
    ss_nil)
    (ss_cons (s_fld cls_all 3 (e_var 0) (e_var 4) T.fld3 T.an_inj)
    (ss_cons (s_fld cls_all 4 (e_var 0) (e_var 5) T.fld4 T.an_inj)
    (ss_one (s_fld cls_all 5 (e_var 0) (e_var 6) T.fld5 T.an_inj)))))))))))
theorem sc_start : FnScope [("net" : Str), ("channels" : Str)] [("net" : Str)] (defScope s_start) := ⟨rfl, rfl, rfl, by decide +kernel, rfl, by decide +kernel, by decide +kernel⟩
theorem ok_start (T : Tx P K mg) : FnOk P w K mg base (L2.CX P w) 1 T.a_start T.d_start [("net" : Str)] (spM T.S 1 m_start) :=
  def_ok2 (k := 0) rfl false (fb := mb_start) T.F_start sc_start rfl rfl rfl (fun cdv A outer s H E hr tk hp =>
    (ss_cons (s_set 1 (e_callB1 cr_len T.n_len (e_fld 4 (e_var 0) T.fld4 T.an_inj)) sc_start.nd)
    (ss_one (s_ret (e_tup (a_cons (e_bin (or_rep false) (e_tup (a_cons e_int a_nil)) (e_callB1 cr_len T.n_len (e_fld 3 (e_var 0) T.fld3 T.an_inj))) (a_cons (e_bin (or_rep false) (e_tup (a_cons e_int a_nil)) (e_var 1)) (a_cons (e_bin (or_rep false) (e_tup (a_cons (e_tup a_nil) a_nil)) (e_var 1)) a_nil))))))))
theorem sc_is_lossy : FnScope [("net" : Str), ("channel" : Str)] [("net" : Str), ("channel" : Str)] (defScope s_is_lossy) := ⟨rfl, rfl, rfl, by decide +kernel, rfl, by decide +kernel, by decide +kernel⟩
theorem ok_is_lossy (T : Tx P K mg) : FnOk P w K mg base (L2.CX P w) 1 T.a_is_lossy T.d_is_lossy [("net" : Str), ("channel" : Str)] (spM T.S 2 m_is_lossy) :=
  def_ok2 (k := 0) rfl false (fb := mb_is_lossy) T.F_is_lossy sc_is_lossy rfl rfl rfl (fun cdv A outer s H E hr tk hp =>
    (ss_one (s_ret (e_cmp (or_in (hu65 hr)) (e_ix (e_ix (e_fld 4 (e_var 0) T.fld4 T.an_inj) (e_var 1)) e_int) (e_tup (a_cons e_str (a_cons e_str a_nil)))))))
theorem sc_is_ordered : FnScope [("net" : Str), ("channel" : Str)] [("net" : Str), ("channel" : Str)] (defScope s_is_ordered) := ⟨rfl, rfl, rfl, by decide +kernel, rfl, by decide +kernel, by decide +kernel⟩
theorem ok_is_ordered (T : Tx P K mg) : FnOk P w K mg base (L2.CX P w) 1 T.a_is_ordered T.d_is_ordered [("net" : Str), ("channel" : Str)] (spM T.S 2 m_is_ordered) :=
  def_ok2 (k := 0) rfl false (fb := mb_is_ordered) T.F_is_ordered sc_is_ordered rfl rfl rfl (fun cdv A outer s H E hr tk hp =>
    (ss_one (s_ret (e_cmp (or_in (hu65 hr)) (e_ix (e_ix (e_fld 4 (e_var 0) T.fld4 T.an_inj) (e_var 1)) e_int) (e_tup (a_cons e_str (a_cons e_str a_nil)))))))
theorem sc_as_deed : FnScope [("net" : Str), ("deed" : Str), ("is_take" : Str), ("fits" : Str), ("part" : Str)] [("net" : Str), ("deed" : Str)] (defScope s_as_deed) := ⟨rfl, rfl, rfl, by decide +kernel, rfl, by decide +kernel, by decide +kernel⟩
theorem ok_as_deed (T : Tx P K mg) : FnOk P w K mg base (L2.CX P w) 3 T.a_as_deed T.d_as_deed [("net" : Str), ("deed" : Str)] (spM T.S 2 m_as_deed) :=
  def_ok2 (k := 2) rfl false (fb := mb_as_deed) T.F_as_deed sc_as_deed rfl rfl rfl (fun cdv A outer s H E hr tk hp =>
    (ss_cons (s_if (PW.pt (w_or (t_not (t_val (e_isi2 (e_var 1) T.n_isinstance T.n_list T.n_tuple))) (w_or (t_cmp or_lt (e_callB1 cr_len T.n_len (e_var 1)) e_int) (w_or1 (t_not (t_val (e_isi (e_ix (e_var 1) e_int) T.n_isinstance T.n_str)))))))
    (ss_one (s_ret e_non))
    ss_nil)
    (ss_cons (s_if (t_not (t_val (e_callB1 cr_allD T.n_all (e_comp (own := [(("part" : Str), 4)]) false (.nm 4) sc_as_deed.nd (i_seq (e_slice false (e_var 1) (o_some e_int) o_none)) (blkOk_by (N := [("net" : Str), ("deed" : Str), ("is_take" : Str), ("fits" : Str), ("part" : Str)]) (sc := defScope s_as_deed) (by decide +kernel)) (fun _ _ _ _ _ => tg_nm 4 sc_as_deed.nd) (fun _ _ _ _ _ => ts_nil) (fun _ _ _ _ _ => (e_and (e_call (ok_is_whole T) (hr.mono (by first | decide | omega)) T.g_is_whole T.k_is_whole T.b_is_whole takes0 (a_cons (e_var 4) a_nil)) (e_one (e_cmp or_ge (e_var 4) e_int))))))))
    (ss_one (s_ret e_non))
    ss_nil)
    (ss_cons (s_if (t_cmp (or_eq (hu64 hr)) (e_ix (e_var 1) e_int) e_str)
    (ss_cons (s_set 3 (e_and (e_cmp (or_eq (hu64 hr)) (e_callB1 cr_len T.n_len (e_var 1)) e_int) (e_and (e_call (ok_is_below T) (hr.mono (by first | decide | omega)) T.g_is_below T.k_is_below T.b_is_below tk (a_cons (e_ix (e_var 1) e_int) (a_cons (e_callB1 cr_len T.n_len (e_fld 4 (e_var 0) T.fld4 T.an_inj)) a_nil))) (e_one (e_call (ok_is_lossy T) (hr.mono (by first | decide | omega)) T.g_is_lossy T.k_is_lossy T.b_is_lossy tk (a_cons (e_var 0) (a_cons (e_ix (e_var 1) e_int) a_nil)))))) sc_as_deed.nd)
    (ss_one (s_ret (e_if (t_val (e_var 3)) (e_callT1 cr_tuple T.n_tuple (e_var 1)) e_non))))
    ss_nil)
    (ss_cons (s_if (PW.pt (w_or (t_cmp (or_notin (hu65 hr)) (e_ix (e_var 1) e_int) (e_tup (a_cons e_str (a_cons e_str a_nil)))) (w_or1 (t_not (t_val (e_call (ok_is_below T) (hr.mono (by first | decide | omega)) T.g_is_below T.k_is_below T.b_is_below tk (a_cons (e_ix (e_var 1) e_int) (a_cons (e_callB1 cr_len T.n_len (e_fld 5 (e_var 0) T.fld5 T.an_inj)) a_nil))))))))
    (ss_one (s_ret e_non))
    ss_nil)
    (ss_cons (s_set 2 (e_cmp (or_eq (hu64 hr)) (e_ix (e_ix (e_ix (e_fld 5 (e_var 0) T.fld5 T.an_inj) (e_ix (e_var 1) e_int)) e_int) e_int) e_str) sc_as_deed.nd)
    (ss_cons (s_set 3 (e_and (e_cmp (or_eq (hu64 hr)) (e_var 2) (e_cmp (or_eq (hu64 hr)) (e_ix (e_var 1) e_int) e_str)) (e_one (e_cmp (or_eq (hu64 hr)) (e_callB1 cr_len T.n_len (e_var 1)) (e_if (t_val (e_var 2)) e_int e_int)))) sc_as_deed.nd)
    (ss_one (s_ret (e_if (t_val (e_var 3)) (e_callT1 cr_tuple T.n_tuple (e_var 1)) e_non))))))))))
theorem sc_open_messages_of : FnScope [("net" : Str), ("world" : Str), ("channel" : Str), ("present" : Str), ("pair" : Str)] [("net" : Str), ("world" : Str), ("channel" : Str)] (defScope s_open_messages_of) := ⟨rfl, rfl, rfl, by decide +kernel, rfl, by decide +kernel, by decide +kernel⟩
theorem ok_open_messages_of (T : Tx P K mg) : FnOk P w K mg base (L2.CX P w) 2 T.a_open_messages_of T.d_open_messages_of [("net" : Str), ("world" : Str), ("channel" : Str)] (spM T.S 3 m_open_messages_of) :=
  def_ok2 (k := 1) rfl false (fb := mb_open_messages_of) T.F_open_messages_of sc_open_messages_of rfl rfl rfl (fun cdv A outer s H E hr tk hp =>
    (ss_cons (s_set 3 (e_callT1 cr_tuple T.n_tuple (e_comp (own := [(("pair" : Str), 4)]) false (.nm 4) sc_open_messages_of.nd (i_seq (e_ix (e_ix (e_var 1) e_int) (e_var 2))) (blkOk_by (N := [("net" : Str), ("world" : Str), ("channel" : Str), ("present" : Str), ("pair" : Str)]) (sc := defScope s_open_messages_of) (by decide +kernel)) (fun _ _ _ _ _ => tg_nm 4 sc_open_messages_of.nd) (fun _ _ _ _ _ => ts_nil) (fun _ _ _ _ _ => (e_callT1 cr_tuple T.n_tuple (e_var 4))))) sc_open_messages_of.nd)
    (ss_one (s_ret (e_if (t_val (e_call (ok_is_ordered T) (hr.mono (by first | decide | omega)) T.g_is_ordered T.k_is_ordered T.b_is_ordered tk (a_cons (e_var 0) (a_cons (e_var 2) a_nil)))) (e_slice false (e_var 3) o_none (o_some e_int)) (e_var 3))))))
theorem sc_can_do : FnScope [("net" : Str), ("world" : Str), ("deed" : Str), ("process" : Str), ("state" : Str), ("act" : Str), ("_" : Str), ("k" : Str)] [("net" : Str), ("world" : Str), ("deed" : Str)] (defScope s_can_do) := ⟨rfl, rfl, rfl, by decide +kernel, rfl, by decide +kernel, by decide +kernel⟩
theorem ok_can_do (T : Tx P K mg) : FnOk P w K mg base (L2.CX P w) 3 T.a_can_do T.d_can_do [("net" : Str), ("world" : Str), ("deed" : Str)] (spM T.S 3 m_can_do) :=
  def_ok2 (k := 2) rfl false (fb := mb_can_do) T.F_can_do sc_can_do rfl rfl rfl (fun cdv A outer s H E hr tk hp =>
    (ss_cons (s_if (t_cmp (or_eq (hu64 hr)) (e_ix (e_var 2) e_int) e_str)
    (ss_one (s_ret (e_cmp (or_in (hu65 hr)) (e_ix (e_var 2) e_int) (e_comp (own := [(("k" : Str), 7), (("_" : Str), 6)]) false (.tp [7, 6]) sc_can_do.nd (i_seq (e_call (ok_open_messages_of T) (hr.mono (by first | decide | omega)) T.g_open_messages_of T.k_open_messages_of T.b_open_messages_of tk (a_cons (e_var 0) (a_cons (e_var 1) (a_cons (e_ix (e_var 2) e_int) a_nil))))) (blkOk_by (N := [("net" : Str), ("world" : Str), ("deed" : Str), ("process" : Str), ("state" : Str), ("act" : Str), ("_" : Str), ("k" : Str)]) (sc := defScope s_can_do) (by decide +kernel)) (fun _ _ _ _ _ => tg_tp [7, 6] (gn_cons 7 sc_can_do.nd (gn_cons 6 sc_can_do.nd gn_nil))) (fun _ _ _ _ _ => ts_nil) (fun _ _ _ _ _ => (e_var 7))))))
    ss_nil)
    (ss_cons (s_asg (e_ix (e_fld 5 (e_var 0) T.fld5 T.an_inj) (e_ix (e_var 2) e_int)) (g_tup (n := 4) (gs_cons (g_name 3 sc_can_do.nd) (gs_cons (g_name 4 sc_can_do.nd) (gs_cons (g_name 5 sc_can_do.nd) (gs_cons (g_name 6 sc_can_do.nd) gs_nil))))))
    (ss_cons (s_if (t_cmp (or_ne (hu64 hr)) (e_ix (e_ix (e_var 1) e_int) (e_var 3)) (e_var 4))
    (ss_one (s_ret e_bl))
    ss_nil)
    (ss_one (s_ret (e_or (e_cmp (or_eq (hu64 hr)) (e_ix (e_var 2) e_int) e_str) (e_one (e_cmp (or_in (hu65 hr)) (e_tup (a_cons (e_ix (e_var 2) e_int) (a_cons (e_ix (e_var 5) e_int) a_nil))) (e_call (ok_open_messages_of T) (hr.mono (by first | decide | omega)) T.g_open_messages_of T.k_open_messages_of T.b_open_messages_of tk (a_cons (e_var 0) (a_cons (e_var 1) (a_cons (e_ix (e_var 5) e_int) a_nil)))))))))))))
theorem sc_possible : FnScope [("net" : Str), ("world" : Str), ("found" : Str), ("at" : Str), ("rule" : Str), ("channel" : Str), ("row" : Str), ("k" : Str), ("_" : Str), ("token" : Str)] [("net" : Str), ("world" : Str)] (defScope s_possible) := ⟨rfl, rfl, rfl, by decide +kernel, rfl, by decide +kernel, by decide +kernel⟩
theorem ok_possible (T : Tx P K mg) : FnOk P w K mg base (L2.CX P w) 3 T.a_possible T.d_possible [("net" : Str), ("world" : Str)] (spM T.S 2 m_possible) :=
  def_ok2 (k := 2) rfl false (fb := mb_possible) T.F_possible sc_possible rfl rfl rfl (fun cdv A outer s H E hr tk hp =>
    (ss_cons (s_set 2 (e_lst true a_nil) sc_possible.nd)
    (ss_cons (s_for hp (i_en (e_fld 5 (e_var 0) T.fld5 T.an_inj) T.n_enumerate) (g_tup (n := 2) (gs_cons (g_name 3 sc_possible.nd) (gs_cons (g_name 4 sc_possible.nd) gs_nil)))
    (ss_one (s_if (PW.pt (w_and (t_cmp (or_eq (hu64 hr)) (e_ix (e_ix (e_var 1) e_int) (e_ix (e_var 4) e_int)) (e_ix (e_var 4) e_int)) (w_and1 (t_cmp (or_ne (hu64 hr)) (e_ix (e_ix (e_var 4) e_int) e_int) e_str))))
    (ss_one (s_expr (e_append (e_var 2) (e_tup (a_cons e_str (a_cons (e_var 3) a_nil))))))
    (ss_one (s_if (t_cmp (or_eq (hu64 hr)) (e_ix (e_ix (e_var 1) e_int) (e_ix (e_var 4) e_int)) (e_ix (e_var 4) e_int))
    (ss_cons (s_set 6 (e_call (ok_open_messages_of T) (hr.mono (by first | decide | omega)) T.g_open_messages_of T.k_open_messages_of T.b_open_messages_of tk (a_cons (e_var 0) (a_cons (e_var 1) (a_cons (e_ix (e_ix (e_var 4) e_int) e_int) a_nil)))) sc_possible.nd)
    (ss_one (s_expr (e_meth PySem.F.plainAttrs_list PySem.F.slot_list_extend PySem.F.type_list_extend m_extend (e_var 2) (a_cons (e_comp (own := [(("k" : Str), 7), (("token" : Str), 9)]) false (.tp [7, 9]) sc_possible.nd (i_seq (e_var 6)) (blkOk_by (N := [("net" : Str), ("world" : Str), ("found" : Str), ("at" : Str), ("rule" : Str), ("channel" : Str), ("row" : Str), ("k" : Str), ("_" : Str), ("token" : Str)]) (sc := defScope s_possible) (by decide +kernel)) (fun _ _ _ _ _ => tg_tp [7, 9] (gn_cons 7 sc_possible.nd (gn_cons 9 sc_possible.nd gn_nil))) (fun _ _ _ _ _ => (ts_one (t_cmp (or_eq (hu64 hr)) (e_var 9) (e_ix (e_ix (e_var 4) e_int) e_int)))) (fun _ _ _ _ _ => (e_tup (a_cons e_str (a_cons (e_var 3) (a_cons (e_var 7) a_nil)))))) a_nil)))))
    ss_nil)))))
    (ss_cons (s_for hp (i_rg1 (e_callB1 cr_len T.n_len (e_fld 4 (e_var 0) T.fld4 T.an_inj)) T.n_range) (g_name 5 sc_possible.nd)
    (ss_one (s_if (t_val (e_call (ok_is_lossy T) (hr.mono (by first | decide | omega)) T.g_is_lossy T.k_is_lossy T.b_is_lossy tk (a_cons (e_var 0) (a_cons (e_var 5) a_nil))))
    (ss_one (s_expr (e_meth PySem.F.plainAttrs_list PySem.F.slot_list_extend PySem.F.type_list_extend m_extend (e_var 2) (a_cons (e_comp (own := [(("k" : Str), 7), (("_" : Str), 8)]) false (.tp [7, 8]) sc_possible.nd (i_seq (e_call (ok_open_messages_of T) (hr.mono (by first | decide | omega)) T.g_open_messages_of T.k_open_messages_of T.b_open_messages_of tk (a_cons (e_var 0) (a_cons (e_var 1) (a_cons (e_var 5) a_nil))))) (blkOk_by (N := [("net" : Str), ("world" : Str), ("found" : Str), ("at" : Str), ("rule" : Str), ("channel" : Str), ("row" : Str), ("k" : Str), ("_" : Str), ("token" : Str)]) (sc := defScope s_possible) (by decide +kernel)) (fun _ _ _ _ _ => tg_tp [7, 8] (gn_cons 7 sc_possible.nd (gn_cons 8 sc_possible.nd gn_nil))) (fun _ _ _ _ _ => ts_nil) (fun _ _ _ _ _ => (e_tup (a_cons e_str (a_cons (e_var 5) (a_cons (e_var 7) a_nil)))))) a_nil))))
    ss_nil)))
    (ss_one (s_ret (e_callT1 cr_tuple T.n_tuple (e_var 2))))))))
theorem sc__with_part : FnScope [("row" : Str), ("at" : Str), ("part" : Str)] [("row" : Str), ("at" : Str), ("part" : Str)] (defScope s__with_part) := ⟨rfl, rfl, rfl, by decide +kernel, rfl, by decide +kernel, by decide +kernel⟩
theorem ok__with_part (T : Tx P K mg) : FnOk P w K mg base (L2.CX P w) 1 T.a__with_part T.d__with_part [("row" : Str), ("at" : Str), ("part" : Str)] (spM T.S 3 m__with_part) :=
  def_ok2 (k := 0) rfl false (fb := mb__with_part) T.F__with_part sc__with_part rfl rfl rfl (fun cdv A outer s H E hr tk hp =>
    (ss_one (s_ret (e_bin (or_add false) (e_bin (or_add false) (e_callT1 cr_tuple T.n_tuple (e_slice false (e_var 0) o_none (o_some (e_var 1)))) (e_tup (a_cons (e_var 2) a_nil))) (e_callT1 cr_tuple T.n_tuple (e_slice false (e_var 0) (o_some (e_bin (or_add false) (e_var 1) e_int)) o_none))))))
theorem sc__without_message : FnScope [("present" : Str), ("channel" : Str), ("k" : Str), ("left" : Str), ("pair" : Str)] [("present" : Str), ("channel" : Str), ("k" : Str)] (defScope s__without_message) := ⟨rfl, rfl, rfl, by decide +kernel, rfl, by decide +kernel, by decide +kernel⟩
theorem ok__without_message (T : Tx P K mg) : FnOk P w K mg base (L2.CX P w) 2 T.a__without_message T.d__without_message [("present" : Str), ("channel" : Str), ("k" : Str)] (spM T.S 3 m__without_message) :=
  def_ok2 (k := 1) rfl false (fb := mb__without_message) T.F__without_message sc__without_message rfl rfl rfl (fun cdv A outer s H E hr tk hp =>
    (ss_cons (s_set 3 (e_callT1 cr_tuple T.n_tuple (e_comp (own := [(("pair" : Str), 4)]) false (.nm 4) sc__without_message.nd (i_seq (e_ix (e_var 0) (e_var 1))) (blkOk_by (N := [("present" : Str), ("channel" : Str), ("k" : Str), ("left" : Str), ("pair" : Str)]) (sc := defScope s__without_message) (by decide +kernel)) (fun _ _ _ _ _ => tg_nm 4 sc__without_message.nd) (fun _ _ _ _ _ => (ts_one (t_cmp (or_ne (hu64 hr)) (e_ix (e_var 4) e_int) (e_var 2)))) (fun _ _ _ _ _ => (e_callT1 cr_tuple T.n_tuple (e_var 4))))) sc__without_message.nd)
    (ss_one (s_ret (e_call (ok__with_part T) (hr.mono (by first | decide | omega)) T.g__with_part T.k__with_part T.b__with_part tk (a_cons (e_var 0) (a_cons (e_var 1) (a_cons (e_var 3) a_nil))))))))
theorem sc_behind : FnScope [("net" : Str), ("world" : Str), ("deed" : Str), ("states" : Str), ("sent" : Str), ("present" : Str), ("process" : Str), ("_" : Str), ("act" : Str), ("then" : Str), ("k" : Str), ("row" : Str), ("pair" : Str)] [("net" : Str), ("world" : Str), ("deed" : Str)] (defScope s_behind) := ⟨rfl, rfl, rfl, by decide +kernel, rfl, by decide +kernel, by decide +kernel⟩
theorem ok_behind (T : Tx P K mg) : FnOk P w K mg base (L2.CX P w) 3 T.a_behind T.d_behind [("net" : Str), ("world" : Str), ("deed" : Str)] (spM T.S 3 m_behind) :=
  def_ok2 (k := 2) rfl false (fb := mb_behind) T.F_behind sc_behind rfl rfl rfl (fun cdv A outer s H E hr tk hp =>
    (ss_cons (s_set 3 (e_callT1 cr_tuple T.n_tuple (e_ix (e_var 1) e_int)) sc_behind.nd)
    (ss_cons (s_set 4 (e_callT1 cr_tuple T.n_tuple (e_ix (e_var 1) e_int)) sc_behind.nd)
    (ss_cons (s_set 5 (e_callT1 cr_tuple T.n_tuple (e_comp (own := [(("row" : Str), 11)]) false (.nm 11) sc_behind.nd (i_seq (e_ix (e_var 1) e_int)) (blkOk_by (N := [("net" : Str), ("world" : Str), ("deed" : Str), ("states" : Str), ("sent" : Str), ("present" : Str), ("process" : Str), ("_" : Str), ("act" : Str), ("then" : Str), ("k" : Str), ("row" : Str), ("pair" : Str)]) (sc := defScope s_behind) (by decide +kernel)) (fun _ _ _ _ _ => tg_nm 11 sc_behind.nd) (fun _ _ _ _ _ => ts_nil) (fun _ _ _ _ _ => (e_callT1 cr_tuple T.n_tuple (e_comp (own := [(("pair" : Str), 12)]) false (.nm 12) sc_behind.nd (i_seq (e_var 11)) (blk_relabel (blkOk_by (N := [("net" : Str), ("world" : Str), ("deed" : Str), ("states" : Str), ("sent" : Str), ("present" : Str), ("process" : Str), ("_" : Str), ("act" : Str), ("then" : Str), ("k" : Str), ("row" : Str), ("pair" : Str)]) (by decide +kernel))) (fun _ _ _ _ _ => tg_nm 12 sc_behind.nd) (fun _ _ _ _ _ => ts_nil) (fun _ _ _ _ _ => (e_callT1 cr_tuple T.n_tuple (e_var 12)))))))) sc_behind.nd)
    (ss_cons (s_if (t_cmp (or_eq (hu64 hr)) (e_ix (e_var 2) e_int) e_str)
    (ss_one (s_ret (e_tup (a_cons (e_var 3) (a_cons (e_var 4) (a_cons (e_call (ok__without_message T) (hr.mono (by first | decide | omega)) T.g__without_message T.k__without_message T.b__without_message tk (a_cons (e_var 5) (a_cons (e_ix (e_var 2) e_int) (a_cons (e_ix (e_var 2) e_int) a_nil)))) a_nil))))))
    ss_nil)
    (ss_cons (s_asg (e_ix (e_fld 5 (e_var 0) T.fld5 T.an_inj) (e_ix (e_var 2) e_int)) (g_tup (n := 4) (gs_cons (g_name 6 sc_behind.nd) (gs_cons (g_name 7 sc_behind.nd) (gs_cons (g_name 8 sc_behind.nd) (gs_cons (g_name 9 sc_behind.nd) gs_nil))))))
    (ss_cons (s_set 3 (e_call (ok__with_part T) (hr.mono (by first | decide | omega)) T.g__with_part T.k__with_part T.b__with_part tk (a_cons (e_var 3) (a_cons (e_var 6) (a_cons (e_var 9) a_nil)))) sc_behind.nd)
    (ss_cons (s_if (t_cmp (or_eq (hu64 hr)) (e_ix (e_var 8) e_int) e_str)
    (ss_one (s_ret (e_tup (a_cons (e_var 3) (a_cons (e_var 4) (a_cons (e_call (ok__without_message T) (hr.mono (by first | decide | omega)) T.g__without_message T.k__without_message T.b__without_message tk (a_cons (e_var 5) (a_cons (e_ix (e_var 8) e_int) (a_cons (e_ix (e_var 2) e_int) a_nil)))) a_nil))))))
    ss_nil)
    (ss_cons (s_if (t_cmp (or_eq (hu64 hr)) (e_ix (e_var 8) e_int) e_str)
    (ss_cons (s_set 10 (e_ix (e_var 4) (e_ix (e_var 8) e_int)) sc_behind.nd)
    (ss_cons (s_set 5 (e_call (ok__with_part T) (hr.mono (by first | decide | omega)) T.g__with_part T.k__with_part T.b__with_part tk (a_cons (e_var 5) (a_cons (e_ix (e_var 8) e_int) (a_cons (e_bin (or_add false) (e_ix (e_var 5) (e_ix (e_var 8) e_int)) (e_tup (a_cons (e_tup (a_cons (e_var 10) (a_cons (e_ix (e_var 8) e_int) a_nil))) a_nil))) a_nil)))) sc_behind.nd)
    (ss_one (s_set 4 (e_call (ok__with_part T) (hr.mono (by first | decide | omega)) T.g__with_part T.k__with_part T.b__with_part tk (a_cons (e_var 4) (a_cons (e_ix (e_var 8) e_int) (a_cons (e_bin (or_add false) (e_var 10) e_int) a_nil)))) sc_behind.nd))))
    ss_nil)
    (ss_one (s_ret (e_tup (a_cons (e_var 3) (a_cons (e_var 4) (a_cons (e_var 5) a_nil)))))))))))))))
theorem sc_done : FnScope [("net" : Str), ("world" : Str), ("deed" : Str), ("clean" : Str)] [("net" : Str), ("world" : Str), ("deed" : Str)] (defScope s_done) := ⟨rfl, rfl, rfl, by decide +kernel, rfl, by decide +kernel, by decide +kernel⟩
theorem ok_done (T : Tx P K mg) : FnOk P w K mg base (L2.CX P w) 4 T.a_done T.d_done [("net" : Str), ("world" : Str), ("deed" : Str)] (spM T.S 3 m_done) :=
  def_ok2 (k := 3) rfl false (fb := mb_done) T.F_done sc_done rfl rfl rfl (fun cdv A outer s H E hr tk hp =>
    (ss_cons (s_set 3 (e_call (ok_as_deed T) (hr.mono (by first | decide | omega)) T.g_as_deed T.k_as_deed T.b_as_deed tk (a_cons (e_var 0) (a_cons (e_var 2) a_nil))) sc_done.nd)
    (ss_cons (s_if (PW.pt (w_or (t_isN (e_var 3)) (w_or1 (t_not (t_val (e_call (ok_can_do T) (hr.mono (by first | decide | omega)) T.g_can_do T.k_can_do T.b_can_do tk (a_cons (e_var 0) (a_cons (e_var 1) (a_cons (e_var 3) a_nil)))))))))
    (ss_one (s_raise 3 tk (E_at.pmk T.e_BadStep hr e_int)))
    ss_nil)
    (ss_one (s_ret (e_call (ok_behind T) (hr.mono (by first | decide | omega)) T.g_behind T.k_behind T.b_behind tk (a_cons (e_var 0) (a_cons (e_var 1) (a_cons (e_var 3) a_nil)))))))))
theorem sc__law_mix : FnScope [("_law_cell" : Str), ("_law_salt" : Str), ("_law_one" : Str)] [("_law_cell" : Str), ("_law_salt" : Str)] (defScope s__law_mix) := ⟨rfl, rfl, rfl, by decide +kernel, rfl, by decide +kernel, by decide +kernel⟩
theorem ok__law_mix (T : Tx P K mg) : FnOk P w K mg base (L2.CX P w) 1 T.a__law_mix T.d__law_mix [("_law_cell" : Str), ("_law_salt" : Str)] (spM T.S 2 m__law_mix) :=
  def_ok2 (k := 0) rfl false (fb := mb__law_mix) T.F__law_mix sc__law_mix rfl rfl rfl (fun cdv A outer s H E hr tk hp =>
    (ss_cons (s_set 2 (e_bin or_mod (e_callT1 cr_int T.n_int (e_bin (or_add false) (e_bin (or_add false) (e_bin or_mulX (e_var 0) e_int) (e_bin or_mulX (e_var 1) e_int)) e_int)) e_int) sc__law_mix.nd)
    (ss_one (s_ret (e_bin or_mod (e_callT1 cr_int T.n_int (e_bin (or_add false) (e_bin (or_add false) (e_bin or_mulX (e_var 2) (e_var 2)) (e_bin or_mulX (e_var 2) e_int)) (e_bin or_mulX (e_var 1) e_int))) e_int)))))
theorem sc__law_box : FnScope [("_law_script" : Str), ("_law_at" : Str), ("_law_cell" : Str)] [("_law_script" : Str), ("_law_at" : Str)] (defScope s__law_box) := ⟨rfl, rfl, rfl, by decide +kernel, rfl, by decide +kernel, by decide +kernel⟩
theorem ok__law_box (T : Tx P K mg) : FnOk P w K mg base (L2.CX P w) 1 T.a__law_box T.d__law_box [("_law_script" : Str), ("_law_at" : Str)] (spM T.S 2 m__law_box) :=
  def_ok2 (k := 0) rfl true (fb := mb__law_box) T.F__law_box sc__law_box rfl rfl rfl (fun cdv A outer s H E hr tk hp =>
    (ss_one (s_ret (e_lst true (a_cons e_int (a_cons e_int (a_cons (e_var 1) (a_cons e_int (a_cons (e_var 1) (a_cons (e_comp (own := [(("_law_cell" : Str), 2)]) false (.nm 2) sc__law_box.nd (i_seq (e_var 0)) (blkOk_by (N := [("_law_script" : Str), ("_law_at" : Str), ("_law_cell" : Str)]) (sc := defScope s__law_box) (by decide +kernel)) (fun _ _ _ _ _ => tg_nm 2 sc__law_box.nd) (fun _ _ _ _ _ => ts_nil) (fun _ _ _ _ _ => (e_callT1 cr_int T.n_int (e_var 2)))) a_nil))))))))))
theorem sc__law_draw : FnScope [("_law_box_here" : Str), ("_law_many" : Str), ("_law_cell" : Str), ("_law_drawn" : Str)] [("_law_box_here" : Str), ("_law_many" : Str)] (defScope s__law_draw) := ⟨rfl, rfl, rfl, by decide +kernel, rfl, by decide +kernel, by decide +kernel⟩
theorem ok__law_draw (T : Tx P K mg) : FnOk P w K mg base (L2.CX P w) 2 T.a__law_draw T.d__law_draw [("_law_box_here" : Str), ("_law_many" : Str)] (spM T.S 2 m__law_draw) :=
  def_ok2 (k := 1) rfl false (fb := mb__law_draw) T.F__law_draw sc__law_draw rfl rfl rfl (fun cdv A outer s H E hr tk hp =>
    (ss_cons (s_if (PW.pt (w_and (t_cmp (or_eq (hu64 hr)) (e_ix (e_var 0) e_int) e_int) (w_and1 (t_cmp or_lt (e_ix (e_var 0) e_int) (e_callB1 cr_len T.n_len (e_ix (e_var 0) e_int))))))
    (ss_cons (s_set 2 (e_ix (e_ix (e_var 0) e_int) (e_ix (e_var 0) e_int)) sc__law_draw.nd)
    (ss_cons (s_asg (e_bin (or_add false) (e_ix (e_var 0) e_int) e_int) (g_sub (W := (WC E)) (e_var 0) e_int))
    (ss_cons (s_asg (e_bin or_mod (e_callT1 cr_int T.n_int (e_bin (or_add false) (e_bin or_mulX (e_ix (e_var 0) e_int) e_int) (e_var 2))) e_int) (g_sub (W := (WC E)) (e_var 0) e_int))
    (ss_one (s_if (t_cmp or_ge (e_var 2) (e_bin or_pow e_int e_int))
    (ss_cons (s_asg (e_bin or_sub (e_var 2) (e_bin or_pow e_int e_int)) (g_sub (W := (WC E)) (e_var 0) e_int))
    (ss_one (s_asg e_int (g_sub (W := (WC E)) (e_var 0) e_int))))
    ss_nil)))))
    ss_nil)
    (ss_cons (s_if (PW.pt (w_and (t_cmp or_gt (e_ix (e_var 0) e_int) e_int) (w_and1 (t_cmp or_gt (e_ix (e_var 0) e_int) e_int))))
    (ss_cons (s_set 3 (e_bin or_mod (e_callT1 cr_int T.n_int (e_ix (e_var 0) e_int)) (e_var 1)) sc__law_draw.nd)
    (ss_cons (s_asg (e_bin or_fdiv (e_ix (e_var 0) e_int) (e_var 1)) (g_sub (W := (WC E)) (e_var 0) e_int))
    (ss_cons (s_asg (e_bin or_sub (e_ix (e_var 0) e_int) e_int) (g_sub (W := (WC E)) (e_var 0) e_int))
    (ss_one (s_ret (e_var 3))))))
    ss_nil)
    (ss_cons (s_asg e_int (g_sub (W := (WC E)) (e_var 0) e_int))
    (ss_cons (s_asg (e_bin (or_add false) (e_ix (e_var 0) e_int) e_int) (g_sub (W := (WC E)) (e_var 0) e_int))
    (ss_one (s_ret (e_bin or_mod (e_callT1 cr_int T.n_int (e_call (ok__law_mix T) (hr.mono (by first | decide | omega)) T.g__law_mix T.k__law_mix T.b__law_mix tk (a_cons (e_ix (e_var 0) e_int) (a_cons (e_ix (e_var 0) e_int) a_nil)))) (e_var 1)))))))))
theorem sc__law_alike : FnScope [("_law_told" : Str), ("_law_due" : Str), ("_law_k" : Str)] [("_law_told" : Str), ("_law_due" : Str)] (defScope s__law_alike) := ⟨rfl, rfl, rfl, by decide +kernel, rfl, by decide +kernel, by decide +kernel⟩
theorem ok__law_alike (T : Tx P K mg) : ∀ n, FnOk P w K mg base (L2.CX P w) (1 + n) T.a__law_alike T.d__law_alike [("_law_told" : Str), ("_law_due" : Str)] (spM T.S 2 (m__law_alike n))
  | 0 => bad_ok2 rfl rfl
  | n + 1 => by
    have IH : FnOk P w K mg base (L2.CX P w) (1 + n) T.a__law_alike T.d__law_alike [("_law_told" : Str), ("_law_due" : Str)] (spM T.S 2 (m__law_alike n)) := ok__law_alike T n
    exact def_ok2 (k := 1 + n) rfl false (fb := mb__law_alike (m__law_alike n)) T.F__law_alike sc__law_alike rfl rfl rfl (fun cdv A outer s H E hr tk hp =>
    (ss_cons (s_if (t_val (e_isi2 (e_var 1) T.n_isinstance T.n_tuple T.n_list))
    (ss_cons (s_if (PW.pt (w_or (t_cmp (or_ne (hu64 hr)) (e_isi (e_var 0) T.n_isinstance T.n_tuple) (e_isi (e_var 1) T.n_isinstance T.n_tuple)) (w_or1 (t_cmp (or_ne (hu64 hr)) (e_isi (e_var 0) T.n_isinstance T.n_list) (e_isi (e_var 1) T.n_isinstance T.n_list)))))
    (ss_one (s_ret e_bl))
    ss_nil)
    (ss_cons (s_if (t_cmp (or_ne (hu64 hr)) (e_callB1 cr_len T.n_len (e_var 0)) (e_callB1 cr_len T.n_len (e_var 1)))
    (ss_one (s_ret e_bl))
    ss_nil)
    (ss_cons (s_for hp (i_rg1 (e_callB1 cr_len T.n_len (e_var 1)) T.n_range) (g_name 2 sc__law_alike.nd)
    (ss_one (s_if (t_not (t_val (e_call IH (hr.mono (by first | decide | omega)) T.g__law_alike T.k__law_alike T.b__law_alike tk (a_cons (e_ix (e_var 0) (e_var 2)) (a_cons (e_ix (e_var 1) (e_var 2)) a_nil)))))
    (ss_one (s_ret e_bl))
    ss_nil)))
    (ss_one (s_ret e_bl)))))
    ss_nil)
    (ss_cons (s_if (t_isN (e_var 1))
    (ss_one (s_ret (e_isN (e_var 0))))
    ss_nil)
    (ss_cons (s_if (t_val (e_isi (e_var 1) T.n_isinstance T.n_bool))
    (ss_one (s_ret (e_and (e_isi (e_var 0) T.n_isinstance T.n_bool) (e_one (e_cmp (or_eq (hu64 hr)) (e_var 0) (e_var 1))))))
    ss_nil)
    (ss_cons (s_if (t_val (e_isi (e_var 1) T.n_isinstance T.n_str))
    (ss_one (s_ret (e_and (e_isi (e_var 0) T.n_isinstance T.n_str) (e_one (e_cmp (or_eq (hu64 hr)) (e_var 0) (e_var 1))))))
    ss_nil)
    (ss_one (s_ret (e_and (e_isi (e_var 0) T.n_isinstance T.n_int) (e_and (e_not (e_isi (e_var 0) T.n_isinstance T.n_bool)) (e_one (e_cmp (or_eq (hu64 hr)) (e_var 0) (e_var 1))))))))))))
theorem sc__law_names : FnScope [("_law_box_here" : Str), ("_law_pool" : Str), ("_law_many" : Str), ("_law_left" : Str), ("_law_names_here" : Str), ("_law_k" : Str)] [("_law_box_here" : Str), ("_law_pool" : Str), ("_law_many" : Str)] (defScope s__law_names) := ⟨rfl, rfl, rfl, by decide +kernel, rfl, by decide +kernel, by decide +kernel⟩
theorem ok__law_names (T : Tx P K mg) : FnOk P w K mg base (L2.CX P w) 3 T.a__law_names T.d__law_names [("_law_box_here" : Str), ("_law_pool" : Str), ("_law_many" : Str)] (spM T.S 3 m__law_names) :=
  def_ok2 (k := 2) rfl false (fb := mb__law_names) T.F__law_names sc__law_names rfl rfl rfl (fun cdv A outer s H E hr tk hp =>
    (ss_cons (s_set 3 (e_callT1 (cr_list true) T.n_list (e_var 1)) sc__law_names.nd)
    (ss_cons (s_set 4 (e_lst true a_nil) sc__law_names.nd)
    (ss_cons (s_for hp (i_rg1 (e_var 2) T.n_range) (g_name 5 sc__law_names.nd)
    (ss_one (s_expr (e_append (e_var 4) (e_meth PySem.F.plainAttrs_list PySem.F.slot_list_pop PySem.F.type_list_pop m_popAt (e_var 3) (a_cons (e_call (ok__law_draw T) (hr.mono (by first | decide | omega)) T.g__law_draw T.k__law_draw T.b__law_draw tk (a_cons (e_var 0) (a_cons (e_callB1 cr_len T.n_len (e_var 3)) a_nil))) a_nil))))))
    (ss_one (s_ret (e_var 4)))))))
theorem sc__law_channels : FnScope [("_law_box_here" : Str), ("_law_many" : Str), ("_law_channels_here" : Str), ("_law_count" : Str), ("_law_name" : Str), ("_law_giver" : Str), ("_law_taker" : Str), ("_law_kind" : Str)] [("_law_box_here" : Str), ("_law_many" : Str)] (defScope s__law_channels) := ⟨rfl, rfl, rfl, by decide +kernel, rfl, by decide +kernel, by decide +kernel⟩
theorem ok__law_channels (T : Tx P K mg) : FnOk P w K mg base (L2.CX P w) 4 T.a__law_channels T.d__law_channels [("_law_box_here" : Str), ("_law_many" : Str)] (spM T.S 2 m__law_channels) :=
  def_ok2 (k := 3) rfl false (fb := mb__law_channels) T.F__law_channels sc__law_channels rfl rfl rfl (fun cdv A outer s H E hr tk hp =>
    (ss_cons (s_set 2 (e_lst true a_nil) sc__law_channels.nd)
    (ss_cons (s_if (t_cmp or_gt (e_var 1) e_int)
    (ss_cons (s_set 3 (e_call (ok__law_draw T) (hr.mono (by first | decide | omega)) T.g__law_draw T.k__law_draw T.b__law_draw tk (a_cons (e_var 0) (a_cons (e_ix (e_lst false (a_cons e_int (a_cons e_int a_nil))) (e_callT1 cr_int T.n_int (e_cmp (or_eq (hu64 hr)) (e_call (ok__law_draw T) (hr.mono (by first | decide | omega)) T.g__law_draw T.k__law_draw T.b__law_draw tk (a_cons (e_var 0) (a_cons e_int a_nil))) e_int))) a_nil))) sc__law_channels.nd)
    (ss_one (s_for hp (i_seq (e_call (ok__law_names T) (hr.mono (by first | decide | omega)) T.g__law_names T.k__law_names T.b__law_names tk (a_cons (e_var 0) (a_cons (e_lst false (a_cons e_str (a_cons e_str (a_cons e_str (a_cons e_str (a_cons e_str (a_cons e_str (a_cons e_str (a_cons e_str (a_cons e_str a_nil)))))))))) (a_cons (e_var 3) a_nil))))) (g_name 4 sc__law_channels.nd)
    (ss_cons (s_set 5 (e_call (ok__law_draw T) (hr.mono (by first | decide | omega)) T.g__law_draw T.k__law_draw T.b__law_draw tk (a_cons (e_var 0) (a_cons (e_var 1) a_nil))) sc__law_channels.nd)
    (ss_cons (s_set 6 (e_bin or_mod (e_callT1 cr_int T.n_int (e_bin (or_add false) (e_bin (or_add false) (e_var 5) e_int) (e_call (ok__law_draw T) (hr.mono (by first | decide | omega)) T.g__law_draw T.k__law_draw T.b__law_draw tk (a_cons (e_var 0) (a_cons (e_bin or_sub (e_var 1) e_int) a_nil))))) (e_var 1)) sc__law_channels.nd)
    (ss_cons (s_set 7 (e_ix (e_lst false (a_cons e_str (a_cons e_str (a_cons e_str (a_cons e_str a_nil))))) (e_call (ok__law_draw T) (hr.mono (by first | decide | omega)) T.g__law_draw T.k__law_draw T.b__law_draw tk (a_cons (e_var 0) (a_cons e_int a_nil)))) sc__law_channels.nd)
    (ss_one (s_expr (e_append (e_var 2) (e_tup (a_cons (e_var 4) (a_cons (e_var 5) (a_cons (e_var 6) (a_cons (e_var 7) a_nil))))))))))))))
    ss_nil)
    (ss_one (s_ret (e_var 2))))))
theorem sc__law_rule : FnScope [("_law_box_here" : Str), ("_law_processes" : Str), ("_law_channels_here" : Str), ("_law_tokens" : Str), ("_law_process" : Str), ("_law_states" : Str), ("_law_act" : Str), ("_law_mine" : Str), ("_law_c" : Str)] [("_law_box_here" : Str), ("_law_processes" : Str), ("_law_channels_here" : Str), ("_law_tokens" : Str)] (defScope s__law_rule) := ⟨rfl, rfl, rfl, by decide +kernel, rfl, by decide +kernel, by decide +kernel⟩
theorem ok__law_rule (T : Tx P K mg) : FnOk P w K mg base (L2.CX P w) 3 T.a__law_rule T.d__law_rule [("_law_box_here" : Str), ("_law_processes" : Str), ("_law_channels_here" : Str), ("_law_tokens" : Str)] (spM T.S 4 m__law_rule) :=
  def_ok2 (k := 2) rfl false (fb := mb__law_rule) T.F__law_rule sc__law_rule rfl rfl rfl (fun cdv A outer s H E hr tk hp =>
    (ss_cons (s_set 4 (e_call (ok__law_draw T) (hr.mono (by first | decide | omega)) T.g__law_draw T.k__law_draw T.b__law_draw tk (a_cons (e_var 0) (a_cons (e_callB1 cr_len T.n_len (e_var 1)) a_nil))) sc__law_rule.nd)
    (ss_cons (s_set 5 (e_ix (e_ix (e_var 1) (e_var 4)) e_int) sc__law_rule.nd)
    (ss_cons (s_set 6 (e_tup (a_cons e_str a_nil)) sc__law_rule.nd)
    (ss_cons (s_comp (own := [(("_law_c" : Str), 8)]) 7 false (.nm 8) sc__law_rule.nd (i_rg1 (e_callB1 cr_len T.n_len (e_var 2)) T.n_range) (blkOk_by (N := [("_law_box_here" : Str), ("_law_processes" : Str), ("_law_channels_here" : Str), ("_law_tokens" : Str), ("_law_process" : Str), ("_law_states" : Str), ("_law_act" : Str), ("_law_mine" : Str), ("_law_c" : Str)]) (sc := defScope s__law_rule) (by decide +kernel)) (fun _ _ _ _ _ => tg_nm 8 sc__law_rule.nd) (fun _ _ _ _ _ => (ts_one (t_cmp (or_in (hu65 hr)) (e_var 4) (e_slice false (e_ix (e_var 2) (e_var 8)) (o_some e_int) (o_some e_int))))) (fun _ _ _ _ _ => (e_var 8)))
    (ss_cons (s_if (PW.pt (w_and (t_cmp or_gt (e_callB1 cr_len T.n_len (e_var 7)) e_int) (w_and1 (t_cmp or_gt (e_call (ok__law_draw T) (hr.mono (by first | decide | omega)) T.g__law_draw T.k__law_draw T.b__law_draw tk (a_cons (e_var 0) (a_cons e_int a_nil))) e_int))))
    (ss_cons (s_set 8 (e_ix (e_var 7) (e_call (ok__law_draw T) (hr.mono (by first | decide | omega)) T.g__law_draw T.k__law_draw T.b__law_draw tk (a_cons (e_var 0) (a_cons (e_callB1 cr_len T.n_len (e_var 7)) a_nil)))) sc__law_rule.nd)
    (ss_one (s_set 6 (e_tup (a_cons (e_ix (e_lst false (a_cons e_str (a_cons e_str a_nil))) (e_callT1 cr_int T.n_int (e_cmp (or_eq (hu64 hr)) (e_ix (e_ix (e_var 2) (e_var 8)) e_int) (e_var 4)))) (a_cons (e_var 8) (a_cons (e_call (ok__law_draw T) (hr.mono (by first | decide | omega)) T.g__law_draw T.k__law_draw T.b__law_draw tk (a_cons (e_var 0) (a_cons (e_var 3) a_nil))) a_nil)))) sc__law_rule.nd)))
    ss_nil)
    (ss_one (s_ret (e_tup (a_cons (e_var 4) (a_cons (e_call (ok__law_draw T) (hr.mono (by first | decide | omega)) T.g__law_draw T.k__law_draw T.b__law_draw tk (a_cons (e_var 0) (a_cons (e_var 5) a_nil))) (a_cons (e_var 6) (a_cons (e_call (ok__law_draw T) (hr.mono (by first | decide | omega)) T.g__law_draw T.k__law_draw T.b__law_draw tk (a_cons (e_var 0) (a_cons (e_var 5) a_nil))) a_nil)))))))))))))
theorem sc__law_net : FnScope [("_law_box_here" : Str), ("_law_many" : Str), ("_law_processes" : Str), ("_law_name" : Str), ("_law_channels_here" : Str), ("_law_tokens" : Str), ("_law_count" : Str), ("_law_rules" : Str), ("_law_k" : Str)] [("_law_box_here" : Str)] (defScope s__law_net) := ⟨rfl, rfl, rfl, by decide +kernel, rfl, by decide +kernel, by decide +kernel⟩
theorem ok__law_net (T : Tx P K mg) : FnOk P w K mg base (L2.CX P w) 5 T.a__law_net T.d__law_net [("_law_box_here" : Str)] (spM T.S 1 m__law_net) :=
  def_ok2 (k := 4) rfl false (fb := mb__law_net) T.F__law_net sc__law_net rfl rfl rfl (fun cdv A outer s H E hr tk hp =>
    (ss_cons (s_set 1 (e_bin (or_add false) e_int (e_call (ok__law_draw T) (hr.mono (by first | decide | omega)) T.g__law_draw T.k__law_draw T.b__law_draw tk (a_cons (e_var 0) (a_cons (e_ix (e_lst false (a_cons e_int (a_cons e_int a_nil))) (e_callT1 cr_int T.n_int (e_cmp (or_eq (hu64 hr)) (e_call (ok__law_draw T) (hr.mono (by first | decide | omega)) T.g__law_draw T.k__law_draw T.b__law_draw tk (a_cons (e_var 0) (a_cons e_int a_nil))) e_int))) a_nil)))) sc__law_net.nd)
    (ss_cons (s_if (PW.pt (w_and (t_cmp (or_eq (hu64 hr)) (e_var 1) e_int) (w_and1 (t_cmp (or_eq (hu64 hr)) (e_call (ok__law_draw T) (hr.mono (by first | decide | omega)) T.g__law_draw T.k__law_draw T.b__law_draw tk (a_cons (e_var 0) (a_cons e_int a_nil))) e_int))))
    (ss_one (s_set 1 e_int sc__law_net.nd))
    ss_nil)
    (ss_cons (s_set 2 (e_lst true a_nil) sc__law_net.nd)
    (ss_cons (s_for hp (i_seq (e_call (ok__law_names T) (hr.mono (by first | decide | omega)) T.g__law_names T.k__law_names T.b__law_names tk (a_cons (e_var 0) (a_cons (e_lst false (a_cons e_str (a_cons e_str (a_cons e_str (a_cons e_str (a_cons e_str (a_cons e_str (a_cons e_str a_nil)))))))) (a_cons (e_var 1) a_nil))))) (g_name 3 sc__law_net.nd)
    (ss_one (s_expr (e_append (e_var 2) (e_tup (a_cons (e_var 3) (a_cons (e_bin (or_add false) e_int (e_call (ok__law_draw T) (hr.mono (by first | decide | omega)) T.g__law_draw T.k__law_draw T.b__law_draw tk (a_cons (e_var 0) (a_cons (e_ix (e_lst false (a_cons e_int (a_cons e_int a_nil))) (e_callT1 cr_int T.n_int (e_cmp (or_eq (hu64 hr)) (e_call (ok__law_draw T) (hr.mono (by first | decide | omega)) T.g__law_draw T.k__law_draw T.b__law_draw tk (a_cons (e_var 0) (a_cons e_int a_nil))) e_int))) a_nil)))) a_nil)))))))
    (ss_cons (s_set 4 (e_call (ok__law_channels T) (hr.mono (by first | decide | omega)) T.g__law_channels T.k__law_channels T.b__law_channels tk (a_cons (e_var 0) (a_cons (e_var 1) a_nil))) sc__law_net.nd)
    (ss_cons (s_set 5 (e_ix (e_lst false (a_cons e_int (a_cons e_int (a_cons e_int a_nil)))) (e_call (ok__law_draw T) (hr.mono (by first | decide | omega)) T.g__law_draw T.k__law_draw T.b__law_draw tk (a_cons (e_var 0) (a_cons e_int a_nil)))) sc__law_net.nd)
    (ss_cons (s_set 6 (e_call (ok__law_draw T) (hr.mono (by first | decide | omega)) T.g__law_draw T.k__law_draw T.b__law_draw tk (a_cons (e_var 0) (a_cons (e_ix (e_lst false (a_cons e_int (a_cons e_int (a_cons e_int a_nil)))) (e_call (ok__law_draw T) (hr.mono (by first | decide | omega)) T.g__law_draw T.k__law_draw T.b__law_draw tk (a_cons (e_var 0) (a_cons e_int a_nil)))) a_nil))) sc__law_net.nd)
    (ss_cons (s_comp (own := [(("_law_k" : Str), 8)]) 7 false (.nm 8) sc__law_net.nd (i_rg1 (e_var 6) T.n_range) (blkOk_by (N := [("_law_box_here" : Str), ("_law_many" : Str), ("_law_processes" : Str), ("_law_name" : Str), ("_law_channels_here" : Str), ("_law_tokens" : Str), ("_law_count" : Str), ("_law_rules" : Str), ("_law_k" : Str)]) (sc := defScope s__law_net) (by decide +kernel)) (fun _ _ _ _ _ => tg_nm 8 sc__law_net.nd) (fun _ _ _ _ _ => ts_nil) (fun _ _ _ _ _ => (e_call (ok__law_rule T) (hr.mono (by first | decide | omega)) T.g__law_rule T.k__law_rule T.b__law_rule takes0 (a_cons (e_var 0) (a_cons (e_var 2) (a_cons (e_var 4) (a_cons (e_var 5) a_nil)))))))
    (ss_one (s_ret (e_tup (a_cons (e_callT1 cr_tuple T.n_tuple (e_var 2)) (a_cons (e_callT1 cr_tuple T.n_tuple (e_var 4)) (a_cons (e_callT1 cr_tuple T.n_tuple (e_var 7)) a_nil)))))))))))))))
theorem sc__law_start : FnScope [("_law_net_here" : Str)] [("_law_net_here" : Str)] (defScope s__law_start) := ⟨rfl, rfl, rfl, by decide +kernel, rfl, by decide +kernel, by decide +kernel⟩
theorem ok__law_start (T : Tx P K mg) : FnOk P w K mg base (L2.CX P w) 1 T.a__law_start T.d__law_start [("_law_net_here" : Str)] (spM T.S 1 m__law_start) :=
  def_ok2 (k := 0) rfl false (fb := mb__law_start) T.F__law_start sc__law_start rfl rfl rfl (fun cdv A outer s H E hr tk hp =>
    (ss_one (s_ret (e_tup (a_cons (e_callT1 cr_tuple T.n_tuple (e_bin (or_rep false) (e_lst false (a_cons e_int a_nil)) (e_callB1 cr_len T.n_len (e_ix (e_var 0) e_int)))) (a_cons (e_callT1 cr_tuple T.n_tuple (e_bin (or_rep false) (e_lst false (a_cons e_int a_nil)) (e_callB1 cr_len T.n_len (e_ix (e_var 0) e_int)))) (a_cons (e_callT1 cr_tuple T.n_tuple (e_bin (or_rep false) (e_lst false (a_cons (e_tup a_nil) a_nil)) (e_callB1 cr_len T.n_len (e_ix (e_var 0) e_int)))) a_nil)))))))
theorem sc__law_takes : FnScope [("_law_net_here" : Str), ("_law_world" : Str), ("_law_r" : Str), ("_law_rule_here" : Str), ("_law_present" : Str), ("_law_pair" : Str)] [("_law_net_here" : Str), ("_law_world" : Str), ("_law_r" : Str)] (defScope s__law_takes) := ⟨rfl, rfl, rfl, by decide +kernel, rfl, by decide +kernel, by decide +kernel⟩
theorem ok__law_takes (T : Tx P K mg) : FnOk P w K mg base (L2.CX P w) 1 T.a__law_takes T.d__law_takes [("_law_net_here" : Str), ("_law_world" : Str), ("_law_r" : Str)] (spM T.S 3 m__law_takes) :=
  def_ok2 (k := 0) rfl false (fb := mb__law_takes) T.F__law_takes sc__law_takes rfl rfl rfl (fun cdv A outer s H E hr tk hp =>
    (ss_cons (s_set 3 (e_ix (e_ix (e_var 0) e_int) (e_var 2)) sc__law_takes.nd)
    (ss_cons (s_set 4 (e_ix (e_ix (e_var 1) e_int) (e_ix (e_ix (e_var 3) e_int) e_int)) sc__law_takes.nd)
    (ss_cons (s_if (t_cmp (or_in (hu65 hr)) (e_ix (e_ix (e_ix (e_var 0) e_int) (e_ix (e_ix (e_var 3) e_int) e_int)) e_int) (e_lst false (a_cons e_str (a_cons e_str a_nil))))
    (ss_one (s_set 4 (e_slice false (e_var 4) o_none (o_some e_int)) sc__law_takes.nd))
    ss_nil)
    (ss_one (s_ret (e_comp (own := [(("_law_pair" : Str), 5)]) false (.nm 5) sc__law_takes.nd (i_seq (e_var 4)) (blkOk_by (N := [("_law_net_here" : Str), ("_law_world" : Str), ("_law_r" : Str), ("_law_rule_here" : Str), ("_law_present" : Str), ("_law_pair" : Str)]) (sc := defScope s__law_takes) (by decide +kernel)) (fun _ _ _ _ _ => tg_nm 5 sc__law_takes.nd) (fun _ _ _ _ _ => (ts_one (t_cmp (or_eq (hu64 hr)) (e_ix (e_var 5) e_int) (e_ix (e_ix (e_var 3) e_int) e_int)))) (fun _ _ _ _ _ => (e_ix (e_var 5) e_int)))))))))
theorem sc__law_possible : FnScope [("_law_net_here" : Str), ("_law_world" : Str), ("_law_found" : Str), ("_law_r" : Str), ("_law_c" : Str), ("_law_rule_here" : Str), ("_law_pair" : Str), ("_law_k" : Str)] [("_law_net_here" : Str), ("_law_world" : Str)] (defScope s__law_possible) := ⟨rfl, rfl, rfl, by decide +kernel, rfl, by decide +kernel, by decide +kernel⟩
theorem ok__law_possible (T : Tx P K mg) : FnOk P w K mg base (L2.CX P w) 2 T.a__law_possible T.d__law_possible [("_law_net_here" : Str), ("_law_world" : Str)] (spM T.S 2 m__law_possible) :=
  def_ok2 (k := 1) rfl false (fb := mb__law_possible) T.F__law_possible sc__law_possible rfl rfl rfl (fun cdv A outer s H E hr tk hp =>
    (ss_cons (s_set 2 (e_lst true a_nil) sc__law_possible.nd)
    (ss_cons (s_for hp (i_rg1 (e_callB1 cr_len T.n_len (e_ix (e_var 0) e_int)) T.n_range) (g_name 3 sc__law_possible.nd)
    (ss_cons (s_set 5 (e_ix (e_ix (e_var 0) e_int) (e_var 3)) sc__law_possible.nd)
    (ss_one (s_if (t_cmp (or_eq (hu64 hr)) (e_ix (e_ix (e_var 1) e_int) (e_ix (e_var 5) e_int)) (e_ix (e_var 5) e_int))
    (ss_one (s_if (t_cmp (or_eq (hu64 hr)) (e_ix (e_ix (e_var 5) e_int) e_int) e_str)
    (ss_one (s_set 2 (e_bin (or_add true) (e_var 2) (e_comp (own := [(("_law_k" : Str), 7)]) false (.nm 7) sc__law_possible.nd (i_seq (e_call (ok__law_takes T) (hr.mono (by first | decide | omega)) T.g__law_takes T.k__law_takes T.b__law_takes tk (a_cons (e_var 0) (a_cons (e_var 1) (a_cons (e_var 3) a_nil))))) (blkOk_by (N := [("_law_net_here" : Str), ("_law_world" : Str), ("_law_found" : Str), ("_law_r" : Str), ("_law_c" : Str), ("_law_rule_here" : Str), ("_law_pair" : Str), ("_law_k" : Str)]) (sc := defScope s__law_possible) (by decide +kernel)) (fun _ _ _ _ _ => tg_nm 7 sc__law_possible.nd) (fun _ _ _ _ _ => ts_nil) (fun _ _ _ _ _ => (e_tup (a_cons e_str (a_cons (e_var 3) (a_cons (e_var 7) a_nil))))))) sc__law_possible.nd))
    (ss_one (s_expr (e_append (e_var 2) (e_tup (a_cons e_str (a_cons (e_var 3) a_nil))))))))
    ss_nil))))
    (ss_cons (s_for hp (i_rg1 (e_callB1 cr_len T.n_len (e_ix (e_var 0) e_int)) T.n_range) (g_name 4 sc__law_possible.nd)
    (ss_cons (s_if (t_cmp (or_eq (hu64 hr)) (e_ix (e_ix (e_ix (e_var 0) e_int) (e_var 4)) e_int) e_str)
    (ss_one (s_set 2 (e_bin (or_add true) (e_var 2) (e_comp (own := [(("_law_pair" : Str), 6)]) false (.nm 6) sc__law_possible.nd (i_seq (e_slice false (e_ix (e_ix (e_var 1) e_int) (e_var 4)) o_none (o_some e_int))) (blkOk_by (N := [("_law_net_here" : Str), ("_law_world" : Str), ("_law_found" : Str), ("_law_r" : Str), ("_law_c" : Str), ("_law_rule_here" : Str), ("_law_pair" : Str), ("_law_k" : Str)]) (sc := defScope s__law_possible) (by decide +kernel)) (fun _ _ _ _ _ => tg_nm 6 sc__law_possible.nd) (fun _ _ _ _ _ => ts_nil) (fun _ _ _ _ _ => (e_tup (a_cons e_str (a_cons (e_var 4) (a_cons (e_ix (e_var 6) e_int) a_nil))))))) sc__law_possible.nd))
    ss_nil)
    (ss_one (s_if (t_cmp (or_eq (hu64 hr)) (e_ix (e_ix (e_ix (e_var 0) e_int) (e_var 4)) e_int) e_str)
    (ss_one (s_set 2 (e_bin (or_add true) (e_var 2) (e_comp (own := [(("_law_pair" : Str), 6)]) false (.nm 6) sc__law_possible.nd (i_seq (e_ix (e_ix (e_var 1) e_int) (e_var 4))) (blkOk_by (N := [("_law_net_here" : Str), ("_law_world" : Str), ("_law_found" : Str), ("_law_r" : Str), ("_law_c" : Str), ("_law_rule_here" : Str), ("_law_pair" : Str), ("_law_k" : Str)]) (sc := defScope s__law_possible) (by decide +kernel)) (fun _ _ _ _ _ => tg_nm 6 sc__law_possible.nd) (fun _ _ _ _ _ => ts_nil) (fun _ _ _ _ _ => (e_tup (a_cons e_str (a_cons (e_var 4) (a_cons (e_ix (e_var 6) e_int) a_nil))))))) sc__law_possible.nd))
    ss_nil))))
    (ss_one (s_ret (e_callT1 cr_tuple T.n_tuple (e_var 2))))))))
theorem sc__law_with : FnScope [("_law_row" : Str), ("_law_at" : Str), ("_law_value" : Str)] [("_law_row" : Str), ("_law_at" : Str), ("_law_value" : Str)] (defScope s__law_with) := ⟨rfl, rfl, rfl, by decide +kernel, rfl, by decide +kernel, by decide +kernel⟩
theorem ok__law_with (T : Tx P K mg) : FnOk P w K mg base (L2.CX P w) 1 T.a__law_with T.d__law_with [("_law_row" : Str), ("_law_at" : Str), ("_law_value" : Str)] (spM T.S 3 m__law_with) :=
  def_ok2 (k := 0) rfl false (fb := mb__law_with) T.F__law_with sc__law_with rfl rfl rfl (fun cdv A outer s H E hr tk hp =>
    (ss_one (s_ret (e_bin (or_add false) (e_bin (or_add false) (e_slice false (e_var 0) o_none (o_some (e_var 1))) (e_tup (a_cons (e_var 2) a_nil))) (e_slice false (e_var 0) (o_some (e_bin (or_add false) (e_var 1) e_int)) o_none)))))
theorem sc__law_done : FnScope [("_law_net_here" : Str), ("_law_world" : Str), ("_law_deed" : Str), ("_law_states" : Str), ("_law_sent" : Str), ("_law_present" : Str), ("_law_rule_here" : Str), ("_law_c" : Str), ("_law_left" : Str), ("_law_row" : Str), ("_law_pair" : Str)] [("_law_net_here" : Str), ("_law_world" : Str), ("_law_deed" : Str)] (defScope s__law_done) := ⟨rfl, rfl, rfl, by decide +kernel, rfl, by decide +kernel, by decide +kernel⟩
theorem ok__law_done (T : Tx P K mg) : FnOk P w K mg base (L2.CX P w) 2 T.a__law_done T.d__law_done [("_law_net_here" : Str), ("_law_world" : Str), ("_law_deed" : Str)] (spM T.S 3 m__law_done) :=
  def_ok2 (k := 1) rfl false (fb := mb__law_done) T.F__law_done sc__law_done rfl rfl rfl (fun cdv A outer s H E hr tk hp =>
    (ss_cons (s_asg (e_var 1) (g_tup (n := 3) (gs_cons (g_name 3 sc__law_done.nd) (gs_cons (g_name 4 sc__law_done.nd) (gs_cons (g_name 5 sc__law_done.nd) gs_nil)))))
    (ss_cons (s_if (t_cmp (or_eq (hu64 hr)) (e_ix (e_var 2) e_int) e_str)
    (ss_cons (s_set 8 (e_callT1 cr_tuple T.n_tuple (e_comp (own := [(("_law_pair" : Str), 10)]) false (.nm 10) sc__law_done.nd (i_seq (e_ix (e_var 5) (e_ix (e_var 2) e_int))) (blkOk_by (N := [("_law_net_here" : Str), ("_law_world" : Str), ("_law_deed" : Str), ("_law_states" : Str), ("_law_sent" : Str), ("_law_present" : Str), ("_law_rule_here" : Str), ("_law_c" : Str), ("_law_left" : Str), ("_law_row" : Str), ("_law_pair" : Str)]) (sc := defScope s__law_done) (by decide +kernel)) (fun _ _ _ _ _ => tg_nm 10 sc__law_done.nd) (fun _ _ _ _ _ => (ts_one (t_cmp (or_ne (hu64 hr)) (e_ix (e_var 10) e_int) (e_ix (e_var 2) e_int)))) (fun _ _ _ _ _ => (e_var 10)))) sc__law_done.nd)
    (ss_one (s_ret (e_tup (a_cons (e_var 3) (a_cons (e_var 4) (a_cons (e_call (ok__law_with T) (hr.mono (by first | decide | omega)) T.g__law_with T.k__law_with T.b__law_with tk (a_cons (e_var 5) (a_cons (e_ix (e_var 2) e_int) (a_cons (e_var 8) a_nil)))) a_nil)))))))
    ss_nil)
    (ss_cons (s_set 6 (e_ix (e_ix (e_var 0) e_int) (e_ix (e_var 2) e_int)) sc__law_done.nd)
    (ss_cons (s_set 3 (e_call (ok__law_with T) (hr.mono (by first | decide | omega)) T.g__law_with T.k__law_with T.b__law_with tk (a_cons (e_var 3) (a_cons (e_ix (e_var 6) e_int) (a_cons (e_ix (e_var 6) e_int) a_nil)))) sc__law_done.nd)
    (ss_cons (s_if (t_cmp (or_eq (hu64 hr)) (e_ix (e_ix (e_var 6) e_int) e_int) e_str)
    (ss_one (s_ret (e_tup (a_cons (e_var 3) (a_cons (e_var 4) (a_cons (e_var 5) a_nil))))))
    ss_nil)
    (ss_cons (s_set 7 (e_ix (e_ix (e_var 6) e_int) e_int) sc__law_done.nd)
    (ss_cons (s_if (t_cmp (or_eq (hu64 hr)) (e_ix (e_ix (e_var 6) e_int) e_int) e_str)
    (ss_cons (s_set 9 (e_bin (or_add false) (e_ix (e_var 5) (e_var 7)) (e_tup (a_cons (e_tup (a_cons (e_ix (e_var 4) (e_var 7)) (a_cons (e_ix (e_ix (e_var 6) e_int) e_int) a_nil))) a_nil))) sc__law_done.nd)
    (ss_one (s_ret (e_tup (a_cons (e_var 3) (a_cons (e_call (ok__law_with T) (hr.mono (by first | decide | omega)) T.g__law_with T.k__law_with T.b__law_with tk (a_cons (e_var 4) (a_cons (e_var 7) (a_cons (e_bin (or_add false) (e_ix (e_var 4) (e_var 7)) e_int) a_nil)))) (a_cons (e_call (ok__law_with T) (hr.mono (by first | decide | omega)) T.g__law_with T.k__law_with T.b__law_with tk (a_cons (e_var 5) (a_cons (e_var 7) (a_cons (e_var 9) a_nil)))) a_nil)))))))
    ss_nil)
    (ss_cons (s_set 8 (e_callT1 cr_tuple T.n_tuple (e_comp (own := [(("_law_pair" : Str), 10)]) false (.nm 10) sc__law_done.nd (i_seq (e_ix (e_var 5) (e_var 7))) (blkOk_by (N := [("_law_net_here" : Str), ("_law_world" : Str), ("_law_deed" : Str), ("_law_states" : Str), ("_law_sent" : Str), ("_law_present" : Str), ("_law_rule_here" : Str), ("_law_c" : Str), ("_law_left" : Str), ("_law_row" : Str), ("_law_pair" : Str)]) (sc := defScope s__law_done) (by decide +kernel)) (fun _ _ _ _ _ => tg_nm 10 sc__law_done.nd) (fun _ _ _ _ _ => (ts_one (t_cmp (or_ne (hu64 hr)) (e_ix (e_var 10) e_int) (e_ix (e_var 2) e_int)))) (fun _ _ _ _ _ => (e_var 10)))) sc__law_done.nd)
    (ss_one (s_ret (e_tup (a_cons (e_var 3) (a_cons (e_var 4) (a_cons (e_call (ok__law_with T) (hr.mono (by first | decide | omega)) T.g__law_with T.k__law_with T.b__law_with tk (a_cons (e_var 5) (a_cons (e_var 7) (a_cons (e_var 8) a_nil)))) a_nil)))))))))))))))
theorem sc__law_step : FnScope [("_law_box_here" : Str), ("_law_net_here" : Str), ("_law_world" : Str), ("_law_deeds" : Str), ("_law_deed" : Str)] [("_law_box_here" : Str), ("_law_net_here" : Str), ("_law_world" : Str)] (defScope s__law_step) := ⟨rfl, rfl, rfl, by decide +kernel, rfl, by decide +kernel, by decide +kernel⟩
theorem ok__law_step (T : Tx P K mg) : FnOk P w K mg base (L2.CX P w) 3 T.a__law_step T.d__law_step [("_law_box_here" : Str), ("_law_net_here" : Str), ("_law_world" : Str)] (spM T.S 3 m__law_step) :=
  def_ok2 (k := 2) rfl false (fb := mb__law_step) T.F__law_step sc__law_step rfl rfl rfl (fun cdv A outer s H E hr tk hp =>
    (ss_cons (s_set 3 (e_call (ok__law_possible T) (hr.mono (by first | decide | omega)) T.g__law_possible T.k__law_possible T.b__law_possible tk (a_cons (e_var 1) (a_cons (e_var 2) a_nil))) sc__law_step.nd)
    (ss_cons (s_if (t_cmp (or_eq (hu64 hr)) (e_callB1 cr_len T.n_len (e_var 3)) e_int)
    (ss_one (s_ret (e_tup a_nil)))
    ss_nil)
    (ss_cons (s_set 4 (e_ix (e_var 3) (e_call (ok__law_draw T) (hr.mono (by first | decide | omega)) T.g__law_draw T.k__law_draw T.b__law_draw tk (a_cons (e_var 0) (a_cons (e_callB1 cr_len T.n_len (e_var 3)) a_nil)))) sc__law_step.nd)
    (ss_cons (s_if (PW.pt (w_and (t_cmp (or_eq (hu64 hr)) (e_ix (e_var 4) e_int) e_str) (w_and1 (t_cmp or_gt (e_call (ok__law_draw T) (hr.mono (by first | decide | omega)) T.g__law_draw T.k__law_draw T.b__law_draw tk (a_cons (e_var 0) (a_cons e_int a_nil))) e_int))))
    (ss_one (s_set 4 (e_ix (e_var 3) (e_call (ok__law_draw T) (hr.mono (by first | decide | omega)) T.g__law_draw T.k__law_draw T.b__law_draw tk (a_cons (e_var 0) (a_cons (e_callB1 cr_len T.n_len (e_var 3)) a_nil)))) sc__law_step.nd))
    ss_nil)
    (ss_one (s_ret (e_var 4))))))))
theorem sc__law_lively : FnScope [("_law_box_here" : Str), ("_law_many" : Str), ("_law_processes" : Str), ("_law_channels_here" : Str), ("_law_k" : Str), ("_law_rules" : Str), ("_law_giver" : Str), ("_law_taker" : Str), ("_law_c" : Str), ("_law_act" : Str), ("_law_process" : Str), ("_law_states" : Str)] [("_law_box_here" : Str)] (defScope s__law_lively) := ⟨rfl, rfl, rfl, by decide +kernel, rfl, by decide +kernel, by decide +kernel⟩
theorem ok__law_lively (T : Tx P K mg) : FnOk P w K mg base (L2.CX P w) 3 T.a__law_lively T.d__law_lively [("_law_box_here" : Str)] (spM T.S 1 m__law_lively) :=
  def_ok2 (k := 2) rfl false (fb := mb__law_lively) T.F__law_lively sc__law_lively rfl rfl rfl (fun cdv A outer s H E hr tk hp =>
    (ss_cons (s_set 1 (e_bin (or_add false) e_int (e_call (ok__law_draw T) (hr.mono (by first | decide | omega)) T.g__law_draw T.k__law_draw T.b__law_draw tk (a_cons (e_var 0) (a_cons e_int a_nil)))) sc__law_lively.nd)
    (ss_cons (s_comp (own := [(("_law_k" : Str), 4)]) 2 false (.nm 4) sc__law_lively.nd (i_rg1 (e_var 1) T.n_range) (blkOk_by (N := [("_law_box_here" : Str), ("_law_many" : Str), ("_law_processes" : Str), ("_law_channels_here" : Str), ("_law_k" : Str), ("_law_rules" : Str), ("_law_giver" : Str), ("_law_taker" : Str), ("_law_c" : Str), ("_law_act" : Str), ("_law_process" : Str), ("_law_states" : Str)]) (sc := defScope s__law_lively) (by decide +kernel)) (fun _ _ _ _ _ => tg_nm 4 sc__law_lively.nd) (fun _ _ _ _ _ => ts_nil) (fun _ _ _ _ _ => (e_tup (a_cons (e_ix e_str (e_var 4)) (a_cons (e_bin (or_add false) e_int (e_call (ok__law_draw T) (hr.mono (by first | decide | omega)) T.g__law_draw T.k__law_draw T.b__law_draw takes0 (a_cons (e_var 0) (a_cons e_int a_nil)))) a_nil)))))
    (ss_cons (s_set 3 (e_lst true a_nil) sc__law_lively.nd)
    (ss_cons (s_for hp (i_rg1 (e_bin (or_add false) e_int (e_call (ok__law_draw T) (hr.mono (by first | decide | omega)) T.g__law_draw T.k__law_draw T.b__law_draw tk (a_cons (e_var 0) (a_cons e_int a_nil)))) T.n_range) (g_name 4 sc__law_lively.nd)
    (ss_cons (s_set 6 (e_call (ok__law_draw T) (hr.mono (by first | decide | omega)) T.g__law_draw T.k__law_draw T.b__law_draw tk (a_cons (e_var 0) (a_cons (e_var 1) a_nil))) sc__law_lively.nd)
    (ss_cons (s_set 7 (e_bin or_mod (e_callT1 cr_int T.n_int (e_bin (or_add false) (e_bin (or_add false) (e_var 6) e_int) (e_call (ok__law_draw T) (hr.mono (by first | decide | omega)) T.g__law_draw T.k__law_draw T.b__law_draw tk (a_cons (e_var 0) (a_cons (e_bin or_sub (e_var 1) e_int) a_nil))))) (e_var 1)) sc__law_lively.nd)
    (ss_one (s_expr (e_append (e_var 3) (e_tup (a_cons (e_ix e_str (e_var 4)) (a_cons (e_var 6) (a_cons (e_var 7) (a_cons (e_ix (e_lst false (a_cons e_str (a_cons e_str (a_cons e_str (a_cons e_str a_nil))))) (e_call (ok__law_draw T) (hr.mono (by first | decide | omega)) T.g__law_draw T.k__law_draw T.b__law_draw tk (a_cons (e_var 0) (a_cons e_int a_nil)))) a_nil)))))))))))
    (ss_cons (s_set 5 (e_lst true a_nil) sc__law_lively.nd)
    (ss_cons (s_for hp (i_rg1 (e_bin (or_add false) e_int (e_call (ok__law_draw T) (hr.mono (by first | decide | omega)) T.g__law_draw T.k__law_draw T.b__law_draw tk (a_cons (e_var 0) (a_cons e_int a_nil)))) T.n_range) (g_name 4 sc__law_lively.nd)
    (ss_cons (s_set 8 (e_call (ok__law_draw T) (hr.mono (by first | decide | omega)) T.g__law_draw T.k__law_draw T.b__law_draw tk (a_cons (e_var 0) (a_cons (e_callB1 cr_len T.n_len (e_var 3)) a_nil))) sc__law_lively.nd)
    (ss_cons (s_set 9 (e_ix (e_lst false (a_cons (e_tup (a_cons e_str (a_cons (e_var 8) (a_cons (e_call (ok__law_draw T) (hr.mono (by first | decide | omega)) T.g__law_draw T.k__law_draw T.b__law_draw tk (a_cons (e_var 0) (a_cons e_int a_nil))) a_nil)))) (a_cons (e_tup (a_cons e_str (a_cons (e_var 8) (a_cons (e_call (ok__law_draw T) (hr.mono (by first | decide | omega)) T.g__law_draw T.k__law_draw T.b__law_draw tk (a_cons (e_var 0) (a_cons e_int a_nil))) a_nil)))) a_nil))) (e_call (ok__law_draw T) (hr.mono (by first | decide | omega)) T.g__law_draw T.k__law_draw T.b__law_draw tk (a_cons (e_var 0) (a_cons e_int a_nil)))) sc__law_lively.nd)
    (ss_cons (s_set 10 (e_ix (e_ix (e_var 3) (e_var 8)) (e_bin (or_add false) e_int (e_callT1 cr_int T.n_int (e_cmp (or_eq (hu64 hr)) (e_ix (e_var 9) e_int) e_str)))) sc__law_lively.nd)
    (ss_cons (s_set 11 (e_ix (e_ix (e_var 2) (e_var 10)) e_int) sc__law_lively.nd)
    (ss_one (s_expr (e_append (e_var 5) (e_tup (a_cons (e_var 10) (a_cons (e_call (ok__law_draw T) (hr.mono (by first | decide | omega)) T.g__law_draw T.k__law_draw T.b__law_draw tk (a_cons (e_var 0) (a_cons (e_var 11) a_nil))) (a_cons (e_var 9) (a_cons (e_call (ok__law_draw T) (hr.mono (by first | decide | omega)) T.g__law_draw T.k__law_draw T.b__law_draw tk (a_cons (e_var 0) (a_cons (e_var 11) a_nil))) a_nil)))))))))))))
    (ss_one (s_ret (e_tup (a_cons (e_callT1 cr_tuple T.n_tuple (e_var 2)) (a_cons (e_callT1 cr_tuple T.n_tuple (e_var 3)) (a_cons (e_callT1 cr_tuple T.n_tuple (e_var 5)) a_nil)))))))))))))
theorem sc__law_listed : FnScope [("_law_world" : Str), ("_law_row" : Str), ("_law_pair" : Str)] [("_law_world" : Str)] (defScope s__law_listed) := ⟨rfl, rfl, rfl, by decide +kernel, rfl, by decide +kernel, by decide +kernel⟩
theorem ok__law_listed (T : Tx P K mg) : FnOk P w K mg base (L2.CX P w) 1 T.a__law_listed T.d__law_listed [("_law_world" : Str)] (spM T.S 1 m__law_listed) :=
  def_ok2 (k := 0) rfl false (fb := mb__law_listed) T.F__law_listed sc__law_listed rfl rfl rfl (fun cdv A outer s H E hr tk hp =>
    (ss_one (s_ret (e_lst false (a_cons (e_callT1 (cr_list false) T.n_list (e_ix (e_var 0) e_int)) (a_cons (e_callT1 (cr_list false) T.n_list (e_ix (e_var 0) e_int)) (a_cons (e_comp (own := [(("_law_row" : Str), 1)]) false (.nm 1) sc__law_listed.nd (i_seq (e_ix (e_var 0) e_int)) (blkOk_by (N := [("_law_world" : Str), ("_law_row" : Str), ("_law_pair" : Str)]) (sc := defScope s__law_listed) (by decide +kernel)) (fun _ _ _ _ _ => tg_nm 1 sc__law_listed.nd) (fun _ _ _ _ _ => ts_nil) (fun _ _ _ _ _ => (e_comp (own := [(("_law_pair" : Str), 2)]) false (.nm 2) sc__law_listed.nd (i_seq (e_var 1)) (blk_relabel (blkOk_by (N := [("_law_world" : Str), ("_law_row" : Str), ("_law_pair" : Str)]) (by decide +kernel))) (fun _ _ _ _ _ => tg_nm 2 sc__law_listed.nd) (fun _ _ _ _ _ => ts_nil) (fun _ _ _ _ _ => (e_callT1 (cr_list false) T.n_list (e_var 2)))))) a_nil)))))))
theorem sc__law_walked : FnScope [("_law_box_here" : Str), ("_law_net_here" : Str), ("_law_turns" : Str), ("_law_made" : Str), ("_law_world" : Str), ("_law_turn" : Str), ("_law_due" : Str), ("_law_deed" : Str), ("_law_passed" : Str), ("_law_told" : Str)] [("_law_box_here" : Str), ("_law_net_here" : Str), ("_law_turns" : Str)] (defScope s__law_walked) := ⟨rfl, rfl, rfl, by decide +kernel, rfl, by decide +kernel, by decide +kernel⟩
theorem ok__law_walked (T : Tx P K mg) : FnOk P w K mg base (L2.CX P w) 13 T.a__law_walked T.d__law_walked [("_law_box_here" : Str), ("_law_net_here" : Str), ("_law_turns" : Str)] (spM T.S 3 m__law_walked) :=
  def_ok2 (k := 12) rfl false (fb := mb__law_walked) T.F__law_walked sc__law_walked rfl rfl rfl (fun cdv A outer s H E hr tk hp =>
    (ss_cons (s_set 3 (e_make 100 rfl T.mk_Net (ok_Net_init T) (hr.mono (by first | decide | omega)) T.c_Net T.b_Net_init tk (a_cons (e_ix (e_var 1) e_int) (a_cons (e_ix (e_var 1) e_int) (a_cons (e_ix (e_var 1) e_int) a_nil)))) sc__law_walked.nd)
    (ss_cons (s_set 4 (e_call (ok__law_start T) (hr.mono (by first | decide | omega)) T.g__law_start T.k__law_start T.b__law_start tk (a_cons (e_var 1) a_nil)) sc__law_walked.nd)
    (ss_cons (s_if (t_not (t_val (e_call (ok__law_alike T 8) (hr.mono (by first | decide | omega)) T.g__law_alike T.k__law_alike T.b__law_alike tk (a_cons (e_call (ok_start T) (hr.mono (by first | decide | omega)) T.g_start T.k_start T.b_start tk (a_cons (e_var 3) a_nil)) (a_cons (e_var 4) a_nil)))))
    (ss_one (s_ret e_bl))
    ss_nil)
    (ss_cons (s_for hp (i_rg1 (e_var 2) T.n_range) (g_name 5 sc__law_walked.nd)
    (ss_cons (s_set 6 (e_call (ok__law_possible T) (hr.mono (by first | decide | omega)) T.g__law_possible T.k__law_possible T.b__law_possible tk (a_cons (e_var 1) (a_cons (e_var 4) a_nil))) sc__law_walked.nd)
    (ss_cons (s_if (PW.pt (w_or (t_not (t_val (e_call (ok__law_alike T 8) (hr.mono (by first | decide | omega)) T.g__law_alike T.k__law_alike T.b__law_alike tk (a_cons (e_call (ok_possible T) (hr.mono (by first | decide | omega)) T.g_possible T.k_possible T.b_possible tk (a_cons (e_var 3) (a_cons (e_var 4) a_nil))) (a_cons (e_var 6) a_nil))))) (w_or1 (t_not (t_val (e_call (ok__law_alike T 8) (hr.mono (by first | decide | omega)) T.g__law_alike T.k__law_alike T.b__law_alike tk (a_cons (e_callK [1, 0] (ok_possible T) (hr.mono (by first | decide | omega)) T.g_possible T.k_possible (kb_possible_1_0 T) tk (k_cons (e_var 4) (k_cons (e_var 3) k_nil))) (a_cons (e_var 6) a_nil))))))))
    (ss_one (s_ret e_bl))
    ss_nil)
    (ss_cons (s_set 7 (e_call (ok__law_step T) (hr.mono (by first | decide | omega)) T.g__law_step T.k__law_step T.b__law_step tk (a_cons (e_var 0) (a_cons (e_var 1) (a_cons (e_var 4) a_nil)))) sc__law_walked.nd)
    (ss_cons (s_if (t_cmp (or_eq (hu64 hr)) (e_var 7) (e_tup a_nil))
    (ss_one (s_ret e_bl))
    ss_nil)
    (ss_cons (s_set 8 (e_ix (e_lst false (a_cons (e_var 4) (a_cons (e_call (ok__law_listed T) (hr.mono (by first | decide | omega)) T.g__law_listed T.k__law_listed T.b__law_listed tk (a_cons (e_var 4) a_nil)) a_nil))) (e_call (ok__law_draw T) (hr.mono (by first | decide | omega)) T.g__law_draw T.k__law_draw T.b__law_draw tk (a_cons (e_var 0) (a_cons e_int a_nil)))) sc__law_walked.nd)
    (ss_cons (s_if (t_not (t_val (e_call (ok__law_alike T 8) (hr.mono (by first | decide | omega)) T.g__law_alike T.k__law_alike T.b__law_alike tk (a_cons (e_call (ok_possible T) (hr.mono (by first | decide | omega)) T.g_possible T.k_possible T.b_possible tk (a_cons (e_var 3) (a_cons (e_var 8) a_nil))) (a_cons (e_var 6) a_nil)))))
    (ss_one (s_ret e_bl))
    ss_nil)
    (ss_cons (s_set 9 (e_call (ok_done T) (hr.mono (by first | decide | omega)) T.g_done T.k_done T.b_done tk (a_cons (e_var 3) (a_cons (e_var 8) (a_cons (e_var 7) a_nil)))) sc__law_walked.nd)
    (ss_cons (s_set 4 (e_call (ok__law_done T) (hr.mono (by first | decide | omega)) T.g__law_done T.k__law_done T.b__law_done tk (a_cons (e_var 1) (a_cons (e_var 4) (a_cons (e_var 7) a_nil)))) sc__law_walked.nd)
    (ss_one (s_if (t_not (t_val (e_call (ok__law_alike T 8) (hr.mono (by first | decide | omega)) T.g__law_alike T.k__law_alike T.b__law_alike tk (a_cons (e_var 9) (a_cons (e_var 4) a_nil)))))
    (ss_one (s_ret e_bl))
    ss_nil)))))))))))
    (ss_one (s_ret (e_call (ok__law_alike T 8) (hr.mono (by first | decide | omega)) T.g__law_alike T.k__law_alike T.b__law_alike tk (a_cons (e_call (ok_possible T) (hr.mono (by first | decide | omega)) T.g_possible T.k_possible T.b_possible tk (a_cons (e_var 3) (a_cons (e_var 4) a_nil))) (a_cons (e_call (ok__law_possible T) (hr.mono (by first | decide | omega)) T.g__law_possible T.k__law_possible T.b__law_possible tk (a_cons (e_var 1) (a_cons (e_var 4) a_nil))) a_nil))))))))))
theorem sc_law : FnScope [("_law_script" : Str), ("_law_box_here" : Str), ("_law_net_here" : Str), ("_law_far" : Str)] [("_law_script" : Str)] (defScope s_law) := ⟨rfl, rfl, rfl, by decide +kernel, rfl, by decide +kernel, by decide +kernel⟩
theorem ok_law (T : Tx P K mg) : FnOk P w K mg base (L2.CX P w) 14 T.a_law T.d_law [("_law_script" : Str)] (spM T.S 1 m_law) :=
  def_ok2 (k := 13) rfl false (fb := mb_law) T.F_law sc_law rfl rfl rfl (fun cdv A outer s H E hr tk hp =>
    (ss_cons (s_set 1 (e_call (ok__law_box T) (hr.mono (by first | decide | omega)) T.g__law_box T.k__law_box T.b__law_box tk (a_cons (e_var 0) (a_cons e_int a_nil))) sc_law.nd)
    (ss_cons (s_set 2 (e_call (ok__law_net T) (hr.mono (by first | decide | omega)) T.g__law_net T.k__law_net T.b__law_net tk (a_cons (e_var 1) a_nil)) sc_law.nd)
    (ss_cons (s_set 3 (e_call (ok__law_box T) (hr.mono (by first | decide | omega)) T.g__law_box T.k__law_box T.b__law_box tk (a_cons (e_var 0) (a_cons e_int a_nil))) sc_law.nd)
    (ss_one (s_ret (e_and (e_call (ok__law_walked T) (hr.mono (by first | decide | omega)) T.g__law_walked T.k__law_walked T.b__law_walked tk (a_cons (e_var 1) (a_cons (e_var 2) (a_cons e_int a_nil)))) (e_one (e_call (ok__law_walked T) (hr.mono (by first | decide | omega)) T.g__law_walked T.k__law_walked T.b__law_walked tk (a_cons (e_var 3) (a_cons (e_call (ok__law_lively T) (hr.mono (by first | decide | omega)) T.g__law_lively T.k__law_lively T.b__law_lively tk (a_cons (e_var 3) a_nil)) (a_cons (e_bin (or_add false) e_int (e_call (ok__law_draw T) (hr.mono (by first | decide | omega)) T.g__law_draw T.k__law_draw T.b__law_draw tk (a_cons (e_var 3) (a_cons e_int a_nil)))) a_nil))))))))))))
end

end K
namespace K
open PySem Cw
/-- an int, no bool -/
def isInt : D → Bool
  | .int _ => true
  | _ => false
/-- data alone -/
def dt : D → Bool
  | .scr _ => false
  | .obj _ _ _ => false
  | .ref _ => false
  | .exn _ _ => false
  | _ => true
theorem l_is_whole (d : D) (st : Sto) (h : dt d = true) : m_is_whole [d] st = .ok (.bl (isInt d)) st := by
  unfold m_is_whole
  refine run_pure ?_ rfl
  cases d <;> simp [dt] at h <;> simp [mb_is_whole, bodyR, sRet, sRetN, sSeq, sIf, sNil, sExpr, sSet, sRaise, mAnd, mOr, mNot, mIf, mAndT, mOrT, mNotT, mT, mIsN, mChain, m1, mVar, mC, mBin, mUn, mCallN, mCons, mNil, mTup, mSlice, mPart, mNoP, oIsi, oIsi2, tyOf, oLen, oInt, oLe, oLt, oGt, oGe, oCmp, oIx, oSub, oFdiv, oMod, oEq, eqD, oSl, pu, Res.bind, Res.toS, lift, subT, mYes, isInt]
theorem l_is_whole1 (i : Int) (st : Sto) : m_is_whole [.int i] st = .ok (.bl true) st := l_is_whole _ _ rfl
theorem l_is_below (i n : Int) (st : Sto) : m_is_below [.int i, .int n] st = .ok (.bl (decide (0 ≤ i ∧ i < n))) st := by
  unfold m_is_below
  refine run_pure ?_ rfl
  by_cases h1 : 0 ≤ i <;> simp [mb_is_below, bodyR, sRet, sRetN, sSeq, sIf, sNil, sExpr, sSet, sRaise, mAnd, mOr, mNot, mIf, mAndT, mOrT, mNotT, mT, mIsN, mChain, m1, mVar, mC, mBin, mUn, mCallN, mCons, mNil, mTup, mSlice, mPart, mNoP, oIsi, oIsi2, tyOf, oLen, oInt, oLe, oLt, oGt, oGe, oCmp, oIx, oSub, oFdiv, oMod, oEq, eqD, oSl, pu, Res.bind, Res.toS, lift, subT, mYes, l_is_whole1, h1]
theorem l_is_below0 (d : D) (n : D) (st : Sto) (hd : dt d = true) (h : isInt d = false) : m_is_below [d, n] st = .ok (.bl false) st := by
  unfold m_is_below
  refine run_pure ?_ rfl
  simp [mb_is_below, bodyR, sRet, sRetN, sSeq, sIf, sNil, sExpr, sSet, sRaise, mAnd, mOr, mNot, mIf, mAndT, mOrT, mNotT, mT, mIsN, mChain, m1, mVar, mC, mBin, mUn, mCallN, mCons, mNil, mTup, mSlice, mPart, mNoP, oIsi, oIsi2, tyOf, oLen, oInt, oLe, oLt, oGt, oGe, oCmp, oIx, oSub, oFdiv, oMod, oEq, eqD, oSl, pu, Res.bind, Res.toS, lift, subT, mYes, l_is_whole d st hd, h]
def okName (x : Str) : Bool := decide (1 ≤ x.cps.size) && decide (x.cps.size ≤ 6) && x.cps.toList.all fun c => decide (c ∈ (("abcdefghijklmnopqrstuvwxyz" : Str)).cps)
theorem allBl {α : Type} (l : List α) (st : Sto) : oAll (.lst (l.map fun _ => D.bl true)) st = some (.bl true, st) := by
  have h : blsOf (l.map fun _ => D.bl true) = some (l.map fun _ => true) := by
    induction l with
    | nil => rfl
    | cons a l ih => simp [blsOf, ih]
  simp [oAll, seqR, seqW, h]
theorem l_is_name (x : Str) (st : Sto) (h : okName x = true) : m_is_name [.str x] st = .ok (.bl true) st := by
  unfold m_is_name
  refine run_pure ?_ rfl
  simp only [okName, Bool.and_eq_true, decide_eq_true_eq, List.all_eq_true] at h
  obtain ⟨⟨h1, h2⟩, h3⟩ := h
  have hc : mComp false (iSeq (mVar 0)) [1] (.nm 1) mYes (mBin (oIn false) (mVar 1) (mC (.str ("abcdefghijklmnopqrstuvwxyz" : Str)))) [some (.str x), none] st = .ok (.lst ((x.cps.toList.map fun c => D.str ⟨#[c]⟩).map fun _ => .bl true)) st := by
    refine mcomp_all (lock := []) (fun _ => .bl true) ?_ (fun _ => rfl) ?_ ?_ ?_
    · simp [iSeq, mVar, Res.bind, iterOf]
    · have : x.cps.toList.length ≤ 6 := by simpa using h2
      rw [List.length_map]
      show _ < 16777216
      omega
    · intro y hy
      obtain ⟨c, hc, rfl⟩ := List.mem_map.mp hy
      refine ⟨_, rfl, fun a => ?_⟩
      have := h3 c hc
      simp [mBin, mVar, mC, Res.bind, oIn, inD, lift, wipeE]
      exact this
    · rw [plL_iff]
      intro d hd
      obtain ⟨y, _, rfl⟩ := List.mem_map.mp hd
      rfl
  have e1 : (1 : Int) ≤ (x.length : Int) := by have : 1 ≤ x.length := h1; omega
  have e2 : (x.length : Int) ≤ 6 := by have : x.length ≤ 6 := h2; omega
  have e3 : x.length ≤ LIM := by
    have : x.length ≤ 6 := h2
    show _ ≤ 16777216
    omega
  simp [mb_is_name, bodyR, sRet, sRetN, sSeq, sIf, sNil, sExpr, sSet, sRaise, mAnd, mOr, mNot, mIf, mAndT, mOrT, mNotT, mT, mIsN, mChain, m1, mVar, mC, mBin, mUn, mCallN, mCons, mNil, mTup, mSlice, mPart, mNoP, oIsi, oIsi2, tyOf, oLen, oInt, oLe, oLt, oGt, oGe, oCmp, oIx, oSub, oFdiv, oMod, oEq, eqD, oSl, pu, Res.bind, Res.toS, lift, subT, mYes, hc, allBl, e1, e2, e3, -List.map_map]
/-! ### nets as data -/
def encP (p : Str × Nat) : D := .tup [.str p.1, .int p.2]
def kinds : List Str := ["order", "loose", "order lossy", "loose lossy"]
structure Chan where
  nm : Str
  giver : Nat
  taker : Nat
  kind : Nat
def encC (c : Chan) : D := .tup [.str c.nm, .int c.giver, .int c.taker, .str (kinds[c.kind]?.getD "order")]
inductive Act where
  | go
  | send (c t : Nat)
  | take (c t : Nat)
def encA : Act → D
  | .go => .tup [.str "do"]
  | .send c t => .tup [.str "send", .int c, .int t]
  | .take c t => .tup [.str "take", .int c, .int t]
structure Rule where
  p : Nat
  s : Nat
  a : Act
  s2 : Nat
def encR (r : Rule) : D := .tup [.int r.p, .int r.s, encA r.a, .int r.s2]
theorem eqv_t1 (x y : Str) : PyData.eqv (.tuple [.str y]) (.tuple [.str x]) = decide (y = x) := by
  rw [Bool.eq_iff_iff]
  simp [PyData.eqv, PyData.eqvAll]
theorem py_t1 (x : Str) : toPy (.tup [.str x]) = some (.tuple [.str x]) := by simp [toPy, toPyL]
theorem py_ts : ∀ xs : List Str, toPyL (xs.map fun y => D.tup [.str y]) = some (xs.map fun y => .tuple [.str y])
  | [] => by simp [toPyL]
  | x :: xs => by simp [toPyL, py_t1, py_ts xs]
def chars (x : Str) : Bool := PyData.canLay0 (.str x)
theorem lay_ts : ∀ xs : List Str, (∀ x ∈ xs, chars x = true) → PyData.canLayAll0 (xs.map fun y => PyData.tuple [.str y]) = true
  | [], _ => by simp [PyData.canLayAll0]
  | x :: xs, h => by
    have h1 := h x (List.mem_cons_self ..)
    have h2 := lay_ts xs fun y hy => h y (List.mem_cons_of_mem _ hy)
    unfold chars at h1
    simp only [List.map_cons, PyData.canLayAll0, h2, Bool.and_true]
    simp [PyData.canLay0, PyData.canLayAll0] at h1 ⊢
    exact h1
theorem dep_ts : ∀ xs : List Str, PyData.depthAll (xs.map fun y => PyData.tuple [.str y]) ≤ 1
  | [] => by simp [PyData.depthAll]
  | x :: xs => by
    have := dep_ts xs
    simp only [List.map_cons, PyData.depthAll, PyData.depth]
    omega
theorem inTup (st : Sto) (x : Str) (xs : List Str) (hx : chars x = true) (hs : ∀ y ∈ xs, chars y = true) : inD st (.tup [.str x]) (.lst (xs.map fun y => .tup [.str y])) = some (decide (x ∈ xs)) := by
  have e1 : pyOf st (.tup [.str x]) = some (.tuple [.str x]) := py_t1 x
  have e2 : pyOf st (.lst (xs.map fun y => .tup [.str y])) = some (.list (xs.map fun y => .tuple [.str y])) := by
    show toPy _ = _
    unfold toPy
    rw [py_ts]
  have s1 : SeqAt.shaped (.tuple [.str x]) = true := by
    unfold chars at hx
    simp [SeqAt.shaped, PyData.canLay0, PyData.canLayAll0, PyData.depth, PyData.depthAll] at hx ⊢
    exact hx
  have s2 : SeqAt.shaped (.list (xs.map fun y => .tuple [.str y])) = true := by
    have h1 := lay_ts xs hs
    have h2 := dep_ts xs
    unfold SeqAt.shaped
    rw [Bool.and_eq_true]
    refine ⟨by unfold PyData.canLay0; exact h1, decide_eq_true ?_⟩
    unfold PyData.depth
    omega
  have e3 : (xs.map fun y => PyData.tuple [.str y]).any (fun y => PyData.eqv y (.tuple [.str x])) = decide (x ∈ xs) := by
    rw [List.any_map]
    have : ((fun y => PyData.eqv y (.tuple [.str x])) ∘ fun y => PyData.tuple [.str y]) = fun y => decide (y = x) := funext fun y => eqv_t1 x y
    rw [this]
    by_cases h : x ∈ xs
    · rw [decide_eq_true h, List.any_eq_true]
      exact ⟨x, h, by simp⟩
    · rw [decide_eq_false h]
      simp only [List.any_eq_false, decide_eq_true_eq]
      exact fun y hy e => h (e ▸ hy)
  unfold inD
  simp [e1, e2, s1, s2, itemsPy, e3]
theorem l_is_process (x : Str) (s : Nat) (el : List (Str × Nat)) (st : Sto) (h : okName x = true) (h1 : 1 ≤ s) (h2 : s ≤ 8) (h3 : x ∉ el.map (·.1)) (hx : chars x = true) (hs : ∀ y ∈ el.map (·.1), chars y = true) (hl : el.length ≤ 100) : m_is_process [encP (x, s), .tup (el.map encP)] st = .ok (.bl true) st := by
  unfold m_is_process
  refine run_pure ?_ rfl
  have hc : mComp false (iSeq (mVar 1)) [2] (.nm 2) mYes (mSlice false (mVar 2) mNoP (mPart (mC (.int 1)))) [some (encP (x, s)), some (.tup (el.map encP)), none] st = .ok (.lst ((el.map encP).map fun d => match d with | .tup (a :: _) => .tup [a] | d => d)) st := by
    refine mcomp_all (lock := []) _ ?_ (fun _ => rfl) ?_ ?_ ?_
    · simp [iSeq, mVar, Res.bind, iterOf]
    · rw [List.length_map]
      show _ < 16777216
      omega
    · intro y hy
      obtain ⟨c, hc, rfl⟩ := List.mem_map.mp hy
      refine ⟨_, rfl, fun a => ?_⟩
      simp [bodyR, sRet, sRetN, sSeq, sIf, sNil, sExpr, sSet, sRaise, mAnd, mOr, mNot, mIf, mAndT, mOrT, mNotT, mT, mIsN, mChain, m1, mVar, mC, mBin, mUn, mCallN, mCons, mNil, mTup, mSlice, mPart, mNoP, oIsi, oIsi2, tyOf, oLen, oInt, oLe, oLt, oGt, oGe, oCmp, oIx, oSub, oFdiv, oMod, oEq, eqD, oSl, pu, Res.bind, Res.toS, lift, subT, mYes, wipeE, encP, cut_to1]
    · rw [plL_iff]
      intro d hd
      obtain ⟨y, hy, rfl⟩ := List.mem_map.mp hd
      obtain ⟨c, hc, rfl⟩ := List.mem_map.mp hy
      rfl
  have hin : inD st (.tup [.str x]) (.lst ((el.map encP).map fun d => match d with | .tup (a :: _) => .tup [a] | d => d)) = some false := by
    have e : ((el.map encP).map fun d => match d with | .tup (a :: _) => .tup [a] | d => d) = (el.map (·.1)).map fun y => D.tup [.str y] := by
      rw [List.map_map, List.map_map]
      rfl
    rw [e, inTup st x _ hx hs, decide_eq_false h3]
  have e1 : (1 : Int) ≤ (s : Int) := by omega
  have e2 : (s : Int) ≤ 8 := by omega
  simp only [encP] at hc ⊢
  simp [mb_is_process, bodyR, sRet, sRetN, sSeq, sIf, sNil, sExpr, sSet, sRaise, mAnd, mOr, mNot, mIf, mAndT, mOrT, mNotT, mT, mIsN, mChain, m1, mVar, mC, mBin, mUn, mCallN, mCons, mNil, mTup, mSlice, mPart, mNoP, oIsi, oIsi2, tyOf, oLen, oInt, oLe, oLt, oGt, oGe, oCmp, oIx, oSub, oFdiv, oMod, oEq, eqD, oSl, pu, Res.bind, Res.toS, lift, subT, mYes, hc, l_is_name x _ h, l_is_whole1, at0, at1, e1, e2, cut_to1, oIn, hin, -List.map_map]

def firsts (d : D) : D := match d with | .tup (a :: _) => .tup [a] | d => d
theorem comp_firsts {α : Type} (enc : α → D) (nm : α → Str) (i v : Nat) (el : List α) (env : En) (st : Sto) (he : ∀ a, ∃ r, enc a = .tup (.str (nm a) :: r)) (hv : env[i]? = some (some (.tup (el.map enc)))) (hw : v < env.length) (hl : el.length ≤ 100) :
    mComp false (iSeq (mVar i)) [v] (.nm v) mYes (mSlice false (mVar v) mNoP (mPart (mC (.int 1)))) env st = .ok (.lst ((el.map nm).map fun y => .tup [.str y])) st := by
  have e : (el.map nm).map (fun y => D.tup [.str y]) = (el.map enc).map firsts := by
    rw [List.map_map, List.map_map]
    refine List.map_congr_left fun a _ => ?_
    obtain ⟨r, q⟩ := he a
    simp [q, firsts]
  rw [e]
  refine mcomp_all (lock := []) firsts ?_ (fun _ => rfl) ?_ ?_ ?_
  · simp [iSeq, mVar, hv, Res.bind, iterOf]
  · rw [List.length_map]
    show _ < 16777216
    omega
  · intro y hy
    obtain ⟨c, hc, rfl⟩ := List.mem_map.mp hy
    obtain ⟨r, q⟩ := he c
    refine ⟨_, rfl, fun a => ?_⟩
    simp [bodyR, sRet, sRetN, sSeq, sIf, sNil, sExpr, sSet, sRaise, mAnd, mOr, mNot, mIf, mAndT, mOrT, mNotT, mT, mIsN, mChain, m1, mVar, mC, mBin, mUn, mCallN, mCons, mNil, mTup, mSlice, mPart, mNoP, oIsi, oIsi2, tyOf, oLen, oInt, oLe, oLt, oGt, oGe, oCmp, oIx, oSub, oFdiv, oMod, oEq, eqD, oSl, pu, Res.bind, Res.toS, lift, subT, mYes, wipeE, q, cut_to1, firsts, hw]
  · rw [← e, plL_iff]
    intro d hd
    obtain ⟨y, hy, rfl⟩ := List.mem_map.mp hd
    rfl
def kindOf (k : Nat) : Str := kinds[k]?.getD "order"
theorem py_ss : ∀ xs : List Str, toPyL (xs.map D.str) = some (xs.map PyData.str)
  | [] => by simp [toPyL]
  | x :: xs => by simp [toPyL, toPy, py_ss xs]
theorem lay_ss : ∀ xs : List Str, (∀ x ∈ xs, chars x = true) → PyData.canLayAll0 (xs.map PyData.str) = true
  | [], _ => by simp [PyData.canLayAll0]
  | x :: xs, h => by
    have h1 := h x (List.mem_cons_self ..)
    have h2 := lay_ss xs fun y hy => h y (List.mem_cons_of_mem _ hy)
    unfold chars at h1
    simp only [List.map_cons, PyData.canLayAll0, h2, Bool.and_true]
    exact h1
theorem dep_ss : ∀ xs : List Str, PyData.depthAll (xs.map PyData.str) = 0
  | [] => by simp [PyData.depthAll]
  | x :: xs => by
    have := dep_ss xs
    simp only [List.map_cons, PyData.depthAll, PyData.depth]
    omega
theorem in_strs (st : Sto) (x : Str) (xs : List Str) (hx : chars x = true) (hs : ∀ y ∈ xs, chars y = true) : inD st (.str x) (.tup (xs.map D.str)) = some (decide (x ∈ xs)) ∧ inD st (.str x) (.lst (xs.map D.str)) = some (decide (x ∈ xs)) := by
  have e1 : pyOf st (.str x) = some (.str x) := by show toPy _ = _; simp [toPy]
  have e2 : pyOf st (.lst (xs.map D.str)) = some (.list (xs.map PyData.str)) := by
    show toPy _ = _
    unfold toPy
    rw [py_ss]
  have e2' : pyOf st (.tup (xs.map D.str)) = some (.tuple (xs.map PyData.str)) := by
    show toPy _ = _
    unfold toPy
    rw [py_ss]
  have s1 : SeqAt.shaped (.str x) = true := by
    unfold chars at hx
    unfold SeqAt.shaped
    rw [hx]
    simp [PyData.depth]
  have s2 : SeqAt.shaped (.list (xs.map PyData.str)) = true := by
    have h1 := lay_ss xs hs
    have h2 := dep_ss xs
    unfold SeqAt.shaped
    rw [Bool.and_eq_true]
    refine ⟨by unfold PyData.canLay0; exact h1, decide_eq_true ?_⟩
    unfold PyData.depth
    omega
  have s2' : SeqAt.shaped (.tuple (xs.map PyData.str)) = true := by
    have h1 := lay_ss xs hs
    have h2 := dep_ss xs
    unfold SeqAt.shaped
    rw [Bool.and_eq_true]
    refine ⟨by unfold PyData.canLay0; exact h1, decide_eq_true ?_⟩
    unfold PyData.depth
    omega
  have e3 : (xs.map PyData.str).any (fun y => PyData.eqv y (.str x)) = decide (x ∈ xs) := by
    rw [List.any_map]
    have : ((fun y => PyData.eqv y (.str x)) ∘ PyData.str) = fun y => decide (y = x) := funext fun y => by
      rw [Bool.eq_iff_iff]
      simp [PyData.eqv]
    rw [this]
    by_cases h : x ∈ xs
    · rw [decide_eq_true h, List.any_eq_true]
      exact ⟨x, h, by simp⟩
    · rw [decide_eq_false h]
      simp only [List.any_eq_false, decide_eq_true_eq]
      exact fun y hy e => h (e ▸ hy)
  refine ⟨?_, ?_⟩
  · unfold inD
    simp [e1, e2', s1, s2', itemsPy, e3]
  · unfold inD
    simp [e1, e2, s1, s2, itemsPy, e3]
theorem in_kinds (st : Sto) (k : Nat) : inD st (.str (kindOf k)) (.tup g_KINDS) = some true := by
  have hk : kindOf k ∈ kinds := by
    unfold kindOf
    match k with
    | 0 => decide
    | 1 => decide
    | 2 => decide
    | 3 => decide
    | n + 4 =>
      have : kinds[n + 4]? = none := List.getElem?_eq_none (by simp [kinds])
      rw [this]
      decide
  have hc : ∀ y ∈ kinds, chars y = true := by decide +kernel
  have := (in_strs st (kindOf k) kinds (hc _ hk) hc).1
  rw [decide_eq_true hk] at this
  exact this
theorem l_is_channel (c : Chan) (ps : List (Str × Nat)) (el : List Chan) (st : Sto) (h : okName c.nm = true) (h1 : c.giver < ps.length) (h2 : c.taker < ps.length) (h12 : c.giver ≠ c.taker) (h3 : c.nm ∉ el.map (·.nm)) (hx : chars c.nm = true) (hs : ∀ y ∈ el.map (·.nm), chars y = true) (hl : el.length ≤ 100) :
    m_is_channel [encC c, .tup (ps.map encP), .tup (el.map encC)] st = .ok (.bl true) st := by
  unfold m_is_channel
  refine run_pure ?_ rfl
  have hc := comp_firsts encC (·.nm) 2 3 el [some (encC c), some (.tup (ps.map encP)), some (.tup (el.map encC)), none] st (fun a => ⟨_, rfl⟩) rfl (by simp) hl
  have hin := inTup st c.nm _ hx hs
  rw [decide_eq_false h3] at hin
  have e1 : (0 : Int) ≤ c.giver ∧ (c.giver : Int) < ps.length := by omega
  have e2 : (0 : Int) ≤ c.taker ∧ (c.taker : Int) < ps.length := by omega
  have e3 : ¬ (c.giver : Int) = c.taker := by omega
  have hk := in_kinds st c.kind
  unfold kindOf at hk
  simp only [encC] at hc ⊢
  simp [mb_is_channel, bodyR, sRet, sRetN, sSeq, sIf, sNil, sExpr, sSet, sRaise, mAnd, mOr, mNot, mIf, mAndT, mOrT, mNotT, mT, mIsN, mChain, m1, mVar, mC, mBin, mUn, mCallN, mCons, mNil, mTup, mSlice, mPart, mNoP, oIsi, oIsi2, tyOf, oLen, oInt, oLe, oLt, oGt, oGe, oCmp, oIx, oSub, oFdiv, oMod, oEq, eqD, oSl, pu, Res.bind, Res.toS, lift, subT, mYes, hc, l_is_name _ _ h, l_is_below, at0, at1, at2, at3, e1, e2, e3, cut_to1, oIn, hin, hk, -List.map_map]
def actOk (chs : List Chan) (p : Nat) : Act → Prop
  | .go => True
  | .send c t => (∃ ch, chs[c]? = some ch ∧ ch.giver = p) ∧ t < 10
  | .take c t => (∃ ch, chs[c]? = some ch ∧ ch.taker = p) ∧ t < 10
theorem in_st1 (st : Sto) : inD st (.str "send") (.tup [.str "send", .str "take"]) = some true := (in_strs st "send" ["send", "take"] (by decide +kernel) (by decide +kernel)).1
theorem in_st2 (st : Sto) : inD st (.str "take") (.tup [.str "send", .str "take"]) = some true := (in_strs st "take" ["send", "take"] (by decide +kernel) (by decide +kernel)).1
theorem l_is_act (a : Act) (p : Nat) (chs : List Chan) (st : Sto) (h : actOk chs p a) : m_is_act [encA a, .int p, .tup (chs.map encC)] st = .ok (.bl true) st := by
  unfold m_is_act
  refine run_pure ?_ rfl
  cases a with
  | go => simp [mb_is_act, bodyR, sRet, sRetN, sSeq, sIf, sNil, sExpr, sSet, sRaise, mAnd, mOr, mNot, mIf, mAndT, mOrT, mNotT, mT, mIsN, mChain, m1, mVar, mC, mBin, mUn, mCallN, mCons, mNil, mTup, mSlice, mPart, mNoP, oIsi, oIsi2, tyOf, oLen, oInt, oLe, oLt, oGt, oGe, oCmp, oIx, oSub, oFdiv, oMod, oEq, eqD, oSl, pu, Res.bind, Res.toS, lift, subT, mYes, encA, at0]
  | send c t =>
    obtain ⟨⟨ch, h1, h2⟩, h3⟩ := h
    have hc := (List.getElem?_eq_some_iff.mp h1).1
    have e1 : (0 : Int) ≤ c ∧ (c : Int) < chs.length := by omega
    have e2 : (t : Int) < 10 := by omega
    have e3 : L2.atI (chs.map encC) (c : Int) = some (encC ch) := by rw [at_nat, List.getElem?_map, h1]; rfl
    simp [mb_is_act, bodyR, sRet, sRetN, sSeq, sIf, sNil, sExpr, sSet, sRaise, mAnd, mOr, mNot, mIf, mAndT, mOrT, mNotT, mT, mIsN, mChain, m1, mVar, mC, mBin, mUn, mCallN, mCons, mNil, mTup, mSlice, mPart, mNoP, oIsi, oIsi2, tyOf, oLen, oInt, oLe, oLt, oGt, oGe, oCmp, oIx, oSub, oFdiv, oMod, oEq, eqD, oSl, pu, Res.bind, Res.toS, lift, subT, mYes, encA, at0, at1, at2, l_is_below, e1, e2, oIn, in_st1, LIM, e3, encC, h2, (by decide : ¬ (("send" : Str) = "do"))]
  | take c t =>
    obtain ⟨⟨ch, h1, h2⟩, h3⟩ := h
    have hc := (List.getElem?_eq_some_iff.mp h1).1
    have e1 : (0 : Int) ≤ c ∧ (c : Int) < chs.length := by omega
    have e2 : (t : Int) < 10 := by omega
    have e3 : L2.atI (chs.map encC) (c : Int) = some (encC ch) := by rw [at_nat, List.getElem?_map, h1]; rfl
    simp [mb_is_act, bodyR, sRet, sRetN, sSeq, sIf, sNil, sExpr, sSet, sRaise, mAnd, mOr, mNot, mIf, mAndT, mOrT, mNotT, mT, mIsN, mChain, m1, mVar, mC, mBin, mUn, mCallN, mCons, mNil, mTup, mSlice, mPart, mNoP, oIsi, oIsi2, tyOf, oLen, oInt, oLe, oLt, oGt, oGe, oCmp, oIx, oSub, oFdiv, oMod, oEq, eqD, oSl, pu, Res.bind, Res.toS, lift, subT, mYes, encA, at0, at1, at2, l_is_below, e1, e2, oIn, in_st2, LIM, e3, encC, h2, (by decide : ¬ (("take" : Str) = "do")), (by decide : ¬ (("take" : Str) = "send"))]
structure ruleOk (ps : List (Str × Nat)) (chs : List Chan) (r : Rule) : Prop where
  pr : ∃ p, ps[r.p]? = some p ∧ r.s < p.2 ∧ r.s2 < p.2
  act : actOk chs r.p r.a
theorem l_is_rule (r : Rule) (ps : List (Str × Nat)) (chs : List Chan) (st : Sto) (h : ruleOk ps chs r) : m_is_rule [encR r, .tup (ps.map encP), .tup (chs.map encC)] st = .ok (.bl true) st := by
  unfold m_is_rule
  refine run_pure ?_ rfl
  obtain ⟨⟨p, h1, h2, h3⟩, h4⟩ := h
  have hc := (List.getElem?_eq_some_iff.mp h1).1
  have e1 : (0 : Int) ≤ r.p ∧ (r.p : Int) < ps.length := by omega
  have e2 : (r.s : Int) < p.2 := by omega
  have e4 : (r.s2 : Int) < p.2 := by omega
  have e3 : L2.atI (ps.map encP) (r.p : Int) = some (encP p) := by rw [at_nat, List.getElem?_map, h1]; rfl
  have e5 := l_is_act r.a r.p chs st h4
  simp [mb_is_rule, bodyR, sRet, sRetN, sSeq, sIf, sNil, sExpr, sSet, sRaise, mAnd, mOr, mNot, mIf, mAndT, mOrT, mNotT, mT, mIsN, mChain, m1, mVar, mC, mBin, mUn, mCallN, mCons, mNil, mTup, mSlice, mPart, mNoP, oIsi, oIsi2, tyOf, oLen, oInt, oLe, oLt, oGt, oGe, oCmp, oIx, oSub, oFdiv, oMod, oEq, eqD, oSl, pu, Res.bind, Res.toS, lift, subT, mYes, encR, at0, at1, at2, at3, l_is_below, e1, e2, e3, e4, e5, encP]

/-! ### freezing -/
/-- tuples of data, no lists: what _frozen leaves as it is -/
theorem l_frozen0 (n : Nat) (d : D) (st : Sto) (hd : dt d = true) (hp : pl d = true) (hl : ∀ k, 0 < k → (match d with | .tup _ => false | .lst _ => false | _ => true) = true) : m__frozen (n + 1) [d, .int 0] st = .ok d st := by
  show runF false 3 (mb__frozen (m__frozen n)) [d, .int 0] st = _
  refine run_pure ?_ hp
  simp [mb__frozen, bodyR, sRet, sRetN, sSeq, sIf, sNil, sExpr, sSet, sRaise, mAnd, mOr, mNot, mIf, mAndT, mOrT, mNotT, mT, mIsN, mChain, m1, mVar, mC, mBin, mUn, mCallN, mCons, mNil, mTup, mSlice, mPart, mNoP, oIsi, oIsi2, tyOf, oLen, oInt, oLe, oLt, oGt, oGe, oCmp, oIx, oSub, oFdiv, oMod, oEq, eqD, oSl, pu, Res.bind, Res.toS, lift, subT, mYes]
/-- a frozen value's form -/
def fz : Nat → D → D
  | 0, d => d
  | k + 1, .tup ds => .tup (ds.map (fz k))
  | k + 1, .lst ds => .tup (ds.map (fz k))
  | _ + 1, d => d
/-- small data, k deep -/
def sm : Nat → D → Bool
  | 0, d => dt d && pl d
  | k + 1, .tup ds => decide (ds.length < 1000) && ds.all (sm k)
  | k + 1, .lst ds => decide (ds.length < 1000) && ds.all (sm k)
  | _ + 1, d => dt d && pl d
theorem pl_fz : ∀ (k : Nat) (d : D), sm k d = true → pl (fz k d) = true
  | 0, d, h => by simp [sm] at h; exact h.2
  | k + 1, d, h => by
    have go : ∀ ds : List D, ds.all (sm k) = true → plL (ds.map (fz k)) = true := fun ds h => by
      rw [plL_iff]
      intro y hy
      obtain ⟨x, hx, rfl⟩ := List.mem_map.mp hy
      exact pl_fz k x (List.all_eq_true.mp h x hx)
    cases d <;> simp [sm, fz, dt, pl] at h ⊢
    · exact go _ (by simpa using h.2)
    · exact go _ (by simpa using h.2)
theorem l_frozen : ∀ (k n : Nat) (d : D) (st : Sto), k < n → sm k d = true → m__frozen n [d, .int k] st = .ok (fz k d) st
  | 0, n + 1, d, st, _, h => by
    show runF false 3 (mb__frozen (m__frozen n)) [d, .int (0 : Nat)] st = _
    refine run_pure ?_ (pl_fz 0 d h)
    simp [mb__frozen, bodyR, sRet, sRetN, sSeq, sIf, sNil, sExpr, sSet, sRaise, mAnd, mOr, mNot, mIf, mAndT, mOrT, mNotT, mT, mIsN, mChain, m1, mVar, mC, mBin, mUn, mCallN, mCons, mNil, mTup, mSlice, mPart, mNoP, oIsi, oIsi2, tyOf, oLen, oInt, oLe, oLt, oGt, oGe, oCmp, oIx, oSub, oFdiv, oMod, oEq, eqD, oSl, pu, Res.bind, Res.toS, lift, subT, mYes, fz]
  | k + 1, n + 1, d, st, hn, h => by
    show runF false 3 (mb__frozen (m__frozen n)) [d, .int ((k + 1 : Nat) : Int)] st = _
    refine run_pure ?_ (pl_fz (k + 1) d h)
    have e0 : (0 : Int) < ((k + 1 : Nat) : Int) := by omega
    have e1 : ((k + 1 : Nat) : Int) - 1 = (k : Int) := by omega
    have go : ∀ ds : List D, (d = .tup ds ∨ d = .lst ds) → ds.length < 1000 → ds.all (sm k) = true → mComp false (iSeq (mVar 0)) [2] (.nm 2) mYes (mCallN 2 (m__frozen n) (mCons (mVar 2) (mCons (mBin oSub (mVar 1) (mC (.int 1))) mNil))) [some d, some (.int ((k + 1 : Nat) : Int)), none] st = .ok (.lst (ds.map (fz k))) st := fun ds hd hl ha => by
      refine mcomp_all (lock := []) (items := ds) (fz k) ?_ (fun _ => rfl) ?_ ?_ ?_
      · rcases hd with rfl | rfl <;> simp [iSeq, mVar, Res.bind, iterOf]
      · show _ < 16777216
        omega
      · intro y hy
        refine ⟨_, rfl, fun a => ?_⟩
        have := l_frozen k n y (st ++ [.lst a]) (by omega) (List.all_eq_true.mp ha y hy)
        simp only [mCallN, mCons, mVar, mBin, mC, mNil, oSub, pu, Res.bind, lift, wipeE]
        simp only [List.getElem?_set]
        simp
        exact this
      · rw [plL_iff]
        intro y hy
        obtain ⟨x, hx, rfl⟩ := List.mem_map.mp hy
        exact pl_fz k x (List.all_eq_true.mp ha x hx)
    show bodyR (mb__frozen (m__frozen n) [some d, some (.int ((k + 1 : Nat) : Int)), none] st) = _
    unfold mb__frozen
    generalize mComp false (iSeq (mVar 0)) [2] (.nm 2) mYes (mCallN 2 (m__frozen n) (mCons (mVar 2) (mCons (mBin oSub (mVar 1) (mC (.int 1))) mNil))) = C at go ⊢
    cases d with
    | tup ds =>
      simp only [sm, Bool.and_eq_true, decide_eq_true_eq] at h
      have := go ds (.inl rfl) h.1 h.2
      simp at this
      simp [bodyR, sRet, sRetN, sSeq, sIf, sNil, sExpr, sSet, sRaise, mAnd, mOr, mNot, mIf, mAndT, mOrT, mNotT, mT, mIsN, mChain, m1, mVar, mC, mBin, mUn, mCallN, mCons, mNil, mTup, mSlice, mPart, mNoP, oIsi, oIsi2, tyOf, oLen, oInt, oLe, oLt, oGt, oGe, oCmp, oIx, oSub, oFdiv, oMod, oEq, eqD, oSl, pu, Res.bind, Res.toS, lift, subT, mYes, this, e0, oTuple, seqR, seqW, fz]
    | lst ds =>
      simp only [sm, Bool.and_eq_true, decide_eq_true_eq] at h
      have := go ds (.inr rfl) h.1 h.2
      simp at this
      simp [bodyR, sRet, sRetN, sSeq, sIf, sNil, sExpr, sSet, sRaise, mAnd, mOr, mNot, mIf, mAndT, mOrT, mNotT, mT, mIsN, mChain, m1, mVar, mC, mBin, mUn, mCallN, mCons, mNil, mTup, mSlice, mPart, mNoP, oIsi, oIsi2, tyOf, oLen, oInt, oLe, oLt, oGt, oGe, oCmp, oIx, oSub, oFdiv, oMod, oEq, eqD, oSl, pu, Res.bind, Res.toS, lift, subT, mYes, this, e0, oTuple, seqR, seqW, fz]
    | scr _ => simp [sm, dt] at h
    | obj _ _ _ => simp [sm, dt] at h
    | ref _ => simp [sm, dt] at h
    | exn _ _ => simp [sm, dt] at h
    | _ => simp [bodyR, sRet, sRetN, sSeq, sIf, sNil, sExpr, sSet, sRaise, mAnd, mOr, mNot, mIf, mAndT, mOrT, mNotT, mT, mIsN, mChain, m1, mVar, mC, mBin, mUn, mCallN, mCons, mNil, mTup, mSlice, mPart, mNoP, oIsi, oIsi2, tyOf, oLen, oInt, oLe, oLt, oGt, oGe, oCmp, oIx, oSub, oFdiv, oMod, oEq, eqD, oSl, pu, Res.bind, Res.toS, lift, subT, mYes, e0, fz]

/-- tuples alone -/
def tpl : Nat → D → Bool
  | 0, _ => true
  | k + 1, .tup ds => ds.all (tpl k)
  | _ + 1, .lst _ => false
  | _ + 1, _ => true
theorem fz_id : ∀ (k : Nat) (d : D), tpl k d = true → fz k d = d
  | 0, d, _ => rfl
  | k + 1, d, h => by
    cases d <;> simp [tpl, fz] at h ⊢
    rename_i ds
    have : ds.map (fz k) = ds.map id := List.map_congr_left fun x hx => fz_id k x (h x hx)
    simpa using this
def isTup : D → Bool
  | .tup _ => true
  | _ => false
theorem l_rows (d : D) (rs : List D) (lo hi : Nat) (st : Sto) (h : sm 3 d = true) (hf : fz 3 d = .tup rs) (ht : ∀ r ∈ rs, isTup r = true) (h1 : lo ≤ rs.length) (h2 : rs.length ≤ hi) (h3 : rs.length < 1000) : m__rows [d, .int lo, .int hi] st = .ok (.tup rs) st := by
  have hp := pl_fz 3 d h
  rw [hf] at hp
  unfold m__rows
  refine run_pure ?_ hp
  have hfz := l_frozen 3 8 d st (by omega) h
  rw [hf] at hfz
  have hc : mComp false (iSeq (mVar 3)) [4] (.nm 4) mYes (m1 (oIsi "tuple") (mVar 4)) [some d, some (.int lo), some (.int hi), some (.tup rs), none] st = .ok (.lst (rs.map fun _ => .bl true)) st := by
    refine mcomp_all (lock := []) (items := rs) (fun _ => .bl true) ?_ (fun _ => rfl) ?_ ?_ ?_
    · simp [iSeq, mVar, Res.bind, iterOf]
    · show _ < 16777216
      omega
    · intro y hy
      refine ⟨_, rfl, fun a => ?_⟩
      have := ht y hy
      cases y <;> simp [isTup] at this
      simp [bodyR, sRet, sRetN, sSeq, sIf, sNil, sExpr, sSet, sRaise, mAnd, mOr, mNot, mIf, mAndT, mOrT, mNotT, mT, mIsN, mChain, m1, mVar, mC, mBin, mUn, mCallN, mCons, mNil, mTup, mSlice, mPart, mNoP, oIsi, oIsi2, tyOf, oLen, oInt, oLe, oLt, oGt, oGe, oCmp, oIx, oSub, oFdiv, oMod, oEq, eqD, oSl, pu, Res.bind, Res.toS, lift, subT, mYes, wipeE]
    · rw [plL_iff]
      intro y hy
      obtain ⟨x, hx, rfl⟩ := List.mem_map.mp hy
      rfl
  show bodyR (mb__rows [some d, some (.int lo), some (.int hi), none, none] st) = _
  unfold mb__rows
  generalize mComp false (iSeq (mVar 3)) [4] (.nm 4) mYes (m1 (oIsi "tuple") (mVar 4)) = C at hc ⊢
  have e1 : (lo : Int) ≤ rs.length := by omega
  have e2 : (rs.length : Int) ≤ hi := by omega
  have hfz' : m__frozen 8 [d, .int 3] st = .ok (.tup rs) st := hfz
  simp [bodyR, sRet, sRetN, sSeq, sIf, sNil, sExpr, sSet, sRaise, mAnd, mOr, mNot, mIf, mAndT, mOrT, mNotT, mT, mIsN, mChain, m1, mVar, mC, mBin, mUn, mCallN, mCons, mNil, mTup, mSlice, mPart, mNoP, oIsi, oIsi2, tyOf, oLen, oInt, oLe, oLt, oGt, oGe, oCmp, oIx, oSub, oFdiv, oMod, oEq, eqD, oSl, pu, Res.bind, Res.toS, lift, subT, mYes, hfz', hc, e1, e2, allBl]

structure Net where
  ps : List (Str × Nat)
  cs : List Chan
  rs : List Rule
structure NetOk (N : Net) : Prop where
  p1 : 1 ≤ N.ps.length
  p5 : N.ps.length ≤ 5
  pn : ∀ p ∈ N.ps, okName p.1 = true ∧ chars p.1 = true ∧ 1 ≤ p.2 ∧ p.2 ≤ 8
  pd : (N.ps.map (·.1)).Nodup
  c8 : N.cs.length ≤ 8
  cn : ∀ c ∈ N.cs, okName c.nm = true ∧ chars c.nm = true ∧ c.giver < N.ps.length ∧ c.taker < N.ps.length ∧ c.giver ≠ c.taker
  cd : (N.cs.map (·.nm)).Nodup
  r40 : N.rs.length ≤ 40
  rn : ∀ r ∈ N.rs, ruleOk N.ps N.cs r
def tP (N : Net) : D := .tup (N.ps.map encP)
def tC (N : Net) : D := .tup (N.cs.map encC)
def tR (N : Net) : D := .tup (N.rs.map encR)
/-- the net as the program keeps it -/
def netD (N : Net) : D := .obj 100 [3, 4, 5] [tP N, tC N, tR N]
theorem sm_P (N : Net) (h : NetOk N) : sm 3 (tP N) = true ∧ tpl 3 (tP N) = true ∧ pl (tP N) = true := by
  have := h.p5
  refine ⟨?_, ?_, ?_⟩
  · simp only [tP, sm, Bool.and_eq_true, decide_eq_true_eq, List.all_eq_true, List.length_map]
    refine ⟨by omega, fun d hd => ?_⟩
    obtain ⟨p, _, rfl⟩ := List.mem_map.mp hd
    simp [encP, sm, dt, pl]
  · simp [tP, tpl, encP]
  · simp only [tP, pl, plL_iff]
    intro d hd
    obtain ⟨p, _, rfl⟩ := List.mem_map.mp hd
    rfl
theorem sm_C (N : Net) (h : NetOk N) : sm 3 (tC N) = true ∧ tpl 3 (tC N) = true ∧ pl (tC N) = true := by
  have := h.c8
  refine ⟨?_, ?_, ?_⟩
  · simp only [tC, sm, Bool.and_eq_true, decide_eq_true_eq, List.all_eq_true, List.length_map]
    refine ⟨by omega, fun d hd => ?_⟩
    obtain ⟨p, _, rfl⟩ := List.mem_map.mp hd
    simp [encC, sm, dt, pl]
  · simp [tC, tpl, encC]
  · simp only [tC, pl, plL_iff]
    intro d hd
    obtain ⟨p, _, rfl⟩ := List.mem_map.mp hd
    rfl
theorem sm_R (N : Net) (h : NetOk N) : sm 3 (tR N) = true ∧ tpl 3 (tR N) = true ∧ pl (tR N) = true := by
  have := h.r40
  refine ⟨?_, ?_, ?_⟩
  · simp only [tR, sm, Bool.and_eq_true, decide_eq_true_eq, List.all_eq_true, List.length_map]
    refine ⟨by omega, fun d hd => ?_⟩
    obtain ⟨p, _, rfl⟩ := List.mem_map.mp hd
    cases p with
    | mk p s a s2 => cases a <;> simp [encR, encA, sm, dt, pl]
  · simp only [tR, tpl, List.all_eq_true]
    intro d hd
    obtain ⟨p, _, rfl⟩ := List.mem_map.mp hd
    cases p with
    | mk p s a s2 => cases a <;> simp [encR, encA, tpl]
  · simp only [tR, pl, plL_iff]
    intro d hd
    obtain ⟨p, _, rfl⟩ := List.mem_map.mp hd
    cases p with
    | mk p s a s2 => cases a <;> simp [encR, encA, pl, plL]
theorem nodup_take {α β : Type} {f : α → β} {l : List α} {k : Nat} {x : α} (h : (l.map f).Nodup) (e : l[k]? = some x) : f x ∉ (l.take k).map f := fun hm => by
  obtain ⟨y, hy, q⟩ := List.mem_map.mp hm
  obtain ⟨j, hj, e2⟩ := List.mem_iff_getElem.mp hy
  have hj' : j < k := by
    have := hj
    rw [List.length_take] at this
    omega
  have hk := (List.getElem?_eq_some_iff.mp e).1
  rw [List.getElem_take] at e2
  have e3 : (l.map f)[j]? = (l.map f)[k]? := by
    rw [List.getElem?_map, List.getElem?_map, e, List.getElem?_eq_getElem (by omega : j < l.length), e2]
    simp [q]
  have := (List.getElem?_inj (by rw [List.length_map]; omega) h).mp e3
  omega
theorem enum_mem {ds : List D} {d : D} (h : d ∈ enumD ds) : ∃ k y, ds[k]? = some y ∧ d = .tup [.int (k : Nat), y] := by
  obtain ⟨k, hk, e⟩ := List.mem_iff_getElem.mp h
  obtain ⟨y, h1, h2⟩ := enumD_get (List.getElem?_eq_some_iff.mpr ⟨hk, e⟩)
  exact ⟨k, y, h1, h2⟩
/-- the second of the three -/
theorem oall_enum {env : En} {st : Sto} {ds : List D} {i a b : Nat} {fe : EM D} (hv : env[i]? = some (some (.tup ds))) (hl : ds.length < 1000) (h : ∀ k y, ds[k]? = some y → ∀ s', fe (setAll (wipeE env [a, b]) [a, b] [.int (k : Nat), y]) s' = .ok (.bl true) s') :
    mComp false (iEn (mVar i)) [a, b] (.tp [a, b]) mYes fe env st = .ok (.lst ((enumD ds).map fun _ => .bl true)) st := by
  refine mcomp_all (lock := []) (items := enumD ds) (fun _ => .bl true) ?_ (fun _ => rfl) ?_ ?_ ?_
  · simp [iEn, mVar, hv, Res.bind, enOf]
  · rw [enumD_len]
    show _ < 16777216
    omega
  · intro y hy
    obtain ⟨k, y, e, rfl⟩ := enum_mem hy
    exact ⟨_, rfl, fun s' => h k y e _⟩
  · rw [plL_iff]
    intro y hy
    obtain ⟨x, hx, rfl⟩ := List.mem_map.mp hy
    rfl
theorem l_net_init (N : Net) (h : NetOk N) (st : Sto) (k : Nat) (hk : st[k]? = some (.ins 100 [] [])) : m_Net_init [.ref k, tP N, tC N, tR N] st = .ok .non (st.set k (.ins 100 [3, 4, 5] [tP N, tC N, tR N])) := by
  have hkl := (List.getElem?_eq_some_iff.mp hk).1
  obtain ⟨p1, p2, p3⟩ := sm_P N h
  obtain ⟨c1, c2, c3⟩ := sm_C N h
  obtain ⟨r1, r2, r3⟩ := sm_R N h
  have hp1 := h.p1
  have hp5 := h.p5
  have hc8 := h.c8
  have hr := h.r40
  have tups : ∀ {α : Type} (enc : α → D) (l : List α), (∀ a, isTup (enc a) = true) → ∀ r ∈ l.map enc, isTup r = true := fun enc l ha r hr => by
    obtain ⟨a, _, rfl⟩ := List.mem_map.mp hr
    exact ha a
  have w1 : ∀ s', m__rows [tP N, .int 1, .int 5] s' = .ok (tP N) s' := fun s' => l_rows (tP N) (N.ps.map encP) 1 5 s' p1 (fz_id 3 _ p2) (tups encP _ fun _ => rfl) (by simpa using hp1) (by simpa using hp5) (by simp; omega)
  have w2 : ∀ s', m__rows [tC N, .int 0, .int 8] s' = .ok (tC N) s' := fun s' => l_rows (tC N) (N.cs.map encC) 0 8 s' c1 (fz_id 3 _ c2) (tups encC _ fun _ => rfl) (by simp) (by simpa using hc8) (by simp; omega)
  have w3 : ∀ s', m__rows [tR N, .int 0, .int 40] s' = .ok (tR N) s' := fun s' => l_rows (tR N) (N.rs.map encR) 0 40 s' r1 (fz_id 3 _ r2) (tups encR _ fun _ => rfl) (by simp) (by simpa using hr) (by simp; omega)
  have q1 : ∀ s', mComp false (iEn (mVar 4)) [7, 8] (.tp [7, 8]) mYes (mCallN 2 m_is_process (mCons (mVar 8) (mCons (mSlice false (mVar 4) mNoP (mPart (mVar 7))) mNil))) [some (.ref k), some (tP N), some (tC N), some (tR N), some (tP N), none, none, none, none, none, none] s' = .ok (.lst ((enumD (N.ps.map encP)).map fun _ => .bl true)) s' := fun s' => by
    refine oall_enum rfl (by simp; omega) fun j y e s'' => ?_
    rw [List.getElem?_map] at e
    cases q : N.ps[j]? with
    | none => rw [q] at e; cases e
    | some p =>
      rw [q] at e
      cases e
      have hm := List.mem_of_getElem? q
      obtain ⟨n1, n2, n3, n4⟩ := h.pn p hm
      have := l_is_process p.1 p.2 (N.ps.take j) s'' n1 n3 n4 (nodup_take h.pd q) n2 (fun y hy => by
        obtain ⟨z, hz, rfl⟩ := List.mem_map.mp hy
        exact (h.pn z (List.mem_of_mem_take hz)).2.1) (by rw [List.length_take]; omega)
      simp [wipeE, setAll, bodyR, sRet, sRetN, sSeq, sIf, sNil, sExpr, sSet, sRaise, mAnd, mOr, mNot, mIf, mAndT, mOrT, mNotT, mT, mIsN, mChain, m1, mVar, mC, mBin, mUn, mCallN, mCons, mNil, mTup, mSlice, mPart, mNoP, oIsi, oIsi2, tyOf, oLen, oInt, oLe, oLt, oGt, oGe, oCmp, oIx, oSub, oFdiv, oMod, oEq, eqD, oSl, pu, Res.bind, Res.toS, lift, subT, mYes, tP, cut_to]
      rw [← List.map_take]
      exact this
  have q2 : ∀ s', mComp false (iEn (mVar 5)) [7, 9] (.tp [7, 9]) mYes (mCallN 3 m_is_channel (mCons (mVar 9) (mCons (mVar 4) (mCons (mSlice false (mVar 5) mNoP (mPart (mVar 7))) mNil)))) [some (.ref k), some (tP N), some (tC N), some (tR N), some (tP N), some (tC N), none, none, none, none, none] s' = .ok (.lst ((enumD (N.cs.map encC)).map fun _ => .bl true)) s' := fun s' => by
    refine oall_enum rfl (by simp; omega) fun j y e s'' => ?_
    rw [List.getElem?_map] at e
    cases q : N.cs[j]? with
    | none => rw [q] at e; cases e
    | some p =>
      rw [q] at e
      cases e
      have hm := List.mem_of_getElem? q
      obtain ⟨n1, n2, n3, n4, n5⟩ := h.cn p hm
      have := l_is_channel p N.ps (N.cs.take j) s'' n1 n3 n4 n5 (nodup_take h.cd q) n2 (fun y hy => by
        obtain ⟨z, hz, rfl⟩ := List.mem_map.mp hy
        exact (h.cn z (List.mem_of_mem_take hz)).2.1) (by rw [List.length_take]; omega)
      simp [wipeE, setAll, bodyR, sRet, sRetN, sSeq, sIf, sNil, sExpr, sSet, sRaise, mAnd, mOr, mNot, mIf, mAndT, mOrT, mNotT, mT, mIsN, mChain, m1, mVar, mC, mBin, mUn, mCallN, mCons, mNil, mTup, mSlice, mPart, mNoP, oIsi, oIsi2, tyOf, oLen, oInt, oLe, oLt, oGt, oGe, oCmp, oIx, oSub, oFdiv, oMod, oEq, eqD, oSl, pu, Res.bind, Res.toS, lift, subT, mYes, tP, tC, cut_to]
      rw [← List.map_take]
      exact this
  have q3 : ∀ s', mComp false (iSeq (mVar 6)) [10] (.nm 10) mYes (mCallN 3 m_is_rule (mCons (mVar 10) (mCons (mVar 4) (mCons (mVar 5) mNil)))) [some (.ref k), some (tP N), some (tC N), some (tR N), some (tP N), some (tC N), some (tR N), none, none, none, none] s' = .ok (.lst ((N.rs.map encR).map fun _ => .bl true)) s' := fun s' => by
    refine mcomp_all (lock := []) (items := N.rs.map encR) (fun _ => .bl true) ?_ (fun _ => rfl) ?_ ?_ ?_
    · simp [iSeq, mVar, Res.bind, iterOf, tR]
    · rw [List.length_map]
      show _ < 16777216
      omega
    · intro y hy
      obtain ⟨p, hp, rfl⟩ := List.mem_map.mp hy
      refine ⟨_, rfl, fun a => ?_⟩
      have := l_is_rule p N.ps N.cs (s' ++ [.lst a]) (h.rn p hp)
      simp [wipeE, bodyR, sRet, sRetN, sSeq, sIf, sNil, sExpr, sSet, sRaise, mAnd, mOr, mNot, mIf, mAndT, mOrT, mNotT, mT, mIsN, mChain, m1, mVar, mC, mBin, mUn, mCallN, mCons, mNil, mTup, mSlice, mPart, mNoP, oIsi, oIsi2, tyOf, oLen, oInt, oLe, oLt, oGt, oGe, oCmp, oIx, oSub, oFdiv, oMod, oEq, eqD, oSl, pu, Res.bind, Res.toS, lift, subT, mYes, tP, tC]
      exact this
    · rw [plL_iff]
      intro y hy
      obtain ⟨x, hx, rfl⟩ := List.mem_map.mp hy
      rfl
  unfold m_Net_init
  have hb : bodyR (mb_Net_init [some (.ref k), some (tP N), some (tC N), some (tR N), none, none, none, none, none, none, none] st) = .ok .non (st.set k (.ins 100 [3, 4, 5] [tP N, tC N, tR N])) := by
    unfold mb_Net_init
    generalize mComp false (iEn (mVar 4)) [7, 8] (.tp [7, 8]) mYes (mCallN 2 m_is_process (mCons (mVar 8) (mCons (mSlice false (mVar 4) mNoP (mPart (mVar 7))) mNil))) = C1 at q1 ⊢
    generalize mComp false (iEn (mVar 5)) [7, 9] (.tp [7, 9]) mYes (mCallN 3 m_is_channel (mCons (mVar 9) (mCons (mVar 4) (mCons (mSlice false (mVar 5) mNoP (mPart (mVar 7))) mNil)))) = C2 at q2 ⊢
    generalize mComp false (iSeq (mVar 6)) [10] (.nm 10) mYes (mCallN 3 m_is_rule (mCons (mVar 10) (mCons (mVar 4) (mCons (mVar 5) mNil)))) = C3 at q3 ⊢
    simp only [tP, tC, tR] at w1 w2 w3 q1 q2 q3 ⊢
    have hs : ∀ c : Cell, (st.set k c)[k]? = some c := fun c => List.getElem?_set_self hkl
    simp [bodyR, sRet, sRetN, sSeq, sIf, sNil, sExpr, sSet, sRaise, mAnd, mOr, mNot, mIf, mAndT, mOrT, mNotT, mT, mIsN, mChain, m1, mVar, mC, mBin, mUn, mCallN, mCons, mNil, mTup, mSlice, mPart, mNoP, oIsi, oIsi2, tyOf, oLen, oInt, oLe, oLt, oGt, oGe, oCmp, oIx, oSub, oFdiv, oMod, oEq, eqD, oSl, pu, Res.bind, Res.toS, lift, subT, mYes, sFld, w1, w2, w3, q1, q2, q3, allBl, hk, putA, hs, cls_all, List.set_set, -List.map_map]
  have hr2 : runF false 11 mb_Net_init [.ref k, tP N, tC N, tR N] st = .ok .non ((st.set k (.ins 100 [3, 4, 5] [tP N, tC N, tR N])).take st.length) := by
    refine run_cells hb (frz_pl _ _ rfl _) (popB_gen fun j hj => ?_)
    by_cases e : k = j
    · subst e
      refine .inr ⟨_, by rw [List.getElem?_set_self hkl], ?_⟩
      simp [belowC, belowL, below_pl _ _ p3, below_pl _ _ c3, below_pl _ _ r3]
    · exact .inl (by rw [List.getElem?_set_ne e])
  rw [hr2]
  congr 1
  rw [List.take_of_length_le]
  simp

theorem l_make (N : Net) (h : NetOk N) (st : Sto) (env : En) (g : EM (List D)) (hg : g env st = .ok [tP N, tC N, tR N] st) : mMake 100 4 m_Net_init g env st = .ok (netD N) st := by
  obtain ⟨p1, p2, p3⟩ := sm_P N h
  obtain ⟨c1, c2, c3⟩ := sm_C N h
  obtain ⟨r1, r2, r3⟩ := sm_R N h
  have hi := l_net_init N h (st ++ [.ins 100 [] []]) st.length (by simp)
  have e : (st ++ [Cell.ins 100 [] []]).set st.length (.ins 100 [3, 4, 5] [tP N, tC N, tR N]) = st ++ [.ins 100 [3, 4, 5] [tP N, tC N, tR N]] := by simp
  rw [e] at hi
  have hf : frz (st ++ [.ins 100 [3, 4, 5] [tP N, tC N, tR N]]) st.length 5 (.ref st.length) = some (netD N) := by
    unfold frz frzG
    simp only [Nat.lt_irrefl, if_false]
    have e2 : (st ++ [Cell.ins 100 [3, 4, 5] [tP N, tC N, tR N]])[st.length]? = some (.ins 100 [3, 4, 5] [tP N, tC N, tR N]) := by simp
    rw [e2]
    have e3 : frzL (fun j => frz (st ++ [.ins 100 [3, 4, 5] [tP N, tC N, tR N]]) st.length 4 (.ref j)) [tP N, tC N, tR N] = some [tP N, tC N, tR N] := frzL_pl _ _ (by simp [plL, p3, c3, r3])
    simp only [e3]
    rfl
  unfold mMake
  rw [hg]
  simp only [Res.bind, List.length_cons, List.length_nil, if_true]
  rw [hi]
  simp only
  unfold popR
  simp [hf, popB_app]
end K

namespace K
open PySem Cw
/-- data k deep at most -/
def dm : Nat → D → Bool
  | k, .tup ds => match k with
    | 0 => false
    | k + 1 => decide (ds.length < 100000) && ds.all (dm k)
  | k, .lst ds => match k with
    | 0 => false
    | k + 1 => decide (ds.length < 100000) && ds.all (dm k)
  | _, .int _ => true
  | _, .str _ => true
  | _, .bl _ => true
  | _, .non => true
  | _, _ => false
theorem pl_dm : ∀ (k : Nat) (d : D), dm k d = true → pl d = true
  | 0, d, h => by cases d <;> simp [dm] at h <;> rfl
  | k + 1, d, h => by
    have go : ∀ ds : List D, ds.all (dm k) = true → plL ds = true := fun ds h => by
      rw [plL_iff]
      exact fun y hy => pl_dm k y (List.all_eq_true.mp h y hy)
    cases d <;> simp [dm] at h <;> try rfl
    · unfold pl; exact go _ (by simpa using h.2)
    · unfold pl; exact go _ (by simpa using h.2)
def alBody (n : Nat) : SM := sIf (mNotT (mT (mCallN 2 (m__law_alike n) (mCons (mBin oIx (mVar 0) (mVar 2)) (mCons (mBin oIx (mVar 1) (mVar 2)) mNil))))) (sRet (mC (.bl false))) sNil
theorem al_small {n : Nat} (hl : n < 100000) : small62 (n : Int) = true := by
  unfold small62
  rw [decide_eq_true_eq]
  omega
theorem rg1_ok {fa : EM D} {env : En} {st : Sto} {n : Nat} (h : fa env st = .ok (.int n) st) (hs : small62 (n : Int) = true) : iRg1 fa env st = .ok (rngD 0 n) st := by
  unfold iRg1
  rw [h]
  refine Eq.trans (if_pos hs) ?_
  rw [Int.toNat_natCast]
theorem al_len {d : D} {ds : List D} (st : Sto) (hd : d = .tup ds ∨ d = .lst ds) (hl : ds.length < 100000) : (iRg1 (m1 oLen (mVar 1))) [some d, some d, none] st = .ok (rngD 0 ds.length) st := by
  refine rg1_ok ?_ (al_small hl)
  rcases hd with rfl | rfl <;> rfl
theorem al_step {n j : Nat} {ds : List D} {d : D} {v : Option D} {st : Sto} (hd : d = .tup ds ∨ d = .lst ds) (hj : j < ds.length) (h : ∀ x ∈ ds, m__law_alike n [x, x] st = .ok (.bl true) st) : alBody n [some d, some d, some (.int (j : Nat))] st = .nx [some d, some d, some (.int (j : Nat))] st := by
  have hg := h ds[j] (List.getElem_mem hj)
  have ha : L2.atI ds (j : Int) = some ds[j] := by
    rw [at_nat]
    simp [hj]
  have e1 : (mBin oIx (mVar 0) (mVar 2)) [some d, some d, some (.int (j : Nat))] st = .ok ds[j] st := by
    rcases hd with rfl | rfl <;> simp [mBin, oIx, mVar, Res.bind, lift, seqR, seqW, ha]
  have e2 : (mBin oIx (mVar 1) (mVar 2)) [some d, some d, some (.int (j : Nat))] st = .ok ds[j] st := by
    rcases hd with rfl | rfl <;> simp [mBin, oIx, mVar, Res.bind, lift, seqR, seqW, ha]
  unfold alBody
  simp [sIf, mNotT, mT, mCallN, mCons, mNil, e1, e2, hg, Res.bind, Res.toS, sNil]
theorem al_for {n : Nat} {ds : List D} {d : D} {st : Sto} (hd : d = .tup ds ∨ d = .lst ds) (hl : ds.length < 100000) (h : ∀ x ∈ ds, m__law_alike n [x, x] st = .ok (.bl true) st) : ∃ env', sFor (iRg1 (m1 oLen (mVar 1))) (gN 2) (alBody n) [some d, some d, none] st = .nx env' st := by
  obtain ⟨env', h1, h2⟩ := for_all (lock := []) (g := gN 2) (b := alBody n) (st := st) (fun env => ∃ v, env = [some d, some d, v]) rfl (rngD 0 ds.length).items [some d, some d, none] ⟨none, rfl⟩ (fun x hx env ⟨v, e⟩ => by
    subst e
    unfold rngD at hx
    obtain ⟨j, hj, rfl⟩ := List.mem_map.mp hx
    have hj := List.mem_range.mp hj
    refine ⟨[some d, some d, some (.int (0 + (j : Nat)))], [some d, some d, some (.int (0 + (j : Nat)))], rfl, ?_, ⟨_, rfl⟩⟩
    rw [Int.zero_add]
    exact al_step (v := v) hd hj h)
  refine ⟨env', ?_⟩
  unfold sFor
  rw [al_len st hd hl]
  exact h1
theorem al_seq {n : Nat} {ds : List D} {d : D} {st : Sto} (hd : d = .tup ds ∨ d = .lst ds) (hl : ds.length < 100000) (h : ∀ x ∈ ds, m__law_alike n [x, x] st = .ok (.bl true) st) : m__law_alike (n + 1) [d, d] st = .ok (.bl true) st := by
  show runF false 3 (mb__law_alike (m__law_alike n)) [d, d] st = _
  refine run_pure ?_ rfl
  obtain ⟨env', h1⟩ := al_for hd hl h
  show bodyR (mb__law_alike (m__law_alike n) [some d, some d, none] st) = _
  unfold mb__law_alike
  change bodyR ((sSeq (sIf _ (sSeq _ (sSeq _ (sSeq (sFor (iRg1 (m1 oLen (mVar 1))) (gN 2) (alBody n)) _))) _) _) _ _) = _
  generalize sFor (iRg1 (m1 oLen (mVar 1))) (gN 2) (alBody n) = C at h1 ⊢
  rcases hd with rfl | rfl <;> simp [bodyR, sRet, sRetN, sSeq, sIf, sNil, sExpr, sSet, sRaise, mAnd, mOr, mNot, mIf, mAndT, mOrT, mNotT, mT, mIsN, mChain, m1, mVar, mC, mBin, mUn, mCallN, mCons, mNil, mTup, mSlice, mPart, mNoP, oIsi, oIsi2, tyOf, oLen, oInt, oLe, oLt, oGt, oGe, oCmp, oIx, oSub, oFdiv, oMod, oEq, eqD, oSl, pu, Res.bind, Res.toS, lift, subT, mYes, h1, seqR, seqW]
theorem al_refl : ∀ (k n : Nat) (d : D) (st : Sto), k < n → dm k d = true → m__law_alike n [d, d] st = .ok (.bl true) st
  | k, n + 1, d, st, hn, h => by
    have atoms : (match d with | .tup _ => false | .lst _ => false | _ => true) = true → m__law_alike (n + 1) [d, d] st = .ok (.bl true) st := fun ha => by
      show runF false 3 (mb__law_alike (m__law_alike n)) [d, d] st = _
      refine run_pure ?_ rfl
      cases d <;> simp at ha <;> simp [dm] at h <;> simp [mb__law_alike, bodyR, sRet, sRetN, sSeq, sIf, sNil, sExpr, sSet, sRaise, mAnd, mOr, mNot, mIf, mAndT, mOrT, mNotT, mT, mIsN, mChain, m1, mVar, mC, mBin, mUn, mCallN, mCons, mNil, mTup, mSlice, mPart, mNoP, oIsi, oIsi2, tyOf, oLen, oInt, oLe, oLt, oGt, oGe, oCmp, oIx, oSub, oFdiv, oMod, oEq, eqD, oSl, pu, Res.bind, Res.toS, lift, subT, mYes]
    cases d with
    | tup ds =>
      cases k with
      | zero => simp [dm] at h
      | succ k =>
        simp only [dm, Bool.and_eq_true, decide_eq_true_eq, List.all_eq_true] at h
        exact al_seq (.inl rfl) h.1 fun x hx => al_refl k n x st (by omega) (h.2 x hx)
    | lst ds =>
      cases k with
      | zero => simp [dm] at h
      | succ k =>
        simp only [dm, Bool.and_eq_true, decide_eq_true_eq, List.all_eq_true] at h
        exact al_seq (.inr rfl) h.1 fun x hx => al_refl k n x st (by omega) (h.2 x hx)
    | _ => exact atoms rfl
end K

namespace K
open PySem Cw
def mk (b : Bool) (ds : List D) : D := if b then .tup ds else .lst ds
/-- an int that is not below 0 -/
def nn : D → Bool
  | .int i => decide (0 ≤ i)
  | _ => false
theorem all_bls {α : Type} (f : α → Bool) (l : List α) (st : Sto) : oAll (.lst (l.map fun x => D.bl (f x))) st = some (.bl (l.all f), st) := by
  have h : blsOf (l.map fun x => D.bl (f x)) = some (l.map f) := by
    induction l with
    | nil => rfl
    | cons a l ih => simp [blsOf, ih]
  simp [oAll, seqR, seqW, h, List.all_map]
theorem comp_nn (b : Bool) (w : D) (rest : List D) (x : D) (st : Sto) (hd : ∀ y ∈ rest, dt y = true) (hl : rest.length < 1000) :
    mComp false (iSeq (mSlice false (mVar 1) (mPart (mC (.int 1))) mNoP)) [4] (.nm 4) mYes (mAnd (mCallN 1 m_is_whole (mCons (mVar 4) mNil)) (mBin oGe (mVar 4) (mC (.int 0)))) [some x, some (mk b (w :: rest)), none, none, none] st = .ok (.lst (rest.map fun y => .bl (nn y))) st := by
  refine mcomp_all (lock := []) (items := rest) (fun y => .bl (nn y)) ?_ (fun _ => rfl) ?_ ?_ ?_
  · cases b <;> simp [iSeq, bodyR, sRet, sRetN, sSeq, sIf, sNil, sExpr, sSet, sRaise, mAnd, mOr, mNot, mIf, mAndT, mOrT, mNotT, mT, mIsN, mChain, m1, mVar, mC, mBin, mUn, mCallN, mCons, mNil, mTup, mSlice, mPart, mNoP, oIsi, oIsi2, tyOf, oLen, oInt, oLe, oLt, oGt, oGe, oCmp, oIx, oSub, oFdiv, oMod, oEq, eqD, oSl, pu, Res.bind, Res.toS, lift, subT, mYes, mk, cut_from1, iterOf, seqR, seqW, mkL]
  · show _ < 16777216
    omega
  · intro y hy
    refine ⟨_, rfl, fun a => ?_⟩
    have h1 := l_is_whole y (st ++ [.lst a]) (hd y hy)
    have h2 := hd y hy
    cases y <;> simp [dt] at h2 <;> simp [bodyR, sRet, sRetN, sSeq, sIf, sNil, sExpr, sSet, sRaise, mAnd, mOr, mNot, mIf, mAndT, mOrT, mNotT, mT, mIsN, mChain, m1, mVar, mC, mBin, mUn, mCallN, mCons, mNil, mTup, mSlice, mPart, mNoP, oIsi, oIsi2, tyOf, oLen, oInt, oLe, oLt, oGt, oGe, oCmp, oIx, oSub, oFdiv, oMod, oEq, eqD, oSl, pu, Res.bind, Res.toS, lift, subT, mYes, wipeE, h1, isInt, nn]
  · rw [plL_iff]
    intro y hy
    obtain ⟨z, hz, rfl⟩ := List.mem_map.mp hy
    rfl
/-- too short, or no text ahead -/
def noText : List D → Bool
  | x :: _ :: _ => match x with
    | .str _ => false
    | d => dt d
  | _ => true
theorem as_short (N : Net) (b : Bool) (ds : List D) (st : Sto) (h : noText ds = true) : m_as_deed [netD N, mk b ds] st = .ok .non st := by
  unfold m_as_deed
  refine run_pure ?_ rfl
  cases ds with
  | nil => cases b <;> simp [mb_as_deed, bodyR, sRet, sRetN, sSeq, sIf, sNil, sExpr, sSet, sRaise, mAnd, mOr, mNot, mIf, mAndT, mOrT, mNotT, mT, mIsN, mChain, m1, mVar, mC, mBin, mUn, mCallN, mCons, mNil, mTup, mSlice, mPart, mNoP, oIsi, oIsi2, tyOf, oLen, oInt, oLe, oLt, oGt, oGe, oCmp, oIx, oSub, oFdiv, oMod, oEq, eqD, oSl, pu, Res.bind, Res.toS, lift, subT, mYes, mk, seqR, seqW]
  | cons x ds =>
    cases ds with
    | nil => cases b <;> simp [mb_as_deed, bodyR, sRet, sRetN, sSeq, sIf, sNil, sExpr, sSet, sRaise, mAnd, mOr, mNot, mIf, mAndT, mOrT, mNotT, mT, mIsN, mChain, m1, mVar, mC, mBin, mUn, mCallN, mCons, mNil, mTup, mSlice, mPart, mNoP, oIsi, oIsi2, tyOf, oLen, oInt, oLe, oLt, oGt, oGe, oCmp, oIx, oSub, oFdiv, oMod, oEq, eqD, oSl, pu, Res.bind, Res.toS, lift, subT, mYes, mk, seqR, seqW]
    | cons y ds =>
      have hl : ¬ ((ds.length : Int) + 1 + 1 < 2) := by omega
      cases x <;> simp [noText, dt] at h <;> cases b <;> simp [mb_as_deed, bodyR, sRet, sRetN, sSeq, sIf, sNil, sExpr, sSet, sRaise, mAnd, mOr, mNot, mIf, mAndT, mOrT, mNotT, mT, mIsN, mChain, m1, mVar, mC, mBin, mUn, mCallN, mCons, mNil, mTup, mSlice, mPart, mNoP, oIsi, oIsi2, tyOf, oLen, oInt, oLe, oLt, oGt, oGe, oCmp, oIx, oSub, oFdiv, oMod, oEq, eqD, oSl, pu, Res.bind, Res.toS, lift, subT, mYes, mk, seqR, seqW, at0, hl]
def atom : D → Bool
  | .non => true
  | .int _ => true
  | .str _ => true
  | .bl _ => true
  | _ => false
theorem as_atom (N : Net) (d : D) (st : Sto) (h : atom d = true) : m_as_deed [netD N, d] st = .ok .non st := by
  unfold m_as_deed
  refine run_pure ?_ rfl
  cases d <;> simp [atom] at h <;> simp [mb_as_deed, bodyR, sRet, sRetN, sSeq, sIf, sNil, sExpr, sSet, sRaise, mAnd, mOr, mNot, mIf, mAndT, mOrT, mNotT, mT, mIsN, mChain, m1, mVar, mC, mBin, mUn, mCallN, mCons, mNil, mTup, mSlice, mPart, mNoP, oIsi, oIsi2, tyOf, oLen, oInt, oLe, oLt, oGt, oGe, oCmp, oIx, oSub, oFdiv, oMod, oEq, eqD, oSl, pu, Res.bind, Res.toS, lift, subT, mYes]
/-- a part that is no number, or below 0 -/
theorem as_part (N : Net) (b : Bool) (s : Str) (x : D) (rest : List D) (st : Sto) (hd : ∀ y ∈ x :: rest, dt y = true) (hl : rest.length < 900) (h : (x :: rest).all nn = false) : m_as_deed [netD N, mk b (.str s :: x :: rest)] st = .ok .non st := by
  unfold m_as_deed
  refine run_pure ?_ rfl
  have hc := comp_nn b (.str s) (x :: rest) (netD N) st hd (by simp; omega)
  have ha := all_bls nn (x :: rest) st
  rw [h] at ha
  show bodyR (mb_as_deed [some (netD N), some (mk b (.str s :: x :: rest)), none, none, none] st) = _
  unfold mb_as_deed
  generalize mComp false (iSeq (mSlice false (mVar 1) (mPart (mC (.int 1))) mNoP)) [4] (.nm 4) mYes (mAnd (mCallN 1 m_is_whole (mCons (mVar 4) mNil)) (mBin oGe (mVar 4) (mC (.int 0)))) = C at hc ⊢
  generalize ((x :: rest).map fun y => D.bl (nn y)) = L at hc ha
  have hl2 : ¬ ((rest.length : Int) + 1 + 1 < 2) := by omega
  cases b <;> simp [bodyR, sRet, sRetN, sSeq, sIf, sNil, sExpr, sSet, sRaise, mAnd, mOr, mNot, mIf, mAndT, mOrT, mNotT, mT, mIsN, mChain, m1, mVar, mC, mBin, mUn, mCallN, mCons, mNil, mTup, mSlice, mPart, mNoP, oIsi, oIsi2, tyOf, oLen, oInt, oLe, oLt, oGt, oGe, oCmp, oIx, oSub, oFdiv, oMod, oEq, eqD, oSl, pu, Res.bind, Res.toS, lift, subT, mYes, mk] at hc ⊢ <;> simp [bodyR, sRet, sRetN, sSeq, sIf, sNil, sExpr, sSet, sRaise, mAnd, mOr, mNot, mIf, mAndT, mOrT, mNotT, mT, mIsN, mChain, m1, mVar, mC, mBin, mUn, mCallN, mCons, mNil, mTup, mSlice, mPart, mNoP, oIsi, oIsi2, tyOf, oLen, oInt, oLe, oLt, oGt, oGe, oCmp, oIx, oSub, oFdiv, oMod, oEq, eqD, oSl, pu, Res.bind, Res.toS, lift, subT, mYes, mk, hc, ha, seqR, seqW, at0, hl2]

def lossy (k : Nat) : Bool := decide (kindOf k ∈ ([("order lossy" : Str), "loose lossy"] : List Str))
theorem kind_chars (k : Nat) : chars (kindOf k) = true := by
  have hk : kindOf k ∈ kinds := by
    unfold kindOf
    match k with
    | 0 => decide
    | 1 => decide
    | 2 => decide
    | 3 => decide
    | n + 4 =>
      have : kinds[n + 4]? = none := List.getElem?_eq_none (by simp [kinds])
      rw [this]
      decide
  have hc : ∀ y ∈ kinds, chars y = true := by decide +kernel
  exact hc _ hk
theorem in_lossy (st : Sto) (k : Nat) : inD st (.str (kindOf k)) (.tup [.str "order lossy", .str "loose lossy"]) = some (lossy k) ∧ inD st (.str (kindOf k)) (.lst [.str "order lossy", .str "loose lossy"]) = some (lossy k) :=
  in_strs st (kindOf k) ["order lossy", "loose lossy"] (kind_chars k) (by decide +kernel)
theorem fld_c (N : Net) (st : Sto) : fldD st cls_all 4 (netD N) = some (tC N) := rfl
theorem fld_p (N : Net) (st : Sto) : fldD st cls_all 3 (netD N) = some (tP N) := rfl
theorem fld_r (N : Net) (st : Sto) : fldD st cls_all 5 (netD N) = some (tR N) := rfl
theorem at_C (N : Net) {c : Nat} {ch : Chan} (h : N.cs[c]? = some ch) : L2.atI (N.cs.map encC) (c : Int) = some (encC ch) := by rw [at_nat, List.getElem?_map, h]; rfl
theorem at_R (N : Net) {c : Nat} {ch : Rule} (h : N.rs[c]? = some ch) : L2.atI (N.rs.map encR) (c : Int) = some (encR ch) := by rw [at_nat, List.getElem?_map, h]; rfl
theorem l_is_lossy (N : Net) (c : Nat) (ch : Chan) (st : Sto) (h : N.cs[c]? = some ch) : m_is_lossy [netD N, .int c] st = .ok (.bl (lossy ch.kind)) st := by
  unfold m_is_lossy
  refine run_pure ?_ rfl
  have hk := (in_lossy st ch.kind).1
  unfold kindOf at hk
  simp [mb_is_lossy, bodyR, sRet, sRetN, sSeq, sIf, sNil, sExpr, sSet, sRaise, mAnd, mOr, mNot, mIf, mAndT, mOrT, mNotT, mT, mIsN, mChain, m1, mVar, mC, mBin, mUn, mCallN, mCons, mNil, mTup, mSlice, mPart, mNoP, oIsi, oIsi2, tyOf, oLen, oInt, oLe, oLt, oGt, oGe, oCmp, oIx, oSub, oFdiv, oMod, oEq, eqD, oSl, pu, Res.bind, Res.toS, lift, subT, mYes, mFld, fld_c, tC, at_C N h, encC, at3, oIn, hk, LIM]

theorem nn_int {x : D} (h : nn x = true) : ∃ i : Int, x = .int i ∧ 0 ≤ i := by
  cases x <;> simp [nn] at h
  exact ⟨_, rfl, h⟩
theorem nn_all {l : List D} (h : l.all nn = true) : (∀ y ∈ l, dt y = true) ∧ plL l = true := by
  rw [List.all_eq_true] at h
  refine ⟨fun y hy => ?_, ?_⟩
  · obtain ⟨i, rfl, _⟩ := nn_int (h y hy)
    rfl
  · rw [plL_iff]
    intro y hy
    obtain ⟨i, rfl, _⟩ := nn_int (h y hy)
    rfl
def chAt (N : Net) (r : Int) : Bool := match N.cs[r.toNat]? with
  | some ch => lossy ch.kind
  | none => false
theorem as_lose (N : Net) (b : Bool) (r : Int) (more : List D) (st : Sto) (hr : 0 ≤ r) (hm : more.all nn = true) (hl : more.length < 900) : m_as_deed [netD N, mk b (.str "lose" :: .int r :: more)] st = .ok (if more.length = 1 ∧ chAt N r = true then .tup (.str "lose" :: .int r :: more) else .non) st := by
  obtain ⟨hd, hp⟩ := nn_all hm
  unfold m_as_deed
  refine run_pure ?_ (by split <;> simp [pl, plL, hp])
  have hdd : ∀ y ∈ D.int r :: more, dt y = true := fun y hy => by
    rcases List.mem_cons.mp hy with rfl | hy
    · rfl
    · exact hd y hy
  have hc := comp_nn b (.str "lose") (.int r :: more) (netD N) st hdd (by simp; omega)
  have ha := all_bls nn (.int r :: more) st
  have hall : (D.int r :: more).all nn = true := by
    rw [List.all_cons, hm, Bool.and_true]
    exact decide_eq_true hr
  rw [hall] at ha
  show bodyR (mb_as_deed [some (netD N), some (mk b (.str "lose" :: .int r :: more)), none, none, none] st) = _
  unfold mb_as_deed
  generalize mComp false (iSeq (mSlice false (mVar 1) (mPart (mC (.int 1))) mNoP)) [4] (.nm 4) mYes (mAnd (mCallN 1 m_is_whole (mCons (mVar 4) mNil)) (mBin oGe (mVar 4) (mC (.int 0)))) = C at hc ⊢
  generalize ((D.int r :: more).map fun y => D.bl (nn y)) = L at hc ha
  have hl2 : ¬ ((more.length : Int) + 1 + 1 < 2) := by omega
  have hz : more.length + 1 + 1 ≤ LIM := by show _ ≤ 16777216; omega
  by_cases h1 : more.length = 1
  · cases hq : N.cs[r.toNat]? with
    | none =>
      have hge := List.getElem?_eq_none_iff.mp hq
      have hb : ¬ (r < (N.cs.length : Int)) := by omega
      have hx : chAt N r = false := by simp [chAt, hq]
      cases b <;> simp [mk] at hc ⊢ <;> simp [bodyR, sRet, sRetN, sSeq, sIf, sNil, sExpr, sSet, sRaise, mAnd, mOr, mNot, mIf, mAndT, mOrT, mNotT, mT, mIsN, mChain, m1, mVar, mC, mBin, mUn, mCallN, mCons, mNil, mTup, mSlice, mPart, mNoP, oIsi, oIsi2, tyOf, oLen, oInt, oLe, oLt, oGt, oGe, oCmp, oIx, oSub, oFdiv, oMod, oEq, eqD, oSl, pu, Res.bind, Res.toS, lift, subT, mYes, hc, ha, seqR, seqW, at0, at1, h1, hl2, l_is_below, hr, hb, hx, mFld, fld_c, tC]
    | some ch =>
      have hlt := (List.getElem?_eq_some_iff.mp hq).1
      have hb : r < (N.cs.length : Int) := by omega
      have hx : chAt N r = lossy ch.kind := by simp [chAt, hq]
      have hlo := l_is_lossy N r.toNat ch st hq
      rw [Int.toNat_of_nonneg hr] at hlo
      cases hk : lossy ch.kind <;> rw [hk] at hx hlo <;> cases b <;> simp [mk] at hc ⊢ <;> simp [bodyR, sRet, sRetN, sSeq, sIf, sNil, sExpr, sSet, sRaise, mAnd, mOr, mNot, mIf, mAndT, mOrT, mNotT, mT, mIsN, mChain, m1, mVar, mC, mBin, mUn, mCallN, mCons, mNil, mTup, mSlice, mPart, mNoP, oIsi, oIsi2, tyOf, oLen, oInt, oLe, oLt, oGt, oGe, oCmp, oIx, oSub, oFdiv, oMod, oEq, eqD, oSl, pu, Res.bind, Res.toS, lift, subT, mYes, hc, ha, seqR, seqW, at0, at1, h1, hl2, l_is_below, hr, hb, hx, mFld, fld_c, tC, hlo, oTuple]
  · have h3 : ¬ ((more.length : Int) + 1 + 1 = 3) := by omega
    cases b <;> simp [mk] at hc ⊢ <;> simp [bodyR, sRet, sRetN, sSeq, sIf, sNil, sExpr, sSet, sRaise, mAnd, mOr, mNot, mIf, mAndT, mOrT, mNotT, mT, mIsN, mChain, m1, mVar, mC, mBin, mUn, mCallN, mCons, mNil, mTup, mSlice, mPart, mNoP, oIsi, oIsi2, tyOf, oLen, oInt, oLe, oLt, oGt, oGe, oCmp, oIx, oSub, oFdiv, oMod, oEq, eqD, oSl, pu, Res.bind, Res.toS, lift, subT, mYes, hc, ha, seqR, seqW, at0, at1, h1, h3, hl2]

def isTake : Act → Bool
  | .take _ _ => true
  | _ => false
/-- the rule's process, if the deed fits it -/
def ruAt (N : Net) (t : Bool) (r : Int) : Bool := match N.rs[r.toNat]? with
  | some ru => isTake ru.a == t
  | none => false
theorem enc_first (a : Act) : ∃ z rest, encA a = .tup (.str z :: rest) ∧ decide (z = "take") = isTake a := by
  cases a with
  | go => exact ⟨"do", _, rfl, by show decide (_ = _) = false; decide⟩
  | send c t => exact ⟨"send", _, rfl, by show decide (_ = _) = false; decide⟩
  | take c t => exact ⟨"take", _, rfl, by show decide (_ = _) = true; decide⟩
theorem pl_ite {c : Prop} [Decidable c] {x y : D} (hx : pl x = true) (hy : pl y = true) : pl (if c then x else y) = true := by
  split <;> assumption
theorem in_at (st : Sto) (s : Str) (hs : chars s = true) : inD st (.str s) (.tup [.str "act", .str "take"]) = some (decide (s ∈ ([("act" : Str), "take"] : List Str))) :=
  (in_strs st s ["act", "take"] hs (by decide +kernel)).1
/-- another word -/
theorem as_word (N : Net) (b : Bool) (s : Str) (r : Int) (more : List D) (st : Sto) (hs : chars s = true) (hn : s ∉ ([("act" : Str), "take"] : List Str)) (h0 : ¬ s = "lose") (hr : 0 ≤ r) (hm : more.all nn = true) (hl : more.length < 900) : m_as_deed [netD N, mk b (.str s :: .int r :: more)] st = .ok .non st := by
  obtain ⟨hd, hp⟩ := nn_all hm
  unfold m_as_deed
  refine run_pure ?_ rfl
  have hdd : ∀ y ∈ D.int r :: more, dt y = true := fun y hy => by
    rcases List.mem_cons.mp hy with rfl | hy
    · rfl
    · exact hd y hy
  have hc := comp_nn b (.str s) (.int r :: more) (netD N) st hdd (by simp; omega)
  have ha := all_bls nn (.int r :: more) st
  have hall : (D.int r :: more).all nn = true := by
    rw [List.all_cons, hm, Bool.and_true]
    exact decide_eq_true hr
  rw [hall] at ha
  have hin := in_at st s hs
  rw [decide_eq_false hn] at hin
  show bodyR (mb_as_deed [some (netD N), some (mk b (.str s :: .int r :: more)), none, none, none] st) = _
  unfold mb_as_deed
  generalize mComp false (iSeq (mSlice false (mVar 1) (mPart (mC (.int 1))) mNoP)) [4] (.nm 4) mYes (mAnd (mCallN 1 m_is_whole (mCons (mVar 4) mNil)) (mBin oGe (mVar 4) (mC (.int 0)))) = C at hc ⊢
  generalize ((D.int r :: more).map fun y => D.bl (nn y)) = L at hc ha
  have hl2 : ¬ ((more.length : Int) + 1 + 1 < 2) := by omega
  cases b <;> simp [mk] at hc ⊢ <;> simp [bodyR, sRet, sRetN, sSeq, sIf, sNil, sExpr, sSet, sRaise, mAnd, mOr, mNot, mIf, mAndT, mOrT, mNotT, mT, mIsN, mChain, m1, mVar, mC, mBin, mUn, mCallN, mCons, mNil, mTup, mSlice, mPart, mNoP, oIsi, oIsi2, tyOf, oLen, oInt, oLe, oLt, oGt, oGe, oCmp, oIx, oSub, oFdiv, oMod, oEq, eqD, oSl, pu, Res.bind, Res.toS, lift, subT, mYes, hc, ha, seqR, seqW, at0, at1, hl2, h0, oIn, hin, LIM]
theorem as_rule (N : Net) (b t : Bool) (r : Int) (more : List D) (st : Sto) (hr : 0 ≤ r) (hm : more.all nn = true) (hl : more.length < 900) : m_as_deed [netD N, mk b (.str (if t then "take" else "act") :: .int r :: more)] st = .ok (if more.length = (if t then 1 else 0) ∧ ruAt N t r = true then .tup (.str (if t then "take" else "act") :: .int r :: more) else .non) st := by
  obtain ⟨hd, hp⟩ := nn_all hm
  unfold m_as_deed
  refine run_pure ?_ (pl_ite (by simp [pl, plL, hp]) rfl)
  have hdd : ∀ y ∈ D.int r :: more, dt y = true := fun y hy => by
    rcases List.mem_cons.mp hy with rfl | hy
    · rfl
    · exact hd y hy
  have hc := comp_nn b (.str (if t then "take" else "act")) (.int r :: more) (netD N) st hdd (by simp; omega)
  have ha := all_bls nn (.int r :: more) st
  have hall : (D.int r :: more).all nn = true := by
    rw [List.all_cons, hm, Bool.and_true]
    exact decide_eq_true hr
  rw [hall] at ha
  have hin := in_at st (if t then "take" else "act") (by cases t <;> decide +kernel)
  have hin2 : decide ((if t = true then ("take" : Str) else "act") ∈ ([("act" : Str), "take"] : List Str)) = true := by cases t <;> decide
  rw [hin2] at hin
  have h0 : ¬ ((if t = true then ("take" : Str) else "act") = "lose") := by cases t <;> decide
  have ht : decide ((if t = true then ("take" : Str) else "act") = "take") = t := by cases t <;> decide
  show bodyR (mb_as_deed [some (netD N), some (mk b (.str (if t then "take" else "act") :: .int r :: more)), none, none, none] st) = _
  generalize (if t = true then ("take" : Str) else "act") = s at hc hin h0 ht ⊢
  unfold mb_as_deed
  generalize mComp false (iSeq (mSlice false (mVar 1) (mPart (mC (.int 1))) mNoP)) [4] (.nm 4) mYes (mAnd (mCallN 1 m_is_whole (mCons (mVar 4) mNil)) (mBin oGe (mVar 4) (mC (.int 0)))) = C at hc ⊢
  generalize ((D.int r :: more).map fun y => D.bl (nn y)) = L at hc ha
  have hl2 : ¬ ((more.length : Int) + 1 + 1 < 2) := by omega
  have hz : more.length + 1 + 1 ≤ LIM := by show _ ≤ 16777216; omega
  cases hq : N.rs[r.toNat]? with
  | none =>
    have hge := List.getElem?_eq_none_iff.mp hq
    have hb : ¬ (r < (N.rs.length : Int)) := by omega
    have hx : ruAt N t r = false := by simp [ruAt, hq]
    cases b <;> simp [mk] at hc ⊢ <;> simp [bodyR, sRet, sRetN, sSeq, sIf, sNil, sExpr, sSet, sRaise, mAnd, mOr, mNot, mIf, mAndT, mOrT, mNotT, mT, mIsN, mChain, m1, mVar, mC, mBin, mUn, mCallN, mCons, mNil, mTup, mSlice, mPart, mNoP, oIsi, oIsi2, tyOf, oLen, oInt, oLe, oLt, oGt, oGe, oCmp, oIx, oSub, oFdiv, oMod, oEq, eqD, oSl, pu, Res.bind, Res.toS, lift, subT, mYes, hc, ha, seqR, seqW, at0, at1, hl2, h0, oIn, hin, LIM, l_is_below, hr, hb, hx, mFld, fld_r, tR]
  | some ru =>
    have hlt := (List.getElem?_eq_some_iff.mp hq).1
    have hb : r < (N.rs.length : Int) := by omega
    have hx : ruAt N t r = (isTake ru.a == t) := by simp [ruAt, hq]
    have hA := at_R N hq
    rw [Int.toNat_of_nonneg hr] at hA
    obtain ⟨z, rest, e1, e2⟩ := enc_first ru.a
    have e3 : L2.atI (D.str z :: rest) 0 = some (.str z) := at0 _ _
    cases hk : isTake ru.a <;> rw [hk] at hx e2 <;> cases t
    · have e4 : ¬ z = "take" := of_decide_eq_false e2
      have e5 : ¬ s = "take" := of_decide_eq_false ht
      by_cases hm0 : more = []
      · subst hm0
        cases b <;> simp [mk] at hc ⊢ <;> simp [bodyR, sRet, sRetN, sSeq, sIf, sNil, sExpr, sSet, sRaise, mAnd, mOr, mNot, mIf, mAndT, mOrT, mNotT, mT, mIsN, mChain, m1, mVar, mC, mBin, mUn, mCallN, mCons, mNil, mTup, mSlice, mPart, mNoP, oIsi, oIsi2, tyOf, oLen, oInt, oLe, oLt, oGt, oGe, oCmp, oIx, oSub, oFdiv, oMod, oEq, eqD, oSl, pu, Res.bind, Res.toS, lift, subT, mYes, hc, ha, seqR, seqW, at0, at1, at2, hl2, h0, oIn, hin, LIM, l_is_below, hr, hb, hx, mFld, fld_r, tR, hA, encR, e1, e4, e5, oTuple]
      · have hm1 : ¬ ((more.length : Int) + 1 + 1 = 2) := fun e => hm0 (List.eq_nil_of_length_eq_zero (by omega))
        cases b <;> simp [mk] at hc ⊢ <;> simp [bodyR, sRet, sRetN, sSeq, sIf, sNil, sExpr, sSet, sRaise, mAnd, mOr, mNot, mIf, mAndT, mOrT, mNotT, mT, mIsN, mChain, m1, mVar, mC, mBin, mUn, mCallN, mCons, mNil, mTup, mSlice, mPart, mNoP, oIsi, oIsi2, tyOf, oLen, oInt, oLe, oLt, oGt, oGe, oCmp, oIx, oSub, oFdiv, oMod, oEq, eqD, oSl, pu, Res.bind, Res.toS, lift, subT, mYes, hc, ha, seqR, seqW, at0, at1, at2, hl2, h0, oIn, hin, LIM, l_is_below, hr, hb, hx, mFld, fld_r, tR, hA, encR, e1, e4, e5, hm1, hm0, oTuple]
    · have e4 : ¬ z = "take" := of_decide_eq_false e2
      have e5 : s = "take" := of_decide_eq_true ht
      subst e5
      cases b <;> simp [mk] at hc ⊢ <;> simp [bodyR, sRet, sRetN, sSeq, sIf, sNil, sExpr, sSet, sRaise, mAnd, mOr, mNot, mIf, mAndT, mOrT, mNotT, mT, mIsN, mChain, m1, mVar, mC, mBin, mUn, mCallN, mCons, mNil, mTup, mSlice, mPart, mNoP, oIsi, oIsi2, tyOf, oLen, oInt, oLe, oLt, oGt, oGe, oCmp, oIx, oSub, oFdiv, oMod, oEq, eqD, oSl, pu, Res.bind, Res.toS, lift, subT, mYes, hc, ha, seqR, seqW, at0, at1, at2, hl2, h0, oIn, hin, LIM, l_is_below, hr, hb, hx, mFld, fld_r, tR, hA, encR, e1, e4]
    · have e4 : z = "take" := of_decide_eq_true e2
      have e5 : ¬ s = "take" := of_decide_eq_false ht
      cases b <;> simp [mk] at hc ⊢ <;> simp [bodyR, sRet, sRetN, sSeq, sIf, sNil, sExpr, sSet, sRaise, mAnd, mOr, mNot, mIf, mAndT, mOrT, mNotT, mT, mIsN, mChain, m1, mVar, mC, mBin, mUn, mCallN, mCons, mNil, mTup, mSlice, mPart, mNoP, oIsi, oIsi2, tyOf, oLen, oInt, oLe, oLt, oGt, oGe, oCmp, oIx, oSub, oFdiv, oMod, oEq, eqD, oSl, pu, Res.bind, Res.toS, lift, subT, mYes, hc, ha, seqR, seqW, at0, at1, at2, hl2, h0, oIn, hin, LIM, l_is_below, hr, hb, hx, mFld, fld_r, tR, hA, encR, e1, e4, e5]
    · have e4 : z = "take" := of_decide_eq_true e2
      have e5 : s = "take" := of_decide_eq_true ht
      subst e5
      by_cases h1 : more.length = 1
      · have hm1 : ((more.length : Int) + 1 + 1 = 3) := by omega
        cases b <;> simp [mk] at hc ⊢ <;> simp [bodyR, sRet, sRetN, sSeq, sIf, sNil, sExpr, sSet, sRaise, mAnd, mOr, mNot, mIf, mAndT, mOrT, mNotT, mT, mIsN, mChain, m1, mVar, mC, mBin, mUn, mCallN, mCons, mNil, mTup, mSlice, mPart, mNoP, oIsi, oIsi2, tyOf, oLen, oInt, oLe, oLt, oGt, oGe, oCmp, oIx, oSub, oFdiv, oMod, oEq, eqD, oSl, pu, Res.bind, Res.toS, lift, subT, mYes, hc, ha, seqR, seqW, at0, at1, at2, hl2, h0, oIn, hin, LIM, l_is_below, hr, hb, hx, mFld, fld_r, tR, hA, encR, e1, e4, hm1, h1, oTuple]
      · have hm1 : ¬ ((more.length : Int) + 1 + 1 = 3) := by omega
        cases b <;> simp [mk] at hc ⊢ <;> simp [bodyR, sRet, sRetN, sSeq, sIf, sNil, sExpr, sSet, sRaise, mAnd, mOr, mNot, mIf, mAndT, mOrT, mNotT, mT, mIsN, mChain, m1, mVar, mC, mBin, mUn, mCallN, mCons, mNil, mTup, mSlice, mPart, mNoP, oIsi, oIsi2, tyOf, oLen, oInt, oLe, oLt, oGt, oGe, oCmp, oIx, oSub, oFdiv, oMod, oEq, eqD, oSl, pu, Res.bind, Res.toS, lift, subT, mYes, hc, ha, seqR, seqW, at0, at1, at2, hl2, h0, oIn, hin, LIM, l_is_below, hr, hb, hx, mFld, fld_r, tR, hA, encR, e1, e4, hm1, h1, oTuple]
end K

namespace K
open PySem Cw
theorem sm64 {n : Nat} (h : n < 1000000000000) : small64 (n : Int) = true := by
  unfold small64
  rw [decide_eq_true_eq]
  omega
theorem mul_r {i : Int} {n : Nat} (st : Sto) (h : n < 1000000000000) : oMulX (.int i) (.int n) st = some (.int (i * n), st) := by
  show oMul (.int i) (.int n) st = _
  unfold oMul pu
  simp only [sm64 h, Bool.or_true, if_true]
theorem mul_l {i : Int} {n : Nat} (st : Sto) (h : n < 1000000000000) : oMulX (.int n) (.int i) st = some (.int (n * i), st) := by
  show oMul (.int n) (.int i) st = _
  unfold oMul pu
  simp only [sm64 h, Bool.true_or, if_true]
theorem add_ii (i j : Int) (st : Sto) : oAdd false (.int i) (.int j) st = some (.int (i + j), st) := rfl
theorem l_mix (a b : Int) (st : Sto) : ∃ v, m__law_mix [.int a, .int b] st = .ok (.int v) st := by
  have e1 := mul_r (i := a) (n := 48271) st (by omega)
  have e2 := mul_r (i := b) (n := 69621) st (by omega)
  have e5 := mul_r (i := b) (n := 7919) st (by omega)
  obtain ⟨o, ho, hlt⟩ : ∃ o : Nat, (a * 48271 + b * 69621 + 12345) % 2147483647 = (o : Int) ∧ o < 2147483647 := by
    have h1 := Int.emod_nonneg (a * 48271 + b * 69621 + 12345) (by decide : (2147483647 : Int) ≠ 0)
    have h2 := Int.emod_lt_of_pos (a * 48271 + b * 69621 + 12345) (by decide : (0 : Int) < 2147483647)
    exact ⟨((a * 48271 + b * 69621 + 12345) % 2147483647).toNat, (Int.toNat_of_nonneg h1).symm, by omega⟩
  have e3 := mul_l (i := (o : Int)) (n := o) st (by omega)
  have e4 := mul_r (i := (o : Int)) (n := 16807) st (by omega)
  refine ⟨((o : Int) * o + o * 16807 + b * 7919) % 2147483629, ?_⟩
  unfold m__law_mix
  refine run_pure ?_ rfl
  have e1' : oMulX (.int a) (.int 48271) st = some (.int (a * 48271), st) := e1
  have e2' : oMulX (.int b) (.int 69621) st = some (.int (b * 69621), st) := e2
  have e5' : oMulX (.int b) (.int 7919) st = some (.int (b * 7919), st) := e5
  have e4' : oMulX (.int o) (.int 16807) st = some (.int (o * 16807), st) := e4
  simp [mb__law_mix, bodyR, sRet, sRetN, sSeq, sIf, sNil, sExpr, sSet, sRaise, mAnd, mOr, mNot, mIf, mAndT, mOrT, mNotT, mT, mIsN, mChain, m1, mVar, mC, mBin, mUn, mCallN, mCons, mNil, mTup, mSlice, mPart, mNoP, oIsi, oIsi2, tyOf, oLen, oInt, oLe, oLt, oGt, oGe, oCmp, oIx, oSub, oFdiv, oMod, oEq, eqD, oSl, pu, Res.bind, Res.toS, lift, subT, mYes, e1', e2', add_ii, ho, e3, e4', e5']

def boxL (a b c d e : Int) (cs : List Int) : List D := [.int a, .int b, .int c, .int d, .int e, .lst (cs.map D.int)]
theorem set_self {st : Sto} {k : Nat} {c : Cell} (h : st[k]? = some c) : st.set k c = st := by
  obtain ⟨hk, e⟩ := List.getElem?_eq_some_iff.mp h
  rw [← e]
  exact List.set_getElem_self hk
section
variable {st : Sto} {k : Nat} {many a b c d e : Int} {cs : List Int} {v2 v3 : Option D}
theorem ix0 : L2.ixN 6 0 = some 0 := rfl
theorem ix1 : L2.ixN 6 1 = some 1 := rfl
theorem ix2 : L2.ixN 6 2 = some 2 := rfl
theorem ix3 : L2.ixN 6 3 = some 3 := rfl
theorem ix4 : L2.ixN 6 4 = some 4 := rfl
theorem pow18 (st : Sto) : oPow (.int 10) (.int 18) st = some (.int 1000000000000000000, st) := by
  unfold oPow pu
  simp
def drA : SM := (sIf (mAndT (mT (mBin (oEq false) (mBin oIx (mVar 0) (mC (.int 1))) (mC (.int 0)))) (mT (mBin oLt (mBin oIx (mVar 0) (mC (.int 2))) (m1 oLen (mBin oIx (mVar 0) (mC (.int 5)))))))
    (sSeq (sSet 2 (mBin oIx (mBin oIx (mVar 0) (mC (.int 5))) (mBin oIx (mVar 0) (mC (.int 2)))))
    (sSeq (sAsg (gSet (mVar 0) (mC (.int 2))) (mBin (oAdd false) (mBin oIx (mVar 0) (mC (.int 2))) (mC (.int 2))))
    (sSeq (sAsg (gSet (mVar 0) (mC (.int 4))) (mBin oMod (m1 oInt (mBin (oAdd false) (mBin oMulX (mBin oIx (mVar 0) (mC (.int 4))) (mC (.int 31))) (mVar 2))) (mC (.int 2147483647))))
    (sIf (mT (mBin oGe (mVar 2) (mBin oPow (mC (.int 10)) (mC (.int 18)))))
    (sSeq (sAsg (gSet (mVar 0) (mC (.int 0))) (mBin oSub (mVar 2) (mBin oPow (mC (.int 10)) (mC (.int 18)))))
    (sAsg (gSet (mVar 0) (mC (.int 1))) (mC (.int 60))))
    sNil))))
    sNil)
def drB : SM := (sSeq (sIf (mAndT (mT (mBin oGt (mBin oIx (mVar 0) (mC (.int 1))) (mC (.int 0)))) (mT (mBin oGt (mBin oIx (mVar 0) (mC (.int 0))) (mC (.int 0)))))
    (sSeq (sSet 3 (mBin oMod (m1 oInt (mBin oIx (mVar 0) (mC (.int 0)))) (mVar 1)))
    (sSeq (sAsg (gSet (mVar 0) (mC (.int 0))) (mBin oFdiv (mBin oIx (mVar 0) (mC (.int 0))) (mVar 1)))
    (sSeq (sAsg (gSet (mVar 0) (mC (.int 1))) (mBin oSub (mBin oIx (mVar 0) (mC (.int 1))) (mC (.int 1))))
    (sRet (mVar 3)))))
    sNil)
    (sSeq (sAsg (gSet (mVar 0) (mC (.int 1))) (mC (.int 0)))
    (sSeq (sAsg (gSet (mVar 0) (mC (.int 3))) (mBin (oAdd false) (mBin oIx (mVar 0) (mC (.int 3))) (mC (.int 1))))
    (sRet (mBin oMod (m1 oInt (mCallN 2 m__law_mix (mCons (mBin oIx (mVar 0) (mC (.int 4))) (mCons (mBin oIx (mVar 0) (mC (.int 3))) mNil)))) (mVar 1))))))
theorem dr_eq : mb__law_draw = sSeq drA drB := rfl
theorem drA_ok (hk : k < st.length) (hb : 0 ≤ b) (hc : 0 ≤ c) : ∃ a' b' c' d' e' v, drA [some (.ref k), some (.int many), none, none] (st.set k (.lst (boxL a b c d e cs))) = .nx [some (.ref k), some (.int many), v, none] (st.set k (.lst (boxL a' b' c' d' e' cs))) ∧ 0 ≤ b' ∧ 0 ≤ c' := by
  have hg : ∀ x : Cell, (st.set k x)[k]? = some x := fun x => List.getElem?_set_self hk
  by_cases h1 : b = 0 ∧ c < cs.length
  · obtain ⟨rfl, h2⟩ := h1
    obtain ⟨cell, hcell⟩ : ∃ cell, cs[c.toNat]? = some cell := ⟨cs[c.toNat]'(by omega), by simp⟩
    have hat : L2.atI (cs.map D.int) c = some (.int cell) := by
      have := at_nat (cs.map D.int) c.toNat
      rw [Int.toNat_of_nonneg hc] at this
      rw [this, List.getElem?_map, hcell]
      rfl
    have hm := mul_r (i := e) (n := 31) (st.set k (.lst (boxL a 0 (c + 2) d e cs))) (by omega)
    have hm' : oMulX (.int e) (.int 31) (st.set k (.lst (boxL a 0 (c + 2) d e cs))) = some (.int (e * 31), st.set k (.lst (boxL a 0 (c + 2) d e cs))) := hm
    unfold boxL at hm'
    by_cases h3 : 1000000000000000000 ≤ cell
    · refine ⟨cell - 1000000000000000000, 60, c + 2, d, (e * 31 + cell) % 2147483647, some (.int cell), ?_, by omega, by omega⟩
      simp [drA, boxL, bodyR, sRet, sRetN, sSeq, sIf, sNil, sExpr, sSet, sRaise, mAnd, mOr, mNot, mIf, mAndT, mOrT, mNotT, mT, mIsN, mChain, m1, mVar, mC, mBin, mUn, mCallN, mCons, mNil, mTup, mSlice, mPart, mNoP, oIsi, oIsi2, tyOf, oLen, oInt, oLe, oLt, oGt, oGe, oCmp, oIx, oSub, oFdiv, oMod, oEq, eqD, oSl, pu, Res.bind, Res.toS, lift, subT, mYes, sAsg, gSet, hg, seqR, seqW, at0, at1, at2, at4, at5, ix0, ix1, ix2, ix4, h2, hat, add_ii, hm', pow18, h3, List.set_set]
    · refine ⟨a, 0, c + 2, d, (e * 31 + cell) % 2147483647, some (.int cell), ?_, by omega, by omega⟩
      simp [drA, boxL, bodyR, sRet, sRetN, sSeq, sIf, sNil, sExpr, sSet, sRaise, mAnd, mOr, mNot, mIf, mAndT, mOrT, mNotT, mT, mIsN, mChain, m1, mVar, mC, mBin, mUn, mCallN, mCons, mNil, mTup, mSlice, mPart, mNoP, oIsi, oIsi2, tyOf, oLen, oInt, oLe, oLt, oGt, oGe, oCmp, oIx, oSub, oFdiv, oMod, oEq, eqD, oSl, pu, Res.bind, Res.toS, lift, subT, mYes, sAsg, gSet, hg, seqR, seqW, at0, at1, at2, at4, at5, ix0, ix1, ix2, ix4, h2, hat, add_ii, hm', pow18, h3, List.set_set]
  · refine ⟨a, b, c, d, e, none, ?_, hb, hc⟩
    by_cases h2 : b = 0
    · have h3 : ¬ c < cs.length := fun z => h1 ⟨h2, z⟩
      subst h2
      simp [drA, boxL, bodyR, sRet, sRetN, sSeq, sIf, sNil, sExpr, sSet, sRaise, mAnd, mOr, mNot, mIf, mAndT, mOrT, mNotT, mT, mIsN, mChain, m1, mVar, mC, mBin, mUn, mCallN, mCons, mNil, mTup, mSlice, mPart, mNoP, oIsi, oIsi2, tyOf, oLen, oInt, oLe, oLt, oGt, oGe, oCmp, oIx, oSub, oFdiv, oMod, oEq, eqD, oSl, pu, Res.bind, Res.toS, lift, subT, mYes, hg, seqR, seqW, at1, at2, at5, h3]
    · simp [drA, boxL, bodyR, sRet, sRetN, sSeq, sIf, sNil, sExpr, sSet, sRaise, mAnd, mOr, mNot, mIf, mAndT, mOrT, mNotT, mT, mIsN, mChain, m1, mVar, mC, mBin, mUn, mCallN, mCons, mNil, mTup, mSlice, mPart, mNoP, oIsi, oIsi2, tyOf, oLen, oInt, oLe, oLt, oGt, oGe, oCmp, oIx, oSub, oFdiv, oMod, oEq, eqD, oSl, pu, Res.bind, Res.toS, lift, subT, mYes, hg, seqR, seqW, at1, at2, at5, h2]
theorem drB_ok (hk : k < st.length) (hb : 0 ≤ b) (hc : 0 ≤ c) (hm : 0 < many) (hm2 : many < 1073741824) {v : Option D} : ∃ a' b' c' d' e' r, drB [some (.ref k), some (.int many), v, none] (st.set k (.lst (boxL a b c d e cs))) = .rt (.int r) (st.set k (.lst (boxL a' b' c' d' e' cs))) ∧ 0 ≤ b' ∧ 0 ≤ c' ∧ 0 ≤ r ∧ r < many := by
  have hg : ∀ x : Cell, (st.set k x)[k]? = some x := fun x => List.getElem?_set_self hk
  by_cases h1 : 0 < b ∧ 0 < a
  · refine ⟨a / many, b - 1, c, d, e, a % many, ?_, by omega, hc, Int.emod_nonneg _ (by omega), Int.emod_lt_of_pos _ hm⟩
    simp [drB, boxL, bodyR, sRet, sRetN, sSeq, sIf, sNil, sExpr, sSet, sRaise, mAnd, mOr, mNot, mIf, mAndT, mOrT, mNotT, mT, mIsN, mChain, m1, mVar, mC, mBin, mUn, mCallN, mCons, mNil, mTup, mSlice, mPart, mNoP, oIsi, oIsi2, tyOf, oLen, oInt, oLe, oLt, oGt, oGe, oCmp, oIx, oSub, oFdiv, oMod, oEq, eqD, oSl, pu, Res.bind, Res.toS, lift, subT, mYes, sAsg, gSet, hg, seqR, seqW, at0, at1, at2, at4, at5, ix0, ix1, ix2, ix4, h1.1, h1.2, hm, hm2, List.set_set]
  · obtain ⟨w, hw⟩ := l_mix e (d + 1) (st.set k (.lst (boxL a 0 c (d + 1) e cs)))
    unfold boxL at hw
    refine ⟨a, 0, c, d + 1, e, w % many, ?_, by omega, hc, Int.emod_nonneg _ (by omega), Int.emod_lt_of_pos _ hm⟩
    by_cases h2 : 0 < b
    · have h3 : ¬ 0 < a := fun z => h1 ⟨h2, z⟩
      simp [drB, boxL, bodyR, sRet, sRetN, sSeq, sIf, sNil, sExpr, sSet, sRaise, mAnd, mOr, mNot, mIf, mAndT, mOrT, mNotT, mT, mIsN, mChain, m1, mVar, mC, mBin, mUn, mCallN, mCons, mNil, mTup, mSlice, mPart, mNoP, oIsi, oIsi2, tyOf, oLen, oInt, oLe, oLt, oGt, oGe, oCmp, oIx, oSub, oFdiv, oMod, oEq, eqD, oSl, pu, Res.bind, Res.toS, lift, subT, mYes, sAsg, gSet, hg, seqR, seqW, at0, at1, at2, at3, at4, at5, ix0, ix1, ix2, ix3, ix4, h2, h3, hm, add_ii, hw, List.set_set]
    · simp [drB, boxL, bodyR, sRet, sRetN, sSeq, sIf, sNil, sExpr, sSet, sRaise, mAnd, mOr, mNot, mIf, mAndT, mOrT, mNotT, mT, mIsN, mChain, m1, mVar, mC, mBin, mUn, mCallN, mCons, mNil, mTup, mSlice, mPart, mNoP, oIsi, oIsi2, tyOf, oLen, oInt, oLe, oLt, oGt, oGe, oCmp, oIx, oSub, oFdiv, oMod, oEq, eqD, oSl, pu, Res.bind, Res.toS, lift, subT, mYes, sAsg, gSet, hg, seqR, seqW, at0, at1, at2, at3, at4, at5, ix0, ix1, ix2, ix3, ix4, h2, hm, add_ii, hw, List.set_set]
/-- a draw: below many, the box is a box again, nothing else changes -/
theorem l_draw (hbx : st[k]? = some (.lst (boxL a b c d e cs))) (hb : 0 ≤ b) (hc : 0 ≤ c) (hm : 0 < many) (hm2 : many < 1073741824) : ∃ a' b' c' d' e' r, m__law_draw [.ref k, .int many] st = .ok (.int r) (st.set k (.lst (boxL a' b' c' d' e' cs))) ∧ 0 ≤ b' ∧ 0 ≤ c' ∧ 0 ≤ r ∧ r < many := by
  have hk := (List.getElem?_eq_some_iff.mp hbx).1
  obtain ⟨a1, b1, c1, d1, e1, v, h1, p1, p2⟩ := drA_ok (st := st) (many := many) (a := a) (d := d) (e := e) (cs := cs) hk hb hc
  obtain ⟨a2, b2, c2, d2, e2, r, h2, q1, q2, q3, q4⟩ := drB_ok (st := st) (many := many) (a := a1) (d := d1) (e := e1) (cs := cs) hk p1 p2 hm hm2 (v := v)
  rw [set_self hbx] at h1
  refine ⟨a2, b2, c2, d2, e2, r, ?_, q1, q2, q3, q4⟩
  have hbd : bodyR (mb__law_draw [some (.ref k), some (.int many), none, none] st) = .ok (.int r) (st.set k (.lst (boxL a2 b2 c2 d2 e2 cs))) := by
    rw [dr_eq]
    simp only [sSeq, h1, h2, bodyR]
  have hpl : plL (boxL a2 b2 c2 d2 e2 cs) = true := by
    simp only [boxL, plL, pl, Bool.true_and, Bool.and_true]
    rw [plL_iff]
    intro y hy
    obtain ⟨z, _, rfl⟩ := List.mem_map.mp hy
    rfl
  have := run_cells (n := 4) (f := mb__law_draw) (ds := [.ref k, .int many]) hbd (frz_pl _ _ rfl _) (popB_gen fun j hj => by
    by_cases e : k = j
    · subst e
      exact .inr ⟨_, List.getElem?_set_self hk, belowL_pl _ _ hpl⟩
    · exact .inl (List.getElem?_set_ne e))
  unfold m__law_draw
  rw [this, List.take_of_length_le (by simp)]
end
end K

namespace K
open PySem Cw
/-- the state s0, but for the box at k -/
def Bx (cs : List Int) (k : Nat) (s0 s : Sto) : Prop := k < s0.length ∧ ∃ a b c d e, s = s0.set k (.lst (boxL a b c d e cs)) ∧ 0 ≤ b ∧ 0 ≤ c
theorem Bx.len {cs : List Int} {k : Nat} {s0 s : Sto} (h : Bx cs k s0 s) : s.length = s0.length := by
  obtain ⟨_, _, _, _, _, _, rfl, _⟩ := h
  simp
theorem box_pl (a b c d e : Int) (cs : List Int) : plL (boxL a b c d e cs) = true := by
  simp only [boxL, plL, pl, Bool.true_and, Bool.and_true]
  rw [plL_iff]
  intro y hy
  obtain ⟨z, _, rfl⟩ := List.mem_map.mp hy
  rfl
theorem Bx.pop {cs : List Int} {k : Nat} {s0 s ext : Sto} (h : Bx cs k s0 s) : popB s0 (s ++ ext) = true := by
  obtain ⟨hk, a, b, c, d, e, rfl, _⟩ := h
  refine popB_gen fun j hj => ?_
  rw [List.getElem?_append_left (by simpa using hj)]
  by_cases e : k = j
  · subst e
    exact .inr ⟨_, List.getElem?_set_self hk, belowL_pl _ _ (box_pl ..)⟩
  · exact .inl (List.getElem?_set_ne e)
theorem Bx.pop2 {cs : List Int} {k : Nat} {s0 s s1 ext : Sto} (h : Bx cs k s0 s) (h1 : Bx cs k s0 s1) : popB s (s1 ++ ext) = true := by
  have hl := h.len
  have hl1 := h1.len
  obtain ⟨hk, a, b, c, d, e, rfl, _⟩ := h
  obtain ⟨_, a', b', c', d', e', rfl, _⟩ := h1
  refine popB_gen fun j hj => ?_
  rw [List.getElem?_append_left (by omega)]
  by_cases e : k = j
  · subst e
    exact .inr ⟨_, List.getElem?_set_self hk, belowL_pl _ _ (box_pl ..)⟩
  · exact .inl (by rw [List.getElem?_set_ne e, List.getElem?_set_ne e])
theorem Bx.draw {cs : List Int} {k : Nat} {s0 s : Sto} {many : Int} (ext : Sto) (h : Bx cs k s0 s) (hm : 0 < many) (hm2 : many < 1073741824) : ∃ s' r, m__law_draw [.ref k, .int many] (s ++ ext) = .ok (.int r) (s' ++ ext) ∧ Bx cs k s0 s' ∧ 0 ≤ r ∧ r < many := by
  obtain ⟨hk, a, b, c, d, e, rfl, hb, hc⟩ := h
  have hk' : k < (s0.set k (.lst (boxL a b c d e cs))).length := by simpa using hk
  obtain ⟨a', b', c', d', e', r, h1, h2, h3, h4, h5⟩ := l_draw (st := s0.set k (.lst (boxL a b c d e cs)) ++ ext) (k := k) (many := many) (a := a) (b := b) (c := c) (d := d) (e := e) (cs := cs) (by rw [List.getElem?_append_left hk']; exact List.getElem?_set_self hk) hb hc hm hm2
  refine ⟨s0.set k (.lst (boxL a' b' c' d' e' cs)), r, ?_, ⟨hk, _, _, _, _, _, rfl, h2, h3⟩, h4, h5⟩
  rw [h1, List.set_append_left _ _ hk', List.set_set]
theorem map_erase {α β : Type} (f : α → β) : ∀ (l : List α) (i : Nat), (l.map f).eraseIdx i = (l.eraseIdx i).map f
  | [], i => by simp
  | a :: l, 0 => by simp
  | a :: l, i + 1 => by simp [map_erase f l i]
theorem call2 {cf : List D → Sto → Res D} {fa fb : EM D} {env : En} {st st1 st2 : Sto} {a b : D} (h1 : fa env st = .ok a st1) (h2 : fb env st1 = .ok b st2) : mCallN 2 cf (mCons fa (mCons fb mNil)) env st = cf [a, b] st2 := by
  simp [mCallN, mCons, mNil, h1, h2, Res.bind]
theorem meth1 {T : String} {op : OM} {fo fe : EM D} {env : En} {st st2 : Sto} {d x : D} (h1 : fo env st = .ok d st) (ht : tyM T d st = true) (h2 : fe env st = .ok x st2) : mMeth T op fo (mCons fe mNil) env st = lift (op d [x] st2) := by
  simp [mMeth, mCons, mNil, h1, ht, h2, Res.bind]
theorem erase_perm {α : Type} : ∀ (l : List α) (i : Nat) (h : i < l.length), (l[i] :: l.eraseIdx i).Perm l
  | a :: l, 0, _ => by simp
  | a :: l, i + 1, h => by
    simp only [List.getElem_cons_succ, List.eraseIdx_cons_succ]
    exact (List.Perm.swap _ _ _).trans ((erase_perm l i (by simpa using h)).cons a)
theorem l_names {cs : List Int} {k : Nat} {s0 s : Sto} (pool : List Str) (many : Nat) (h : Bx cs k s0 s) (hp : many ≤ pool.length) (hp2 : pool.length < 900) : ∃ (s' : Sto) (ss : List Str), m__law_names [.ref k, .lst (pool.map D.str), .int many] s = .ok (.lst (ss.map D.str)) s' ∧ Bx cs k s0 s' ∧ ss.length = many ∧ ∃ left : List Str, (left ++ ss).Perm pool := by
  have hn := h.len
  have hk := h.1
  let body : SM := sExpr (mMeth "list" oAppend (mVar 4) (mCons (mMeth "list" oPopAt (mVar 3) (mCons (mCallN 2 m__law_draw (mCons (mVar 0) (mCons (m1 oLen (mVar 3)) mNil))) mNil)) mNil))
  let I : Nat → En → Sto → Prop := fun j env st => ∃ (s1 : Sto) (left names : List Str) (v : Option D), env = [some (.ref k), some (.lst (pool.map D.str)), some (.int many), some (.ref s.length), some (.ref (s.length + 1)), v] ∧ st = s1 ++ [.lst (left.map D.str), .lst (names.map D.str)] ∧ Bx cs k s0 s1 ∧ (left ++ names).Perm pool ∧ names.length = j
  obtain ⟨env', st', h1, s1, left, names, v, rfl, rfl, h2, h3, h4⟩ := for_ix (lock := []) (g := gN 5) (b := body) I (fun _ _ _ _ => rfl) (rngD 0 many).items 0 [some (.ref k), some (.lst (pool.map D.str)), some (.int many), some (.ref s.length), some (.ref (s.length + 1)), none] (s ++ [.lst (pool.map D.str), .lst []]) ⟨s, pool, [], none, rfl, rfl, h, by simp, rfl⟩ (by
    rintro i x hx env st ⟨s1, left, names, v, rfl, rfl, g1, g2, g3⟩
    have hi : i < many := by
      have := (List.getElem?_eq_some_iff.mp hx).1
      simpa [rngD] using this
    have hl1 : s1.length = s.length := by rw [g1.len, hn]
    have hlen := g2.length_eq
    rw [List.length_append] at hlen
    have hpos : 0 < left.length := by omega
    obtain ⟨s2, r, d1, d2, d3, d4⟩ := g1.draw (many := (left.length : Int)) [.lst (left.map D.str), .lst (names.map D.str)] (by omega) (by omega)
    have hl2 : s2.length = s.length := by rw [d2.len, hn]
    obtain ⟨y, hy⟩ : ∃ y, left[r.toNat]? = some y := ⟨left[r.toNat]'(by omega), by simp⟩
    refine ⟨_, _, [some (.ref k), some (.lst (pool.map D.str)), some (.int many), some (.ref s.length), some (.ref (s.length + 1)), some x], s2 ++ [.lst ((left.eraseIdx r.toNat).map D.str), .lst ((names ++ [y]).map D.str)], rfl, .inl ?_, s2, left.eraseIdx r.toNat, names ++ [y], some x, rfl, rfl, d2, ?_, by simp; omega⟩
    · have c1 : ∀ (t : Sto) (ht : t.length = s.length) (a b : Cell), (t ++ [a, b])[s.length]? = some a := fun t ht a b => by
        rw [List.getElem?_append_right (by omega), ht, Nat.sub_self]
        rfl
      have c2 : ∀ (t : Sto) (ht : t.length = s.length) (a b : Cell), (t ++ [a, b])[s.length + 1]? = some b := fun t ht a b => by
        rw [List.getElem?_append_right (by omega), ht, Nat.add_sub_cancel_left]
        rfl
      have c3 : ∀ (t : Sto) (ht : t.length = s.length) (a b c : Cell), (t ++ [a, b]).set s.length c = t ++ [c, b] := fun t ht a b c => by
        rw [List.set_append_right _ _ (by omega), ht, Nat.sub_self]
        rfl
      have c4 : ∀ (t : Sto) (ht : t.length = s.length) (a b c : Cell), (t ++ [a, b]).set (s.length + 1) c = t ++ [a, c] := fun t ht a b c => by
        rw [List.set_append_right _ _ (by omega), ht, Nat.add_sub_cancel_left]
        rfl
      have hr2 : r < 9223372036854775808 := by omega
      have hy' : (left.map D.str)[r.toNat]? = some (.str y) := by rw [List.getElem?_map, hy]; rfl
      have he : (left.map D.str).eraseIdx r.toNat = (left.eraseIdx r.toNat).map D.str := map_erase _ _ _
      have hnl : names.length < LIM := by show _ < 16777216; omega
      have e1 : (m1 oLen (mVar 3)) [some (.ref k), some (.lst (pool.map D.str)), some (.int many), some (.ref s.length), some (.ref (s.length + 1)), some x] (s1 ++ [.lst (left.map D.str), .lst (names.map D.str)]) = .ok (.int left.length) (s1 ++ [.lst (left.map D.str), .lst (names.map D.str)]) := by
        simp [m1, oLen, mVar, Res.bind, lift, seqR, seqW, c1 s1 hl1]
      have e2 : (mCallN 2 m__law_draw (mCons (mVar 0) (mCons (m1 oLen (mVar 3)) mNil))) [some (.ref k), some (.lst (pool.map D.str)), some (.int many), some (.ref s.length), some (.ref (s.length + 1)), some x] (s1 ++ [.lst (left.map D.str), .lst (names.map D.str)]) = .ok (.int r) (s2 ++ [.lst (left.map D.str), .lst (names.map D.str)]) := by
        rw [call2 (a := .ref k) (st1 := s1 ++ [.lst (left.map D.str), .lst (names.map D.str)]) rfl e1]
        exact d1
      have e3 : (mMeth "list" oPopAt (mVar 3) (mCons (mCallN 2 m__law_draw (mCons (mVar 0) (mCons (m1 oLen (mVar 3)) mNil))) mNil)) [some (.ref k), some (.lst (pool.map D.str)), some (.int many), some (.ref s.length), some (.ref (s.length + 1)), some x] (s1 ++ [.lst (left.map D.str), .lst (names.map D.str)]) = .ok (.str y) (s2 ++ [.lst ((left.eraseIdx r.toNat).map D.str), .lst (names.map D.str)]) := by
        rw [meth1 (d := .ref s.length) rfl (by simp [tyM, c1 s1 hl1]) e2]
        simp [oPopAt, onCell, c1 s2 hl2, d3, hr2, hy', he, c3 s2 hl2, lift]
      show body _ _ = _
      have e4 : (mMeth "list" oAppend (mVar 4) (mCons (mMeth "list" oPopAt (mVar 3) (mCons (mCallN 2 m__law_draw (mCons (mVar 0) (mCons (m1 oLen (mVar 3)) mNil))) mNil)) mNil)) [some (.ref k), some (.lst (pool.map D.str)), some (.int many), some (.ref s.length), some (.ref (s.length + 1)), some x] (s1 ++ [.lst (left.map D.str), .lst (names.map D.str)]) = .ok .non (s2 ++ [.lst ((left.eraseIdx r.toNat).map D.str), .lst ((names ++ [y]).map D.str)]) := by
        rw [meth1 (d := .ref (s.length + 1)) rfl (by simp [tyM, c2 s1 hl1]) e3]
        simp [oAppend, onCell, c2 s2 hl2, hnl, c4 s2 hl2, lift]
      show Res.toS (mMeth "list" oAppend (mVar 4) (mCons (mMeth "list" oPopAt (mVar 3) (mCons (mCallN 2 m__law_draw (mCons (mVar 0) (mCons (m1 oLen (mVar 3)) mNil))) mNil)) mNil) [some (.ref k), some (.lst (pool.map D.str)), some (.int many), some (.ref s.length), some (.ref (s.length + 1)), some x] (s1 ++ [.lst (left.map D.str), .lst (names.map D.str)])) _ _ = _
      rw [e4]
      rfl
    · have p1 : (y :: left.eraseIdx r.toNat).Perm left := by
        have hlt := (List.getElem?_eq_some_iff.mp hy).1
        have := erase_perm left r.toNat hlt
        rwa [(List.getElem?_eq_some_iff.mp hy).2] at this
      refine List.Perm.trans ?_ g2
      refine List.Perm.trans ?_ (p1.append_right names)
      rw [← List.append_assoc]
      refine List.Perm.trans (List.perm_append_comm) ?_
      simp)
  have hl1 : s1.length = s.length := by rw [h2.len, hn]
  refine ⟨s1, names, ?_, h2, by simpa [rngD] using h4, left, h3⟩
  have hs1 : s1.length = s0.length := h2.len
  unfold m__law_names
  have hplN : plL (names.map D.str) = true := by
    rw [plL_iff]
    intro d hd
    obtain ⟨z, _, rfl⟩ := List.mem_map.mp hd
    rfl
  have hb : bodyR (mb__law_names [some (.ref k), some (.lst (pool.map D.str)), some (.int many), none, none, none] s) = .ok (.ref (s.length + 1)) (s1 ++ [.lst (left.map D.str), .lst (names.map D.str)]) := by
    have hf : sFor (iRg1 (mVar 2)) (gN 5) body [some (.ref k), some (.lst (pool.map D.str)), some (.int many), some (.ref s.length), some (.ref (s.length + 1)), none] (s ++ [.lst (pool.map D.str), .lst []]) = .nx [some (.ref k), some (.lst (pool.map D.str)), some (.int many), some (.ref s.length), some (.ref (s.length + 1)), v] (s1 ++ [.lst (left.map D.str), .lst (names.map D.str)]) := by
      unfold sFor
      rw [rg1_ok (n := many) rfl (al_small (by omega))]
      exact h1
    show bodyR (sSeq _ (sSeq _ (sSeq (sFor (iRg1 (mVar 2)) (gN 5) body) _)) _ _) = _
    generalize sFor (iRg1 (mVar 2)) (gN 5) body = C at hf ⊢
    simp [bodyR, sRet, sRetN, sSeq, sIf, sNil, sExpr, sSet, sRaise, mAnd, mOr, mNot, mIf, mAndT, mOrT, mNotT, mT, mIsN, mChain, m1, mVar, mC, mBin, mUn, mCallN, mCons, mNil, mTup, mSlice, mPart, mNoP, oIsi, oIsi2, tyOf, oLen, oInt, oLe, oLt, oGt, oGe, oCmp, oIx, oSub, oFdiv, oMod, oEq, eqD, oSl, pu, Res.bind, Res.toS, lift, subT, mYes, oList, seqR, seqW, mkL, mLst, LIM, hf]
  have hlen2 : (s.length + 1 < s.length) = False := by simp
  have hc : (s1 ++ [Cell.lst (left.map D.str), .lst (names.map D.str)])[s.length + 1]? = some (.lst (names.map D.str)) := by
    rw [List.getElem?_append_right (by omega), hl1, Nat.add_sub_cancel_left]
    rfl
  have hfz : frz (s1 ++ [Cell.lst (left.map D.str), .lst (names.map D.str)]) s.length 5 (.ref (s.length + 1)) = some (.lst (names.map D.str)) := by
    unfold frz frzG
    simp only [hlen2, if_false, hc]
    rw [frzL_pl _ _ hplN]
  rw [run_cells hb hfz (h.pop2 h2)]
  congr 1
  rw [← hl1]
  exact take_app _ _
end K

namespace K
open PySem Cw
section
variable {cs : List Int} {k : Nat} {s0 s : Sto} {env : En}
theorem var_ok {i : Nat} {d : D} {st : Sto} (h : env[i]? = some (some d)) : mVar i env st = .ok d st := by
  unfold mVar
  rw [h]
theorem draw_c (h0 : env[0]? = some (some (.ref k))) {fm : EM D} {m : Int} (ext : Sto) (h : Bx cs k s0 s) (hf : fm env (s ++ ext) = .ok (.int m) (s ++ ext)) (hm : 0 < m) (hm2 : m < 1073741824) : ∃ s' r, mCallN 2 m__law_draw (mCons (mVar 0) (mCons fm mNil)) env (s ++ ext) = .ok (.int r) (s' ++ ext) ∧ Bx cs k s0 s' ∧ 0 ≤ r ∧ r < m := by
  obtain ⟨s', r, h1, h2, h3, h4⟩ := h.draw ext hm hm2
  exact ⟨s', r, by rw [call2 (var_ok h0) hf]; exact h1, h2, h3, h4⟩
/-- [x, y][int(draw(box, m) == 0)] -/
theorem pick2 (h0 : env[0]? = some (some (.ref k))) (x y m : Int) (ext : Sto) (h : Bx cs k s0 s) (hm : 0 < m) (hm2 : m < 1073741824) : ∃ s' z, (mBin oIx (mLst false (mCons (mC (.int x)) (mCons (mC (.int y)) mNil))) (m1 oInt (mBin (oEq false) (mCallN 2 m__law_draw (mCons (mVar 0) (mCons (mC (.int m)) mNil))) (mC (.int 0))))) env (s ++ ext) = .ok (.int z) (s' ++ ext) ∧ Bx cs k s0 s' ∧ (z = x ∨ z = y) := by
  obtain ⟨s', r, h1, h2, h3, h4⟩ := draw_c (fm := mC (.int m)) h0 ext h rfl hm hm2
  by_cases hr : r = 0
  · refine ⟨s', y, ?_, h2, .inr rfl⟩
    simp [mBin, mLst, mCons, mNil, mC, Res.bind, mkL, LIM, m1, lift, oIx, oInt, oEq, eqD, seqR, seqW] at h1 ⊢
    simp [mCallN, mCons, mNil, mC, Res.bind] at h1
    simp [mCallN, mCons, mNil, mC, Res.bind, h1, hr, at1, lift, oEq, eqD, oInt, oIx, seqR, seqW]
  · refine ⟨s', x, ?_, h2, .inl rfl⟩
    simp [mBin, mLst, mCons, mNil, mC, Res.bind, mkL, LIM, m1, lift, oIx, oInt, oEq, eqD, seqR, seqW] at h1 ⊢
    simp [mCallN, mCons, mNil, mC, Res.bind] at h1
    simp [mCallN, mCons, mNil, mC, Res.bind, h1, hr, at0, lift, oEq, eqD, oInt, oIx, seqR, seqW]
end

theorem seq_nx {env : En} {f g : SM} {st st' : Sto} {env' : En} (h : f env st = .nx env' st') : sSeq f g env st = g env' st' := by
  unfold sSeq
  rw [h]
theorem set_nx {env : En} {i : Nat} {f : EM D} {st st' : Sto} {d : D} (h : f env st = .ok d st') : sSet i f env st = .nx (env.set i (some d)) st' := by
  unfold sSet
  rw [h]
  rfl
theorem bin_ok {env : En} {op : O2} {fa fb : EM D} {st st1 st2 st3 : Sto} {a b d : D} (h1 : fa env st = .ok a st1) (h2 : fb env st1 = .ok b st2) (h3 : op a b st2 = some (d, st3)) : mBin op fa fb env st = .ok d st3 := by
  simp [mBin, h1, h2, h3, Res.bind, lift]
def pool9 : List Str := ["c", "d", "p", "cc", "abcdef", "x", "to", "q", "wire"]
def chBody : SM := (sSeq (sSet 5 (mCallN 2 m__law_draw (mCons (mVar 0) (mCons (mVar 1) mNil))))
    (sSeq (sSet 6 (mBin oMod (m1 oInt (mBin (oAdd false) (mBin (oAdd false) (mVar 5) (mC (.int 1))) (mCallN 2 m__law_draw (mCons (mVar 0) (mCons (mBin oSub (mVar 1) (mC (.int 1))) mNil))))) (mVar 1)))
    (sSeq (sSet 7 (mBin oIx (mLst false (mCons (mC (.str ("order" : Str))) (mCons (mC (.str ("loose" : Str))) (mCons (mC (.str ("order lossy" : Str))) (mCons (mC (.str ("loose lossy" : Str))) mNil))))) (mCallN 2 m__law_draw (mCons (mVar 0) (mCons (mC (.int 4)) mNil)))))
    (sExpr (mMeth "list" oAppend (mVar 2) (mCons (mTup (mCons (mVar 4) (mCons (mVar 5) (mCons (mVar 6) (mCons (mVar 7) mNil))))) mNil))))))
/-- one channel more -/
theorem ch_step {cs : List Int} {k many n : Nat} {s0 s1 : Sto} {chs : List Chan} {x : Str} {cnt v5 v6 v7 : Option D} (h : Bx cs k s0 s1) (hn : s1.length = n) (hm : 2 ≤ many) (hm2 : many ≤ 5) (hl : chs.length < 100) :
    ∃ s2 c v5' v6' v7', chBody [some (.ref k), some (.int many), some (.ref n), cnt, some (.str x), v5, v6, v7] (s1 ++ [.lst (chs.map encC)]) = .nx [some (.ref k), some (.int many), some (.ref n), cnt, some (.str x), v5', v6', v7'] (s2 ++ [.lst ((chs ++ [c]).map encC)]) ∧ Bx cs k s0 s2 ∧ c.nm = x ∧ c.giver < many ∧ c.taker < many ∧ c.giver ≠ c.taker := by
  obtain ⟨sa, g, a1, a2, a3, a4⟩ := draw_c (env := [some (.ref k), some (.int many), some (.ref n), cnt, some (.str x), v5, v6, v7]) (fm := mVar 1) (m := (many : Int)) rfl [.lst (chs.map encC)] h rfl (by omega) (by omega)
  have hsub : (mBin oSub (mVar 1) (mC (.int 1))) [some (.ref k), some (.int many), some (.ref n), cnt, some (.str x), some (.int g), v6, v7] (sa ++ [.lst (chs.map encC)]) = .ok (.int (many - 1)) (sa ++ [.lst (chs.map encC)]) := rfl
  obtain ⟨sb, t, b1, b2, b3, b4⟩ := draw_c (env := [some (.ref k), some (.int many), some (.ref n), cnt, some (.str x), some (.int g), v6, v7]) (m := (many : Int) - 1) rfl [.lst (chs.map encC)] a2 hsub (by omega) (by omega)
  obtain ⟨sc, kd, c1, c2, c3, c4⟩ := draw_c (env := [some (.ref k), some (.int many), some (.ref n), cnt, some (.str x), some (.int g), some (.int ((g + 1 + t) % many)), v7]) (fm := mC (.int 4)) (m := 4) rfl [.lst (chs.map encC)] b2 rfl (by omega) (by omega)
  have hlc : sc.length = n := by rw [c2.len, ← h.len, hn]
  have e1 : (g + 1 + t < many ∧ (g + 1 + t) % (many : Int) = g + 1 + t) ∨ (many ≤ g + 1 + t ∧ (g + 1 + t) % (many : Int) = g + 1 + t - many) := by
    by_cases hx : g + 1 + t < many
    · exact .inl ⟨hx, Int.emod_eq_of_lt (by omega) hx⟩
    · refine .inr ⟨by omega, ?_⟩
      rw [← Int.sub_emod_right, Int.emod_eq_of_lt (by omega) (by omega)]
  have kds : L2.atI [D.str "order", .str "loose", .str "order lossy", .str "loose lossy"] kd = some (.str (kindOf kd.toNat)) := by
    have : kd = 0 ∨ kd = 1 ∨ kd = 2 ∨ kd = 3 := by omega
    rcases this with rfl | rfl | rfl | rfl <;> rfl
  refine ⟨sc, ⟨x, g.toNat, ((g + 1 + t) % many).toNat, kd.toNat⟩, some (.int g), some (.int ((g + 1 + t) % many)), some (.str (kindOf kd.toNat)), ?_, c2, rfl, ?_, ?_, ?_⟩
  · unfold chBody
    rw [seq_nx (set_nx a1)]
    have m6 : (mBin oMod (m1 oInt (mBin (oAdd false) (mBin (oAdd false) (mVar 5) (mC (.int 1))) (mCallN 2 m__law_draw (mCons (mVar 0) (mCons (mBin oSub (mVar 1) (mC (.int 1))) mNil))))) (mVar 1)) [some (.ref k), some (.int many), some (.ref n), cnt, some (.str x), some (.int g), v6, v7] (sa ++ [.lst (chs.map encC)]) = .ok (.int ((g + 1 + t) % many)) (sb ++ [.lst (chs.map encC)]) := by
      have q1 : (mBin (oAdd false) (mBin (oAdd false) (mVar 5) (mC (.int 1))) (mCallN 2 m__law_draw (mCons (mVar 0) (mCons (mBin oSub (mVar 1) (mC (.int 1))) mNil)))) [some (.ref k), some (.int many), some (.ref n), cnt, some (.str x), some (.int g), v6, v7] (sa ++ [.lst (chs.map encC)]) = .ok (.int (g + 1 + t)) (sb ++ [.lst (chs.map encC)]) := bin_ok (a := .int (g + 1)) rfl b1 rfl
      have q2 : (m1 oInt (mBin (oAdd false) (mBin (oAdd false) (mVar 5) (mC (.int 1))) (mCallN 2 m__law_draw (mCons (mVar 0) (mCons (mBin oSub (mVar 1) (mC (.int 1))) mNil))))) [some (.ref k), some (.int many), some (.ref n), cnt, some (.str x), some (.int g), v6, v7] (sa ++ [.lst (chs.map encC)]) = .ok (.int (g + 1 + t)) (sb ++ [.lst (chs.map encC)]) := by
        unfold m1
        rw [q1]
        rfl
      refine bin_ok q2 (b := .int many) rfl ?_
      have : (0 : Int) < many := by omega
      unfold oMod pu
      simp only [if_pos this]
    refine (seq_nx (set_nx m6)).trans ?_
    have m7 : (mBin oIx (mLst false (mCons (mC (.str ("order" : Str))) (mCons (mC (.str ("loose" : Str))) (mCons (mC (.str ("order lossy" : Str))) (mCons (mC (.str ("loose lossy" : Str))) mNil))))) (mCallN 2 m__law_draw (mCons (mVar 0) (mCons (mC (.int 4)) mNil)))) [some (.ref k), some (.int many), some (.ref n), cnt, some (.str x), some (.int g), some (.int ((g + 1 + t) % many)), v7] (sb ++ [.lst (chs.map encC)]) = .ok (.str (kindOf kd.toNat)) (sc ++ [.lst (chs.map encC)]) := by
      refine bin_ok (a := .lst [.str "order", .str "loose", .str "order lossy", .str "loose lossy"]) (by simp [mLst, mCons, mNil, mC, Res.bind, mkL, LIM]) c1 ?_
      simp [oIx, seqR, seqW, kds]
    refine (seq_nx (set_nx m7)).trans ?_
    have hc1 : (sc ++ [Cell.lst (chs.map encC)])[n]? = some (.lst (chs.map encC)) := by
      rw [List.getElem?_append_right (by omega), hlc, Nat.sub_self]
      rfl
    have hc2 : ∀ c : Cell, (sc ++ [Cell.lst (chs.map encC)]).set n c = sc ++ [c] := fun c => by
      rw [List.set_append_right _ _ (by omega), hlc, Nat.sub_self]
      rfl
    have hl9 : chs.length < LIM := by show _ < 16777216; omega
    have g1 : ((g.toNat : Nat) : Int) = g := Int.toNat_of_nonneg a3
    have g2 : ((((g + 1 + t) % (many : Int)).toNat : Nat) : Int) = (g + 1 + t) % many := Int.toNat_of_nonneg (by omega)
    have kk : kinds[kd.toNat]?.getD "order" = kindOf kd.toNat := rfl
    have m8 : (mMeth "list" oAppend (mVar 2) (mCons (mTup (mCons (mVar 4) (mCons (mVar 5) (mCons (mVar 6) (mCons (mVar 7) mNil))))) mNil)) [some (.ref k), some (.int many), some (.ref n), cnt, some (.str x), some (.int g), some (.int ((g + 1 + t) % many)), some (.str (kindOf kd.toNat))] (sc ++ [.lst (chs.map encC)]) = .ok .non (sc ++ [.lst ((chs ++ [Chan.mk x g.toNat ((g + 1 + t) % many).toNat kd.toNat]).map encC)]) := by
      rw [meth1 (d := .ref n) (x := .tup [.str x, .int g, .int ((g + 1 + t) % many), .str (kindOf kd.toNat)]) (st2 := sc ++ [.lst (chs.map encC)]) rfl (by simp [tyM, hc1]) (by simp [mTup, mCons, mNil, mVar, Res.bind, LIM])]
      have ee : encC (Chan.mk x g.toNat ((g + 1 + t) % many).toNat kd.toNat) = .tup [.str x, .int g, .int ((g + 1 + t) % many), .str (kindOf kd.toNat)] := by
        unfold encC
        rw [g1, g2]
        rfl
      simp only [oAppend, onCell, hc1, List.length_map, hl9, if_true, hc2, lift, List.map_append, List.map_cons, List.map_nil, ee]
    show Res.toS _ _ _ = _
    refine (congrArg (fun z => Res.toS z _ _) m8).trans ?_
    rfl
  · show g.toNat < many
    omega
  · show ((g + 1 + t) % many).toNat < many
    omega
  · show g.toNat ≠ ((g + 1 + t) % many).toNat
    omega
end K

namespace K
open PySem Cw
/-- the loop over the names -/
theorem ch_loop {cs : List Int} {k many n : Nat} {s0 : Sto} {cnt : Option D} (hm : 2 ≤ many) (hm2 : many ≤ 5) : ∀ (xs : List Str) (chs : List Chan) (s1 : Sto) (v4 v5 v6 v7 : Option D), Bx cs k s0 s1 → s1.length = n → chs.length + xs.length < 100 →
    (∀ c ∈ chs, c.giver < many ∧ c.taker < many ∧ c.giver ≠ c.taker) →
    ∃ (s2 : Sto) (chs' : List Chan) (v4' v5' v6' v7' : Option D), forL [] (gN 4) chBody (xs.map D.str) [some (.ref k), some (.int many), some (.ref n), cnt, v4, v5, v6, v7] (s1 ++ [.lst (chs.map encC)]) = .nx [some (.ref k), some (.int many), some (.ref n), cnt, v4', v5', v6', v7'] (s2 ++ [.lst (chs'.map encC)]) ∧ Bx cs k s0 s2 ∧
      chs'.map (·.nm) = chs.map (·.nm) ++ xs ∧ ∀ c ∈ chs', c.giver < many ∧ c.taker < many ∧ c.giver ≠ c.taker
  | [], chs, s1, v4, v5, v6, v7, h, _, _, hc => ⟨s1, chs, v4, v5, v6, v7, by unfold forL; simp [lock0], h, by simp, hc⟩
  | x :: xs, chs, s1, v4, v5, v6, v7, h, hn, hl, hc => by
    rw [List.length_cons] at hl
    obtain ⟨sa, c, w5, w6, w7, e1, e2, e3, e4, e5, e6⟩ := ch_step (x := x) (cnt := cnt) (v5 := v5) (v6 := v6) (v7 := v7) (chs := chs) h hn hm hm2 (by omega)
    obtain ⟨s2, chs', w4, u5, u6, u7, f1, f2, f3, f4⟩ := ch_loop (cnt := cnt) hm hm2 xs (chs ++ [c]) sa (some (.str x)) w5 w6 w7 e2 (by rw [e2.len, ← h.len, hn]) (by simp; omega) (fun y hy => by
      rcases List.mem_append.mp hy with hy | hy
      · exact hc y hy
      · rw [List.mem_singleton.mp hy]
        exact ⟨e4, e5, e6⟩)
    refine ⟨s2, chs', w4, u5, u6, u7, ?_, f2, by rw [f3]; simp [e3], f4⟩
    rw [List.map_cons]
    unfold forL
    have hg : gN 4 (D.str x) [some (.ref k), some (.int many), some (.ref n), cnt, v4, v5, v6, v7] (s1 ++ [.lst (chs.map encC)]) = some ([some (.ref k), some (.int many), some (.ref n), cnt, some (.str x), v5, v6, v7], s1 ++ [.lst (chs.map encC)]) := rfl
    simp only [lock0, if_true, hg, e1]
    exact f1
end K

namespace K
open PySem Cw
theorem Bx.ext {cs : List Int} {k : Nat} {s0 s : Sto} (h : Bx cs k s0 s) (ext : Sto) : Bx cs k (s0 ++ ext) (s ++ ext) := by
  obtain ⟨hk, a, b, c, d, e, rfl, hb, hc⟩ := h
  exact ⟨by rw [List.length_append]; omega, a, b, c, d, e, by rw [List.set_append_left _ _ hk], hb, hc⟩
theorem Bx.unext {cs : List Int} {k : Nat} {s0 t ext : Sto} (hk : k < s0.length) (h : Bx cs k (s0 ++ ext) t) : ∃ s, t = s ++ ext ∧ Bx cs k s0 s := by
  obtain ⟨_, a, b, c, d, e, rfl, hb, hc⟩ := h
  exact ⟨_, by rw [List.set_append_left _ _ hk], hk, a, b, c, d, e, rfl, hb, hc⟩
theorem call3 {cf : List D → Sto → Res D} {fa fb fc : EM D} {env : En} {st st1 st2 st3 : Sto} {a b c : D} (h1 : fa env st = .ok a st1) (h2 : fb env st1 = .ok b st2) (h3 : fc env st2 = .ok c st3) : mCallN 3 cf (mCons fa (mCons fb (mCons fc mNil))) env st = cf [a, b, c] st3 := by
  simp [mCallN, mCons, mNil, h1, h2, h3, Res.bind]
theorem l_channels {cs : List Int} {k many : Nat} {s0 s : Sto} (h : Bx cs k s0 s) (h1 : 1 ≤ many) (h5 : many ≤ 5) : ∃ (s' : Sto) (chs : List Chan), m__law_channels [.ref k, .int many] s = .ok (.lst (chs.map encC)) s' ∧ Bx cs k s0 s' ∧ chs.length ≤ 8 ∧ (chs.map (·.nm)).Nodup ∧ (∀ c ∈ chs, c.nm ∈ pool9) ∧ ∀ c ∈ chs, c.giver < many ∧ c.taker < many ∧ c.giver ≠ c.taker := by
  have fin : ∀ (s' : Sto) (chs : List Chan) (st : Sto), Bx cs k s0 s' → bodyR (mb__law_channels [some (.ref k), some (.int many), none, none, none, none, none, none] s) = .ok (.ref s.length) (s' ++ [.lst (chs.map encC)]) → m__law_channels [.ref k, .int many] s = .ok (.lst (chs.map encC)) s' := fun s' chs st hb e => by
    have hpl : plL (chs.map encC) = true := by
      rw [plL_iff]
      intro d hd
      obtain ⟨z, _, rfl⟩ := List.mem_map.mp hd
      rfl
    have hl : s'.length = s.length := by rw [hb.len, h.len]
    have hc : (s' ++ [Cell.lst (chs.map encC)])[s.length]? = some (.lst (chs.map encC)) := by
      rw [List.getElem?_append_right (by omega), hl, Nat.sub_self]
      rfl
    have hfz : frz (s' ++ [Cell.lst (chs.map encC)]) s.length 5 (.ref s.length) = some (.lst (chs.map encC)) := by
      unfold frz frzG
      simp only [Nat.lt_irrefl, if_false, hc]
      rw [frzL_pl _ _ hpl]
    unfold m__law_channels
    rw [run_cells e hfz (h.pop2 hb)]
    congr 1
    rw [← hl]
    exact take_app _ _
  by_cases hm : 2 ≤ many
  · obtain ⟨sa, z, p1, p2, p3⟩ := pick2 (env := [some (.ref k), some (.int many), some (.ref s.length), none, none, none, none, none]) rfl 5 9 5 [.lst []] h (by omega) (by omega)
    obtain ⟨sb, r, d1, d2, d3, d4⟩ := p2.draw (many := z) [.lst []] (by omega) (by omega)
    obtain ⟨n, rfl⟩ : ∃ n : Nat, r = n := ⟨r.toNat, (Int.toNat_of_nonneg d3).symm⟩
    have hk := h.1
    obtain ⟨t, ss, n1, n2, n3, left, n4⟩ := l_names (pool9) n (d2.ext [.lst []]) (by simp [pool9]; omega) (by simp [pool9])
    obtain ⟨sc, rfl, n5⟩ := n2.unext hk
    have hlc : sc.length = s.length := by rw [n5.len, h.len]
    obtain ⟨s2, chs, w4, w5, w6, w7, f1, f2, f3, f4⟩ := ch_loop (cnt := some (.int n)) hm h5 ss [] sc none none none none n5 hlc (by simp; omega) (by simp)
    have f3' : chs.map (·.nm) = ss := by simpa using f3
    have hnd : (left ++ ss).Nodup := n4.nodup_iff.mpr (by decide)
    refine ⟨s2, chs, fin s2 chs s f2 ?_, f2, ?_, by rw [f3']; exact (List.nodup_append.mp hnd).2.1, fun c hc => ?_, f4⟩
    · have g3 : (mCallN 2 m__law_draw (mCons (mVar 0) (mCons (mBin oIx (mLst false (mCons (mC (.int 5)) (mCons (mC (.int 9)) mNil))) (m1 oInt (mBin (oEq false) (mCallN 2 m__law_draw (mCons (mVar 0) (mCons (mC (.int 5)) mNil))) (mC (.int 0))))) mNil))) [some (.ref k), some (.int many), some (.ref s.length), none, none, none, none, none] (s ++ [.lst []]) = .ok (.int n) (sb ++ [.lst []]) := by
        rw [call2 (var_ok rfl) p1]
        exact d1
      have g4 : (mCallN 3 m__law_names (mCons (mVar 0) (mCons (mLst false (mCons (mC (.str ("c" : Str))) (mCons (mC (.str ("d" : Str))) (mCons (mC (.str ("p" : Str))) (mCons (mC (.str ("cc" : Str))) (mCons (mC (.str ("abcdef" : Str))) (mCons (mC (.str ("x" : Str))) (mCons (mC (.str ("to" : Str))) (mCons (mC (.str ("q" : Str))) (mCons (mC (.str ("wire" : Str))) mNil)))))))))) (mCons (mVar 3) mNil)))) [some (.ref k), some (.int many), some (.ref s.length), some (.int n), none, none, none, none] (sb ++ [.lst []]) = .ok (.lst (ss.map D.str)) (sc ++ [.lst []]) := by
        rw [call3 (b := .lst (pool9.map D.str)) (st2 := sb ++ [.lst []]) (var_ok rfl) (by simp [mLst, mCons, mNil, mC, Res.bind, mkL, LIM, pool9]) (var_ok rfl)]
        exact n1
      have g5 : (sSeq (sSet 2 (mLst true mNil)) (sSeq (sIf (mT (mBin oGt (mVar 1) (mC (.int 1)))) (sSeq (sSet 3 (mCallN 2 m__law_draw (mCons (mVar 0) (mCons (mBin oIx (mLst false (mCons (mC (.int 5)) (mCons (mC (.int 9)) mNil))) (m1 oInt (mBin (oEq false) (mCallN 2 m__law_draw (mCons (mVar 0) (mCons (mC (.int 5)) mNil))) (mC (.int 0))))) mNil)))) (sFor (iSeq (mCallN 3 m__law_names (mCons (mVar 0) (mCons (mLst false (mCons (mC (.str ("c" : Str))) (mCons (mC (.str ("d" : Str))) (mCons (mC (.str ("p" : Str))) (mCons (mC (.str ("cc" : Str))) (mCons (mC (.str ("abcdef" : Str))) (mCons (mC (.str ("x" : Str))) (mCons (mC (.str ("to" : Str))) (mCons (mC (.str ("q" : Str))) (mCons (mC (.str ("wire" : Str))) mNil)))))))))) (mCons (mVar 3) mNil))))) (gN 4) chBody)) sNil) (sRet (mVar 2)))) = mb__law_channels := rfl
      rw [← g5]
      have a1 : (mLst true mNil) [some (.ref k), some (.int many), none, none, none, none, none, none] s = .ok (.ref s.length) (s ++ [.lst []]) := by simp [mLst, mNil, mkL, LIM, Res.bind]
      rw [seq_nx (set_nx a1)]
      have a2 : (mT (mBin oGt (mVar 1) (mC (.int 1)))) [some (.ref k), some (.int many), some (.ref s.length), none, none, none, none, none] (s ++ [.lst []]) = .ok true (s ++ [.lst []]) := by
        have : (1 : Int) < many := by omega
        unfold mT
        rw [bin_ok (a := .int many) (b := .int 1) (d := .bl true) (st1 := s ++ [.lst []]) (st2 := s ++ [.lst []]) (st3 := s ++ [.lst []]) rfl rfl (by unfold oGt oCmp pu; simp only [decide_eq_true this])]
        rfl
      have a3 : (sFor (iSeq (mCallN 3 m__law_names (mCons (mVar 0) (mCons (mLst false (mCons (mC (.str ("c" : Str))) (mCons (mC (.str ("d" : Str))) (mCons (mC (.str ("p" : Str))) (mCons (mC (.str ("cc" : Str))) (mCons (mC (.str ("abcdef" : Str))) (mCons (mC (.str ("x" : Str))) (mCons (mC (.str ("to" : Str))) (mCons (mC (.str ("q" : Str))) (mCons (mC (.str ("wire" : Str))) mNil)))))))))) (mCons (mVar 3) mNil))))) (gN 4) chBody) [some (.ref k), some (.int many), some (.ref s.length), some (.int n), none, none, none, none] (sb ++ [.lst []]) = .nx [some (.ref k), some (.int many), some (.ref s.length), some (.int n), w4, w5, w6, w7] (s2 ++ [.lst (chs.map encC)]) := by
        unfold sFor iSeq
        rw [g4]
        exact f1
      refine (congrArg bodyR (seq_nx (env' := [some (.ref k), some (.int many), some (.ref s.length), some (.int n), w4, w5, w6, w7]) (st' := s2 ++ [.lst (chs.map encC)]) ?_)).trans ?_
      · show (sIf _ _ _) [some (.ref k), some (.int many), some (.ref s.length), none, none, none, none, none] (s ++ [.lst []]) = _
        unfold sIf
        rw [a2]
        show (sSeq _ _) _ _ = _
        rw [seq_nx (set_nx g3)]
        exact a3
      · rfl
    · have e := congrArg List.length f3'
      rw [List.length_map] at e
      omega
    · have hmm : c.nm ∈ ss := by rw [← f3']; exact List.mem_map_of_mem hc
      exact n4.mem_iff.mp (List.mem_append_right _ hmm)
  · have e1 : many = 1 := by omega
    subst e1
    refine ⟨s, [], fin s [] s h ?_, h, by simp, by simp, by simp, by simp⟩
    simp [mb__law_channels, bodyR, sRet, sRetN, sSeq, sIf, sNil, sExpr, sSet, sRaise, mAnd, mOr, mNot, mIf, mAndT, mOrT, mNotT, mT, mIsN, mChain, m1, mVar, mC, mBin, mUn, mCallN, mCons, mNil, mTup, mSlice, mPart, mNoP, oIsi, oIsi2, tyOf, oLen, oInt, oLe, oLt, oGt, oGe, oCmp, oIx, oSub, oFdiv, oMod, oEq, eqD, oSl, pu, Res.bind, Res.toS, lift, subT, mYes, mLst, mkL, LIM]
end K

namespace K
open PySem Cw
theorem in_pair (st : Sto) (p g t : Int) : inD st (.int p) (.tup [.int g, .int t]) = some (decide (g = p ∨ t = p)) := by
  have e1 : pyOf st (.int p) = some (.int p) := by show toPy _ = _; simp [toPy]
  have e2 : pyOf st (.tup [.int g, .int t]) = some (.tuple [.int g, .int t]) := by show toPy _ = _; simp [toPy, toPyL]
  unfold inD
  simp [e1, e2, itemsPy, SeqAt.shaped, PyData.canLay0, PyData.canLayAll0, PyData.depth, PyData.depthAll, PyData.eqv]
  rw [Bool.eq_iff_iff]
  simp
theorem cut13 (a b c d : D) : cutD [a, b, c, d] (some 1) (some 3) = [b, c] := rfl

/-- the channels of process p, by number -/
def mine (chs : List Chan) (p : Nat) : List Nat := (List.range chs.length).filter fun c => match chs[c]? with
  | some ch => decide (ch.giver = p ∨ ch.taker = p)
  | none => false
theorem comp_mine {env : En} {st : Sto} (chs : List Chan) (p : Nat) (hl : chs.length < 100) (h2 : env[2]? = some (some (.lst (chs.map encC)))) (h4 : env[4]? = some (some (.int p))) (hlen : 8 < env.length) :
    mComp false (iRg1 (m1 oLen (mVar 2))) [8] (.nm 8) (mT (mBin (oIn false) (mVar 4) (mSlice false (mBin oIx (mVar 2) (mVar 8)) (mPart (mC (.int 1))) (mPart (mC (.int 3)))))) (mVar 8) env st = .ok (.lst ((mine chs p).map fun c => D.int (c : Nat))) st := by
  have hi : iRg1 (m1 oLen (mVar 2)) env st = .ok (rngD 0 chs.length) st := by
    refine rg1_ok ?_ (al_small (by omega))
    simp [m1, oLen, mVar, h2, Res.bind, lift, seqR, seqW]
  let b : D → Bool := fun d => match d with
    | .int i => (match chs[i.toNat]? with
      | some ch => decide (ch.giver = p ∨ ch.taker = p)
      | none => false)
    | _ => false
  have e : ((rngD 0 chs.length).items.filter b).map id = (mine chs p).map fun c => D.int (c : Nat) := by
    rw [List.map_id]
    unfold mine rngD
    rw [List.filter_map]
    have : (b ∘ fun k : Nat => D.int ((0 : Int) + (k : Nat))) = fun c => match chs[c]? with
      | some ch => decide (ch.giver = p ∨ ch.taker = p)
      | none => false := funext fun c => by simp [b]
    rw [this]
    exact List.map_congr_left fun c _ => by rw [Int.zero_add]
  rw [← e]
  refine mcomp_pure (lock := []) (items := (rngD 0 chs.length).items) b id hi (fun _ => rfl) ?_ (fun x hx => ?_) ?_
  · simp [rngD]
    show _ < 16777216
    omega
  · unfold rngD at hx
    obtain ⟨j, hj, rfl⟩ := List.mem_map.mp hx
    have hj := List.mem_range.mp hj
    refine ⟨_, rfl, fun a => ?_⟩
    have hq : chs[j]? = some chs[j] := by simp [hj]
    have hat : L2.atI (chs.map encC) ((0 : Int) + (j : Nat)) = some (encC chs[j]) := by
      rw [Int.zero_add, at_nat, List.getElem?_map, hq]
      rfl
    have hin := in_pair (st ++ [.lst a]) p chs[j].giver chs[j].taker
    have hb : b (.int ((0 : Int) + (j : Nat))) = decide ((chs[j].giver : Int) = p ∨ (chs[j].taker : Int) = p) := by
      simp [b, hq]
      rw [Bool.eq_iff_iff]
      simp
      omega
    refine ⟨?_, fun _ => by simp [mVar, wipeE, hlen]⟩
    rw [hb]
    have x2 : (wipeE env [8]).set 8 (some (.int ((0 : Int) + (j : Nat))))  = env.set 8 (some (.int ((0 : Int) + (j : Nat)))) := by simp [wipeE, List.set_set]
    have v2 : (env.set 8 (some (.int ((0 : Int) + (j : Nat)))))[2]? = some (some (.lst (chs.map encC))) := by rw [List.getElem?_set_ne (by decide)]; exact h2
    have v4 : (env.set 8 (some (.int ((0 : Int) + (j : Nat)))))[4]? = some (some (.int p)) := by rw [List.getElem?_set_ne (by decide)]; exact h4
    have v8 : (env.set 8 (some (.int ((0 : Int) + (j : Nat)))))[8]? = some (some (.int ((0 : Int) + (j : Nat)))) := List.getElem?_set_self hlen
    rw [x2]
    have m1' : (mBin oIx (mVar 2) (mVar 8)) (env.set 8 (some (.int ((0 : Int) + (j : Nat))))) (st ++ [.lst a]) = .ok (encC chs[j]) (st ++ [.lst a]) := bin_ok (var_ok v2) (var_ok v8) (by simp only [oIx, seqR, seqW, hat])
    have m2' : (mSlice false (mBin oIx (mVar 2) (mVar 8)) (mPart (mC (.int 1))) (mPart (mC (.int 3)))) (env.set 8 (some (.int ((0 : Int) + (j : Nat))))) (st ++ [.lst a]) = .ok (.tup [.int chs[j].giver, .int chs[j].taker]) (st ++ [.lst a]) := by
      unfold mSlice
      rw [m1']
      rfl
    unfold mT
    rw [bin_ok (var_ok v4) m2' (d := .bl (decide ((chs[j].giver : Int) = p ∨ (chs[j].taker : Int) = p))) (st3 := st ++ [.lst a]) (by simp only [oIn, hin]; rfl)]
    rfl
  · rw [e, plL_iff]
    intro y hy
    obtain ⟨z, _, rfl⟩ := List.mem_map.mp hy
    rfl
end K

namespace K
open PySem Cw
section
variable {cs : List Int} {k q : Nat} {S s ext : Sto} {Q : D → Sto → Prop}
theorem Bx.get (h : Bx cs k S s) (hq : q ≠ k) : s[q]? = S[q]? := by
  obtain ⟨_, a, b, c, d, e, rfl, _⟩ := h
  exact List.getElem?_set_ne (Ne.symm hq)
theorem Bx.refl {a b c d e : Int} (h : S[k]? = some (.lst (boxL a b c d e cs))) (hb : 0 ≤ b) (hc : 0 ≤ c) : Bx cs k S S :=
  ⟨(List.getElem?_eq_some_iff.mp h).1, a, b, c, d, e, (set_self h).symm, hb, hc⟩
theorem Bx.put {c : Cell} (h : Bx cs k S s) (hq : q ≠ k) : Bx cs k (S.set q c) (s.set q c) := by
  obtain ⟨hk, a, b, c, d, e, rfl, hb, hc⟩ := h
  refine ⟨by simpa using hk, a, b, c, d, e, ?_, hb, hc⟩
  exact List.set_comm _ _ (Ne.symm hq)
theorem w_draw {m : Int} (h : Bx cs k S s) (hm : 0 < m) (hm2 : m < 1073741824) (q : ∀ (s' : Sto) (r : Nat), Bx cs k S s' → (r : Int) < m → Q (.int r) s') : wp (m__law_draw [.ref k, .int m] s) Q := by
  obtain ⟨s', r, h1, h2, h3, h4⟩ := h.draw [] hm hm2
  rw [List.append_nil, List.append_nil] at h1
  have e : ((r.toNat : Nat) : Int) = r := Int.toNat_of_nonneg h3
  rw [← e] at h1
  exact w_eq h1 (q s' r.toNat h2 (by omega))
theorem fin_bx {s0 : Sto} {d : D} (h0 : Bx cs k S s0) (h : Bx cs k (S ++ ext) s) (p : pl d = true) (q : ∀ s1, Bx cs k S s1 → Q d s1) : fin s0 Q d s := by
  obtain ⟨s1, rfl, h1⟩ := h.unext h0.1
  refine fin_pl p (h0.pop2 h1) ?_
  rw [h0.len, ← h1.len, take_app]
  exact q s1 h1
theorem fin_bx0 {s0 : Sto} {d : D} (h0 : Bx cs k S s0) (h : Bx cs k S s) (p : pl d = true) (q : ∀ s1, Bx cs k S s1 → Q d s1) : fin s0 Q d s :=
  fin_bx (ext := []) h0 (by rw [List.append_nil]; exact h) p q
/-- a list made here, handed out -/
theorem fin_bxL {s0 : Sto} {n : Nat} {l : List D} (h0 : Bx cs k S s0) (h : Bx cs k (S ++ ext) s) (hn : S.length ≤ n) (hl : (S ++ ext)[n]? = some (.lst l)) (p : plL l = true) (q : ∀ s1, Bx cs k S s1 → Q (.lst l) s1) : fin s0 Q (.ref n) s := by
  have hk := h0.1
  have hg : s[n]? = some (.lst l) := by rw [h.get (by omega)]; exact hl
  obtain ⟨s1, rfl, h1⟩ := h.unext hk
  refine ⟨.lst l, ?_, h0.pop2 h1, ?_⟩
  · have e : ¬ n < s0.length := by rw [h0.len]; omega
    unfold frz frzG
    simp only [e, if_false, hg]
    rw [frzL_pl _ _ p]
  · rw [h0.len, ← h1.len, take_app]
    exact q s1 h1
end
theorem o_cut {env : En} {st : Sto} {f g : SM} {N : En → Sto → Prop} {R : D → Sto → Prop} {C B : En → Sto → Prop} (P : En → Sto → Prop) (h : wo (f env st) P R C B) (h2 : ∀ e s, P e s → wo (g e s) N R C B) : wo (sSeq f g env st) N R C B :=
  o_seq (o_mono h h2 (fun _ _ h => h) (fun _ _ h => h) (fun _ _ h => h))
/-- [x, y][int(draw(box, m) == 0)] -/
theorem w_pick2 {cs : List Int} {k : Nat} {S s : Sto} {env : En} {Q : D → Sto → Prop} (x y m : Int) (h0 : env[0]? = some (some (.ref k))) (h : Bx cs k S s) (hm : 0 < m) (hm2 : m < 1073741824) (q : ∀ s', Bx cs k S s' → Q (.int x) s' ∧ Q (.int y) s') : wp ((mBin oIx (mLst false (mCons (mC (.int x)) (mCons (mC (.int y)) mNil))) (m1 oInt (mBin (oEq false) (mCallN 2 m__law_draw (mCons (mVar 0) (mCons (mC (.int m)) mNil))) (mC (.int 0))))) env s) Q := by
  obtain ⟨s', z, h1, h2, h3⟩ := pick2 h0 x y m [] h hm hm2
  rw [List.append_nil, List.append_nil] at h1
  refine w_eq h1 ?_
  rcases h3 with rfl | rfl
  · exact (q s' h2).1
  · exact (q s' h2).2
theorem mine_mem {chs : List Chan} {p c : Nat} (h : c ∈ mine chs p) : ∃ ch, chs[c]? = some ch ∧ (ch.giver = p ∨ ch.taker = p) := by
  unfold mine at h
  have h := (List.mem_filter.mp h).2
  cases q : chs[c]? with
  | none => rw [q] at h; cases h
  | some ch =>
    rw [q] at h
    exact ⟨ch, rfl, by simpa using h⟩
theorem pl_R (r : Rule) : pl (encR r) = true := by
  obtain ⟨p, s, a, s2⟩ := r
  cases a <;> rfl
theorem w_rule {cs : List Int} {k q tok : Nat} {S s : Sto} {ps : List (Str × Nat)} {chs : List Chan} {Q : D → Sto → Prop} (hB : Bx cs k S s) (hq : q ≠ k) (hS : S[q]? = some (.lst (ps.map encP))) (hp1 : 1 ≤ ps.length) (hp5 : ps.length ≤ 5) (hp : ∀ p ∈ ps, 1 ≤ p.2 ∧ p.2 ≤ 8)
    (hc : chs.length ≤ 8) (ht1 : 1 ≤ tok) (ht : tok ≤ 10) (hQ : ∀ s' r, Bx cs k S s' → ruleOk ps chs r → Q (encR r) s') : wp (m__law_rule [.ref k, .ref q, .lst (chs.map encC), .int tok] s) Q := by
  unfold m__law_rule
  refine w_run ?_
  show wo (mb__law_rule [some (.ref k), some (.ref q), some (.lst (chs.map encC)), some (.int tok), none, none, none, none, none] s) _ _ _ _
  unfold mb__law_rule
  refine o_seq (o_set ?_)
  repeat (first | (with_reducible apply w_bin) | (with_reducible apply w_m1) | (with_reducible apply w_un) | (with_reducible apply w_cons) | (with_reducible apply w_nil) | (with_reducible apply w_callN) | ((with_reducible apply w_var); exact rfl) | (with_reducible apply w_c) | (with_reducible apply w_T) | (with_reducible apply w_NotT) | (with_reducible apply w_AndT) | (with_reducible apply w_OrT) | (with_reducible apply w_And) | (with_reducible apply w_Or) | (with_reducible apply w_Not) | (with_reducible apply w_If) | (with_reducible apply w_tup) | (with_reducible apply w_lstF) | (with_reducible apply w_noP) | (with_reducible apply w_part) | (with_reducible apply w_slice) | (with_reducible apply w_isN) | (with_reducible apply w_add) | (with_reducible apply w_sub) | (with_reducible apply w_gt) | (with_reducible apply w_lt) | (with_reducible apply w_ge) | (with_reducible apply w_le) | (with_reducible apply w_eqI) | (with_reducible apply w_neI) | (with_reducible apply w_eqS) | (with_reducible apply w_neS) | ((with_reducible apply x_ixT); exact rfl; exact rfl) | ((with_reducible apply x_ixL); exact rfl; exact rfl) | ((with_reducible apply x_lenT); exact rfl) | ((with_reducible apply x_lenL); exact rfl) | (with_reducible apply w_intI) | (with_reducible apply w_intB) | (with_reducible apply w_tupT) | (with_reducible apply w_tupL) | (with_reducible apply w_slT) | (with_reducible apply w_slL) | (with_reducible apply w_iSeq) | (with_reducible apply w_iRg1) | (with_reducible apply ex_bl) | (with_reducible apply ex_int) | (with_reducible apply ex_neg) | (with_reducible refine And.intro (Nat.le_of_ble_eq_true rfl) ?_) | (with_reducible refine And.intro (rfl : List.length _ = _) ?_))
  refine w_lenR ((hB.get hq).trans hS) ?_
  repeat (first | (with_reducible apply w_bin) | (with_reducible apply w_m1) | (with_reducible apply w_un) | (with_reducible apply w_cons) | (with_reducible apply w_nil) | (with_reducible apply w_callN) | ((with_reducible apply w_var); exact rfl) | (with_reducible apply w_c) | (with_reducible apply w_T) | (with_reducible apply w_NotT) | (with_reducible apply w_AndT) | (with_reducible apply w_OrT) | (with_reducible apply w_And) | (with_reducible apply w_Or) | (with_reducible apply w_Not) | (with_reducible apply w_If) | (with_reducible apply w_tup) | (with_reducible apply w_lstF) | (with_reducible apply w_noP) | (with_reducible apply w_part) | (with_reducible apply w_slice) | (with_reducible apply w_isN) | (with_reducible apply w_add) | (with_reducible apply w_sub) | (with_reducible apply w_gt) | (with_reducible apply w_lt) | (with_reducible apply w_ge) | (with_reducible apply w_le) | (with_reducible apply w_eqI) | (with_reducible apply w_neI) | (with_reducible apply w_eqS) | (with_reducible apply w_neS) | ((with_reducible apply x_ixT); exact rfl; exact rfl) | ((with_reducible apply x_ixL); exact rfl; exact rfl) | ((with_reducible apply x_lenT); exact rfl) | ((with_reducible apply x_lenL); exact rfl) | (with_reducible apply w_intI) | (with_reducible apply w_intB) | (with_reducible apply w_tupT) | (with_reducible apply w_tupL) | (with_reducible apply w_slT) | (with_reducible apply w_slL) | (with_reducible apply w_iSeq) | (with_reducible apply w_iRg1) | (with_reducible apply ex_bl) | (with_reducible apply ex_int) | (with_reducible apply ex_neg) | (with_reducible refine And.intro (Nat.le_of_ble_eq_true rfl) ?_) | (with_reducible refine And.intro (rfl : List.length _ = _) ?_))
  refine w_draw hB (by simp; omega) (by simp; omega) fun s1 p hB1 p1 => ?_
  rw [List.length_map] at p1
  obtain ⟨pp, hpp⟩ : ∃ pp, ps[p]? = some pp := ⟨ps[p]'(by omega), by simp⟩
  obtain ⟨pp1, pp8⟩ := hp pp (List.mem_of_getElem? hpp)
  refine o_seq (o_set ?_)
  repeat (first | (with_reducible apply w_bin) | (with_reducible apply w_m1) | (with_reducible apply w_un) | (with_reducible apply w_cons) | (with_reducible apply w_nil) | (with_reducible apply w_callN) | ((with_reducible apply w_var); exact rfl) | (with_reducible apply w_c) | (with_reducible apply w_T) | (with_reducible apply w_NotT) | (with_reducible apply w_AndT) | (with_reducible apply w_OrT) | (with_reducible apply w_And) | (with_reducible apply w_Or) | (with_reducible apply w_Not) | (with_reducible apply w_If) | (with_reducible apply w_tup) | (with_reducible apply w_lstF) | (with_reducible apply w_noP) | (with_reducible apply w_part) | (with_reducible apply w_slice) | (with_reducible apply w_isN) | (with_reducible apply w_add) | (with_reducible apply w_sub) | (with_reducible apply w_gt) | (with_reducible apply w_lt) | (with_reducible apply w_ge) | (with_reducible apply w_le) | (with_reducible apply w_eqI) | (with_reducible apply w_neI) | (with_reducible apply w_eqS) | (with_reducible apply w_neS) | ((with_reducible apply x_ixT); exact rfl; exact rfl) | ((with_reducible apply x_ixL); exact rfl; exact rfl) | ((with_reducible apply x_lenT); exact rfl) | ((with_reducible apply x_lenL); exact rfl) | (with_reducible apply w_intI) | (with_reducible apply w_intB) | (with_reducible apply w_tupT) | (with_reducible apply w_tupL) | (with_reducible apply w_slT) | (with_reducible apply w_slL) | (with_reducible apply w_iSeq) | (with_reducible apply w_iRg1) | (with_reducible apply ex_bl) | (with_reducible apply ex_int) | (with_reducible apply ex_neg) | (with_reducible refine And.intro (Nat.le_of_ble_eq_true rfl) ?_) | (with_reducible refine And.intro (rfl : List.length _ = _) ?_))
  refine w_ixR ((hB1.get hq).trans hS) (d := encP pp) (by rw [at_nat, List.getElem?_map, hpp]; rfl) ?_
  repeat (first | (with_reducible apply w_bin) | (with_reducible apply w_m1) | (with_reducible apply w_un) | (with_reducible apply w_cons) | (with_reducible apply w_nil) | (with_reducible apply w_callN) | ((with_reducible apply w_var); exact rfl) | (with_reducible apply w_c) | (with_reducible apply w_T) | (with_reducible apply w_NotT) | (with_reducible apply w_AndT) | (with_reducible apply w_OrT) | (with_reducible apply w_And) | (with_reducible apply w_Or) | (with_reducible apply w_Not) | (with_reducible apply w_If) | (with_reducible apply w_tup) | (with_reducible apply w_lstF) | (with_reducible apply w_noP) | (with_reducible apply w_part) | (with_reducible apply w_slice) | (with_reducible apply w_isN) | (with_reducible apply w_add) | (with_reducible apply w_sub) | (with_reducible apply w_gt) | (with_reducible apply w_lt) | (with_reducible apply w_ge) | (with_reducible apply w_le) | (with_reducible apply w_eqI) | (with_reducible apply w_neI) | (with_reducible apply w_eqS) | (with_reducible apply w_neS) | ((with_reducible apply x_ixT); exact rfl; exact rfl) | ((with_reducible apply x_ixL); exact rfl; exact rfl) | ((with_reducible apply x_lenT); exact rfl) | ((with_reducible apply x_lenL); exact rfl) | (with_reducible apply w_intI) | (with_reducible apply w_intB) | (with_reducible apply w_tupT) | (with_reducible apply w_tupL) | (with_reducible apply w_slT) | (with_reducible apply w_slL) | (with_reducible apply w_iSeq) | (with_reducible apply w_iRg1) | (with_reducible apply ex_bl) | (with_reducible apply ex_int) | (with_reducible apply ex_neg) | (with_reducible refine And.intro (Nat.le_of_ble_eq_true rfl) ?_) | (with_reducible refine And.intro (rfl : List.length _ = _) ?_))
  refine o_seq (o_set ?_)
  repeat (first | (with_reducible apply w_bin) | (with_reducible apply w_m1) | (with_reducible apply w_un) | (with_reducible apply w_cons) | (with_reducible apply w_nil) | (with_reducible apply w_callN) | ((with_reducible apply w_var); exact rfl) | (with_reducible apply w_c) | (with_reducible apply w_T) | (with_reducible apply w_NotT) | (with_reducible apply w_AndT) | (with_reducible apply w_OrT) | (with_reducible apply w_And) | (with_reducible apply w_Or) | (with_reducible apply w_Not) | (with_reducible apply w_If) | (with_reducible apply w_tup) | (with_reducible apply w_lstF) | (with_reducible apply w_noP) | (with_reducible apply w_part) | (with_reducible apply w_slice) | (with_reducible apply w_isN) | (with_reducible apply w_add) | (with_reducible apply w_sub) | (with_reducible apply w_gt) | (with_reducible apply w_lt) | (with_reducible apply w_ge) | (with_reducible apply w_le) | (with_reducible apply w_eqI) | (with_reducible apply w_neI) | (with_reducible apply w_eqS) | (with_reducible apply w_neS) | ((with_reducible apply x_ixT); exact rfl; exact rfl) | ((with_reducible apply x_ixL); exact rfl; exact rfl) | ((with_reducible apply x_lenT); exact rfl) | ((with_reducible apply x_lenL); exact rfl) | (with_reducible apply w_intI) | (with_reducible apply w_intB) | (with_reducible apply w_tupT) | (with_reducible apply w_tupL) | (with_reducible apply w_slT) | (with_reducible apply w_slL) | (with_reducible apply w_iSeq) | (with_reducible apply w_iRg1) | (with_reducible apply ex_bl) | (with_reducible apply ex_int) | (with_reducible apply ex_neg) | (with_reducible refine And.intro (Nat.le_of_ble_eq_true rfl) ?_) | (with_reducible refine And.intro (rfl : List.length _ = _) ?_))
  refine o_seq (o_set ?_)
  refine w_eq (comp_mine chs p (by omega) rfl rfl (by simp)) ?_
  refine o_cut (fun e s' => ∃ (a : Act) (v8 : Option D), e = [some (.ref k), some (.ref q), some (.lst (chs.map encC)), some (.int tok), some (.int p), some (.int pp.2), some (encA a), some (.lst ((mine chs p).map fun c => D.int (c : Nat))), v8] ∧ Bx cs k S s' ∧ actOk chs p a) ?_ ?_
  · refine o_if ?_
    repeat (first | (with_reducible apply w_bin) | (with_reducible apply w_m1) | (with_reducible apply w_un) | (with_reducible apply w_cons) | (with_reducible apply w_nil) | (with_reducible apply w_callN) | ((with_reducible apply w_var); exact rfl) | (with_reducible apply w_c) | (with_reducible apply w_T) | (with_reducible apply w_NotT) | (with_reducible apply w_AndT) | (with_reducible apply w_OrT) | (with_reducible apply w_And) | (with_reducible apply w_Or) | (with_reducible apply w_Not) | (with_reducible apply w_If) | (with_reducible apply w_tup) | (with_reducible apply w_lstF) | (with_reducible apply w_noP) | (with_reducible apply w_part) | (with_reducible apply w_slice) | (with_reducible apply w_isN) | (with_reducible apply w_add) | (with_reducible apply w_sub) | (with_reducible apply w_gt) | (with_reducible apply w_lt) | (with_reducible apply w_ge) | (with_reducible apply w_le) | (with_reducible apply w_eqI) | (with_reducible apply w_neI) | (with_reducible apply w_eqS) | (with_reducible apply w_neS) | ((with_reducible apply x_ixT); exact rfl; exact rfl) | ((with_reducible apply x_ixL); exact rfl; exact rfl) | ((with_reducible apply x_lenT); exact rfl) | ((with_reducible apply x_lenL); exact rfl) | (with_reducible apply w_intI) | (with_reducible apply w_intB) | (with_reducible apply w_tupT) | (with_reducible apply w_tupL) | (with_reducible apply w_slT) | (with_reducible apply w_slL) | (with_reducible apply w_iSeq) | (with_reducible apply w_iRg1) | (with_reducible apply ex_bl) | (with_reducible apply ex_int) | (with_reducible apply ex_neg) | (with_reducible refine And.intro (Nat.le_of_ble_eq_true rfl) ?_) | (with_reducible refine And.intro (rfl : List.length _ = _) ?_))
    refine ⟨fun b1 => ?_, fun _ => ⟨fun h => (by cases h), fun _ => o_nil ⟨.go, none, rfl, hB1, trivial⟩⟩⟩
    repeat (first | (with_reducible apply w_bin) | (with_reducible apply w_m1) | (with_reducible apply w_un) | (with_reducible apply w_cons) | (with_reducible apply w_nil) | (with_reducible apply w_callN) | ((with_reducible apply w_var); exact rfl) | (with_reducible apply w_c) | (with_reducible apply w_T) | (with_reducible apply w_NotT) | (with_reducible apply w_AndT) | (with_reducible apply w_OrT) | (with_reducible apply w_And) | (with_reducible apply w_Or) | (with_reducible apply w_Not) | (with_reducible apply w_If) | (with_reducible apply w_tup) | (with_reducible apply w_lstF) | (with_reducible apply w_noP) | (with_reducible apply w_part) | (with_reducible apply w_slice) | (with_reducible apply w_isN) | (with_reducible apply w_add) | (with_reducible apply w_sub) | (with_reducible apply w_gt) | (with_reducible apply w_lt) | (with_reducible apply w_ge) | (with_reducible apply w_le) | (with_reducible apply w_eqI) | (with_reducible apply w_neI) | (with_reducible apply w_eqS) | (with_reducible apply w_neS) | ((with_reducible apply x_ixT); exact rfl; exact rfl) | ((with_reducible apply x_ixL); exact rfl; exact rfl) | ((with_reducible apply x_lenT); exact rfl) | ((with_reducible apply x_lenL); exact rfl) | (with_reducible apply w_intI) | (with_reducible apply w_intB) | (with_reducible apply w_tupT) | (with_reducible apply w_tupL) | (with_reducible apply w_slT) | (with_reducible apply w_slL) | (with_reducible apply w_iSeq) | (with_reducible apply w_iRg1) | (with_reducible apply ex_bl) | (with_reducible apply ex_int) | (with_reducible apply ex_neg) | (with_reducible refine And.intro (Nat.le_of_ble_eq_true rfl) ?_) | (with_reducible refine And.intro (rfl : List.length _ = _) ?_))
    refine w_draw hB1 (by decide) (by decide) fun s2 r hB2 r6 => ?_
    repeat (first | (with_reducible apply w_bin) | (with_reducible apply w_m1) | (with_reducible apply w_un) | (with_reducible apply w_cons) | (with_reducible apply w_nil) | (with_reducible apply w_callN) | ((with_reducible apply w_var); exact rfl) | (with_reducible apply w_c) | (with_reducible apply w_T) | (with_reducible apply w_NotT) | (with_reducible apply w_AndT) | (with_reducible apply w_OrT) | (with_reducible apply w_And) | (with_reducible apply w_Or) | (with_reducible apply w_Not) | (with_reducible apply w_If) | (with_reducible apply w_tup) | (with_reducible apply w_lstF) | (with_reducible apply w_noP) | (with_reducible apply w_part) | (with_reducible apply w_slice) | (with_reducible apply w_isN) | (with_reducible apply w_add) | (with_reducible apply w_sub) | (with_reducible apply w_gt) | (with_reducible apply w_lt) | (with_reducible apply w_ge) | (with_reducible apply w_le) | (with_reducible apply w_eqI) | (with_reducible apply w_neI) | (with_reducible apply w_eqS) | (with_reducible apply w_neS) | ((with_reducible apply x_ixT); exact rfl; exact rfl) | ((with_reducible apply x_ixL); exact rfl; exact rfl) | ((with_reducible apply x_lenT); exact rfl) | ((with_reducible apply x_lenL); exact rfl) | (with_reducible apply w_intI) | (with_reducible apply w_intB) | (with_reducible apply w_tupT) | (with_reducible apply w_tupL) | (with_reducible apply w_slT) | (with_reducible apply w_slL) | (with_reducible apply w_iSeq) | (with_reducible apply w_iRg1) | (with_reducible apply ex_bl) | (with_reducible apply ex_int) | (with_reducible apply ex_neg) | (with_reducible refine And.intro (Nat.le_of_ble_eq_true rfl) ?_) | (with_reducible refine And.intro (rfl : List.length _ = _) ?_))
    refine ⟨fun _ => ?_, fun _ => o_nil ⟨.go, none, rfl, hB2, trivial⟩⟩
    have hm : 0 < (mine chs p).length := by simpa using b1
    refine o_seq (o_set ?_)
    repeat (first | (with_reducible apply w_bin) | (with_reducible apply w_m1) | (with_reducible apply w_un) | (with_reducible apply w_cons) | (with_reducible apply w_nil) | (with_reducible apply w_callN) | ((with_reducible apply w_var); exact rfl) | (with_reducible apply w_c) | (with_reducible apply w_T) | (with_reducible apply w_NotT) | (with_reducible apply w_AndT) | (with_reducible apply w_OrT) | (with_reducible apply w_And) | (with_reducible apply w_Or) | (with_reducible apply w_Not) | (with_reducible apply w_If) | (with_reducible apply w_tup) | (with_reducible apply w_lstF) | (with_reducible apply w_noP) | (with_reducible apply w_part) | (with_reducible apply w_slice) | (with_reducible apply w_isN) | (with_reducible apply w_add) | (with_reducible apply w_sub) | (with_reducible apply w_gt) | (with_reducible apply w_lt) | (with_reducible apply w_ge) | (with_reducible apply w_le) | (with_reducible apply w_eqI) | (with_reducible apply w_neI) | (with_reducible apply w_eqS) | (with_reducible apply w_neS) | ((with_reducible apply x_ixT); exact rfl; exact rfl) | ((with_reducible apply x_ixL); exact rfl; exact rfl) | ((with_reducible apply x_lenT); exact rfl) | ((with_reducible apply x_lenL); exact rfl) | (with_reducible apply w_intI) | (with_reducible apply w_intB) | (with_reducible apply w_tupT) | (with_reducible apply w_tupL) | (with_reducible apply w_slT) | (with_reducible apply w_slL) | (with_reducible apply w_iSeq) | (with_reducible apply w_iRg1) | (with_reducible apply ex_bl) | (with_reducible apply ex_int) | (with_reducible apply ex_neg) | (with_reducible refine And.intro (Nat.le_of_ble_eq_true rfl) ?_) | (with_reducible refine And.intro (rfl : List.length _ = _) ?_))
    have hm8 : (mine chs p).length ≤ 8 := by
      unfold mine
      refine Nat.le_trans (List.length_filter_le _ _) ?_
      simpa using hc
    refine w_draw hB2 (by simp; omega) (by simp; omega) fun s3 j hB3 hj => ?_
    rw [List.length_map] at hj
    obtain ⟨c, hcj⟩ : ∃ c, (mine chs p)[j]? = some c := ⟨(mine chs p)[j]'(by omega), by simp⟩
    obtain ⟨ch, hch, hgt⟩ := mine_mem (List.mem_of_getElem? hcj)
    refine w_ixL (d := .int c) (by rw [at_nat, List.getElem?_map, hcj]; rfl) ?_
    refine o_set ?_
    repeat (first | (with_reducible apply w_bin) | (with_reducible apply w_m1) | (with_reducible apply w_un) | (with_reducible apply w_cons) | (with_reducible apply w_nil) | (with_reducible apply w_callN) | ((with_reducible apply w_var); exact rfl) | (with_reducible apply w_c) | (with_reducible apply w_T) | (with_reducible apply w_NotT) | (with_reducible apply w_AndT) | (with_reducible apply w_OrT) | (with_reducible apply w_And) | (with_reducible apply w_Or) | (with_reducible apply w_Not) | (with_reducible apply w_If) | (with_reducible apply w_tup) | (with_reducible apply w_lstF) | (with_reducible apply w_noP) | (with_reducible apply w_part) | (with_reducible apply w_slice) | (with_reducible apply w_isN) | (with_reducible apply w_add) | (with_reducible apply w_sub) | (with_reducible apply w_gt) | (with_reducible apply w_lt) | (with_reducible apply w_ge) | (with_reducible apply w_le) | (with_reducible apply w_eqI) | (with_reducible apply w_neI) | (with_reducible apply w_eqS) | (with_reducible apply w_neS) | ((with_reducible apply x_ixT); exact rfl; exact rfl) | ((with_reducible apply x_ixL); exact rfl; exact rfl) | ((with_reducible apply x_lenT); exact rfl) | ((with_reducible apply x_lenL); exact rfl) | (with_reducible apply w_intI) | (with_reducible apply w_intB) | (with_reducible apply w_tupT) | (with_reducible apply w_tupL) | (with_reducible apply w_slT) | (with_reducible apply w_slL) | (with_reducible apply w_iSeq) | (with_reducible apply w_iRg1) | (with_reducible apply ex_bl) | (with_reducible apply ex_int) | (with_reducible apply ex_neg) | (with_reducible refine And.intro (Nat.le_of_ble_eq_true rfl) ?_) | (with_reducible refine And.intro (rfl : List.length _ = _) ?_))
    refine w_ixL (d := encC ch) (by rw [at_nat, List.getElem?_map, hch]; rfl) ?_
    repeat (first | (with_reducible apply w_bin) | (with_reducible apply w_m1) | (with_reducible apply w_un) | (with_reducible apply w_cons) | (with_reducible apply w_nil) | (with_reducible apply w_callN) | ((with_reducible apply w_var); exact rfl) | (with_reducible apply w_c) | (with_reducible apply w_T) | (with_reducible apply w_NotT) | (with_reducible apply w_AndT) | (with_reducible apply w_OrT) | (with_reducible apply w_And) | (with_reducible apply w_Or) | (with_reducible apply w_Not) | (with_reducible apply w_If) | (with_reducible apply w_tup) | (with_reducible apply w_lstF) | (with_reducible apply w_noP) | (with_reducible apply w_part) | (with_reducible apply w_slice) | (with_reducible apply w_isN) | (with_reducible apply w_add) | (with_reducible apply w_sub) | (with_reducible apply w_gt) | (with_reducible apply w_lt) | (with_reducible apply w_ge) | (with_reducible apply w_le) | (with_reducible apply w_eqI) | (with_reducible apply w_neI) | (with_reducible apply w_eqS) | (with_reducible apply w_neS) | ((with_reducible apply x_ixT); exact rfl; exact rfl) | ((with_reducible apply x_ixL); exact rfl; exact rfl) | ((with_reducible apply x_lenT); exact rfl) | ((with_reducible apply x_lenL); exact rfl) | (with_reducible apply w_intI) | (with_reducible apply w_intB) | (with_reducible apply w_tupT) | (with_reducible apply w_tupL) | (with_reducible apply w_slT) | (with_reducible apply w_slL) | (with_reducible apply w_iSeq) | (with_reducible apply w_iRg1) | (with_reducible apply ex_bl) | (with_reducible apply ex_int) | (with_reducible apply ex_neg) | (with_reducible refine And.intro (Nat.le_of_ble_eq_true rfl) ?_) | (with_reducible refine And.intro (rfl : List.length _ = _) ?_))
    by_cases hg : ch.giver = p
    · have e : (decide ((ch.giver : Int) = p)) = true := by rw [decide_eq_true_eq, hg]
      rw [e]
      repeat (first | (with_reducible apply w_bin) | (with_reducible apply w_m1) | (with_reducible apply w_un) | (with_reducible apply w_cons) | (with_reducible apply w_nil) | (with_reducible apply w_callN) | ((with_reducible apply w_var); exact rfl) | (with_reducible apply w_c) | (with_reducible apply w_T) | (with_reducible apply w_NotT) | (with_reducible apply w_AndT) | (with_reducible apply w_OrT) | (with_reducible apply w_And) | (with_reducible apply w_Or) | (with_reducible apply w_Not) | (with_reducible apply w_If) | (with_reducible apply w_tup) | (with_reducible apply w_lstF) | (with_reducible apply w_noP) | (with_reducible apply w_part) | (with_reducible apply w_slice) | (with_reducible apply w_isN) | (with_reducible apply w_add) | (with_reducible apply w_sub) | (with_reducible apply w_gt) | (with_reducible apply w_lt) | (with_reducible apply w_ge) | (with_reducible apply w_le) | (with_reducible apply w_eqI) | (with_reducible apply w_neI) | (with_reducible apply w_eqS) | (with_reducible apply w_neS) | ((with_reducible apply x_ixT); exact rfl; exact rfl) | ((with_reducible apply x_ixL); exact rfl; exact rfl) | ((with_reducible apply x_lenT); exact rfl) | ((with_reducible apply x_lenL); exact rfl) | (with_reducible apply w_intI) | (with_reducible apply w_intB) | (with_reducible apply w_tupT) | (with_reducible apply w_tupL) | (with_reducible apply w_slT) | (with_reducible apply w_slL) | (with_reducible apply w_iSeq) | (with_reducible apply w_iRg1) | (with_reducible apply ex_bl) | (with_reducible apply ex_int) | (with_reducible apply ex_neg) | (with_reducible refine And.intro (Nat.le_of_ble_eq_true rfl) ?_) | (with_reducible refine And.intro (rfl : List.length _ = _) ?_))
      refine w_draw hB3 (by omega) (by omega) fun s4 t hB4 h4 => ?_
      repeat (first | (with_reducible apply w_bin) | (with_reducible apply w_m1) | (with_reducible apply w_un) | (with_reducible apply w_cons) | (with_reducible apply w_nil) | (with_reducible apply w_callN) | ((with_reducible apply w_var); exact rfl) | (with_reducible apply w_c) | (with_reducible apply w_T) | (with_reducible apply w_NotT) | (with_reducible apply w_AndT) | (with_reducible apply w_OrT) | (with_reducible apply w_And) | (with_reducible apply w_Or) | (with_reducible apply w_Not) | (with_reducible apply w_If) | (with_reducible apply w_tup) | (with_reducible apply w_lstF) | (with_reducible apply w_noP) | (with_reducible apply w_part) | (with_reducible apply w_slice) | (with_reducible apply w_isN) | (with_reducible apply w_add) | (with_reducible apply w_sub) | (with_reducible apply w_gt) | (with_reducible apply w_lt) | (with_reducible apply w_ge) | (with_reducible apply w_le) | (with_reducible apply w_eqI) | (with_reducible apply w_neI) | (with_reducible apply w_eqS) | (with_reducible apply w_neS) | ((with_reducible apply x_ixT); exact rfl; exact rfl) | ((with_reducible apply x_ixL); exact rfl; exact rfl) | ((with_reducible apply x_lenT); exact rfl) | ((with_reducible apply x_lenL); exact rfl) | (with_reducible apply w_intI) | (with_reducible apply w_intB) | (with_reducible apply w_tupT) | (with_reducible apply w_tupL) | (with_reducible apply w_slT) | (with_reducible apply w_slL) | (with_reducible apply w_iSeq) | (with_reducible apply w_iRg1) | (with_reducible apply ex_bl) | (with_reducible apply ex_int) | (with_reducible apply ex_neg) | (with_reducible refine And.intro (Nat.le_of_ble_eq_true rfl) ?_) | (with_reducible refine And.intro (rfl : List.length _ = _) ?_))
      exact ⟨.send c t, _, rfl, hB4, ⟨ch, hch, hg⟩, by omega⟩
    · have e : (decide ((ch.giver : Int) = p)) = false := by rw [decide_eq_false_iff_not]; omega
      rw [e]
      repeat (first | (with_reducible apply w_bin) | (with_reducible apply w_m1) | (with_reducible apply w_un) | (with_reducible apply w_cons) | (with_reducible apply w_nil) | (with_reducible apply w_callN) | ((with_reducible apply w_var); exact rfl) | (with_reducible apply w_c) | (with_reducible apply w_T) | (with_reducible apply w_NotT) | (with_reducible apply w_AndT) | (with_reducible apply w_OrT) | (with_reducible apply w_And) | (with_reducible apply w_Or) | (with_reducible apply w_Not) | (with_reducible apply w_If) | (with_reducible apply w_tup) | (with_reducible apply w_lstF) | (with_reducible apply w_noP) | (with_reducible apply w_part) | (with_reducible apply w_slice) | (with_reducible apply w_isN) | (with_reducible apply w_add) | (with_reducible apply w_sub) | (with_reducible apply w_gt) | (with_reducible apply w_lt) | (with_reducible apply w_ge) | (with_reducible apply w_le) | (with_reducible apply w_eqI) | (with_reducible apply w_neI) | (with_reducible apply w_eqS) | (with_reducible apply w_neS) | ((with_reducible apply x_ixT); exact rfl; exact rfl) | ((with_reducible apply x_ixL); exact rfl; exact rfl) | ((with_reducible apply x_lenT); exact rfl) | ((with_reducible apply x_lenL); exact rfl) | (with_reducible apply w_intI) | (with_reducible apply w_intB) | (with_reducible apply w_tupT) | (with_reducible apply w_tupL) | (with_reducible apply w_slT) | (with_reducible apply w_slL) | (with_reducible apply w_iSeq) | (with_reducible apply w_iRg1) | (with_reducible apply ex_bl) | (with_reducible apply ex_int) | (with_reducible apply ex_neg) | (with_reducible refine And.intro (Nat.le_of_ble_eq_true rfl) ?_) | (with_reducible refine And.intro (rfl : List.length _ = _) ?_))
      refine w_draw hB3 (by omega) (by omega) fun s4 t hB4 h4 => ?_
      repeat (first | (with_reducible apply w_bin) | (with_reducible apply w_m1) | (with_reducible apply w_un) | (with_reducible apply w_cons) | (with_reducible apply w_nil) | (with_reducible apply w_callN) | ((with_reducible apply w_var); exact rfl) | (with_reducible apply w_c) | (with_reducible apply w_T) | (with_reducible apply w_NotT) | (with_reducible apply w_AndT) | (with_reducible apply w_OrT) | (with_reducible apply w_And) | (with_reducible apply w_Or) | (with_reducible apply w_Not) | (with_reducible apply w_If) | (with_reducible apply w_tup) | (with_reducible apply w_lstF) | (with_reducible apply w_noP) | (with_reducible apply w_part) | (with_reducible apply w_slice) | (with_reducible apply w_isN) | (with_reducible apply w_add) | (with_reducible apply w_sub) | (with_reducible apply w_gt) | (with_reducible apply w_lt) | (with_reducible apply w_ge) | (with_reducible apply w_le) | (with_reducible apply w_eqI) | (with_reducible apply w_neI) | (with_reducible apply w_eqS) | (with_reducible apply w_neS) | ((with_reducible apply x_ixT); exact rfl; exact rfl) | ((with_reducible apply x_ixL); exact rfl; exact rfl) | ((with_reducible apply x_lenT); exact rfl) | ((with_reducible apply x_lenL); exact rfl) | (with_reducible apply w_intI) | (with_reducible apply w_intB) | (with_reducible apply w_tupT) | (with_reducible apply w_tupL) | (with_reducible apply w_slT) | (with_reducible apply w_slL) | (with_reducible apply w_iSeq) | (with_reducible apply w_iRg1) | (with_reducible apply ex_bl) | (with_reducible apply ex_int) | (with_reducible apply ex_neg) | (with_reducible refine And.intro (Nat.le_of_ble_eq_true rfl) ?_) | (with_reducible refine And.intro (rfl : List.length _ = _) ?_))
      exact ⟨.take c t, _, rfl, hB4, ⟨ch, hch, hgt.resolve_left hg⟩, by omega⟩
  · rintro e s2 ⟨a, v8, rfl, hB2, ha⟩
    refine o_ret ?_
    repeat (first | (with_reducible apply w_bin) | (with_reducible apply w_m1) | (with_reducible apply w_un) | (with_reducible apply w_cons) | (with_reducible apply w_nil) | (with_reducible apply w_callN) | ((with_reducible apply w_var); exact rfl) | (with_reducible apply w_c) | (with_reducible apply w_T) | (with_reducible apply w_NotT) | (with_reducible apply w_AndT) | (with_reducible apply w_OrT) | (with_reducible apply w_And) | (with_reducible apply w_Or) | (with_reducible apply w_Not) | (with_reducible apply w_If) | (with_reducible apply w_tup) | (with_reducible apply w_lstF) | (with_reducible apply w_noP) | (with_reducible apply w_part) | (with_reducible apply w_slice) | (with_reducible apply w_isN) | (with_reducible apply w_add) | (with_reducible apply w_sub) | (with_reducible apply w_gt) | (with_reducible apply w_lt) | (with_reducible apply w_ge) | (with_reducible apply w_le) | (with_reducible apply w_eqI) | (with_reducible apply w_neI) | (with_reducible apply w_eqS) | (with_reducible apply w_neS) | ((with_reducible apply x_ixT); exact rfl; exact rfl) | ((with_reducible apply x_ixL); exact rfl; exact rfl) | ((with_reducible apply x_lenT); exact rfl) | ((with_reducible apply x_lenL); exact rfl) | (with_reducible apply w_intI) | (with_reducible apply w_intB) | (with_reducible apply w_tupT) | (with_reducible apply w_tupL) | (with_reducible apply w_slT) | (with_reducible apply w_slL) | (with_reducible apply w_iSeq) | (with_reducible apply w_iRg1) | (with_reducible apply ex_bl) | (with_reducible apply ex_int) | (with_reducible apply ex_neg) | (with_reducible refine And.intro (Nat.le_of_ble_eq_true rfl) ?_) | (with_reducible refine And.intro (rfl : List.length _ = _) ?_))
    refine w_draw hB2 (by omega) (by omega) fun s3 st1 hB3 h3 => ?_
    repeat (first | (with_reducible apply w_bin) | (with_reducible apply w_m1) | (with_reducible apply w_un) | (with_reducible apply w_cons) | (with_reducible apply w_nil) | (with_reducible apply w_callN) | ((with_reducible apply w_var); exact rfl) | (with_reducible apply w_c) | (with_reducible apply w_T) | (with_reducible apply w_NotT) | (with_reducible apply w_AndT) | (with_reducible apply w_OrT) | (with_reducible apply w_And) | (with_reducible apply w_Or) | (with_reducible apply w_Not) | (with_reducible apply w_If) | (with_reducible apply w_tup) | (with_reducible apply w_lstF) | (with_reducible apply w_noP) | (with_reducible apply w_part) | (with_reducible apply w_slice) | (with_reducible apply w_isN) | (with_reducible apply w_add) | (with_reducible apply w_sub) | (with_reducible apply w_gt) | (with_reducible apply w_lt) | (with_reducible apply w_ge) | (with_reducible apply w_le) | (with_reducible apply w_eqI) | (with_reducible apply w_neI) | (with_reducible apply w_eqS) | (with_reducible apply w_neS) | ((with_reducible apply x_ixT); exact rfl; exact rfl) | ((with_reducible apply x_ixL); exact rfl; exact rfl) | ((with_reducible apply x_lenT); exact rfl) | ((with_reducible apply x_lenL); exact rfl) | (with_reducible apply w_intI) | (with_reducible apply w_intB) | (with_reducible apply w_tupT) | (with_reducible apply w_tupL) | (with_reducible apply w_slT) | (with_reducible apply w_slL) | (with_reducible apply w_iSeq) | (with_reducible apply w_iRg1) | (with_reducible apply ex_bl) | (with_reducible apply ex_int) | (with_reducible apply ex_neg) | (with_reducible refine And.intro (Nat.le_of_ble_eq_true rfl) ?_) | (with_reducible refine And.intro (rfl : List.length _ = _) ?_))
    refine w_draw hB3 (by omega) (by omega) fun s4 st2 hB4 h4 => ?_
    repeat (first | (with_reducible apply w_bin) | (with_reducible apply w_m1) | (with_reducible apply w_un) | (with_reducible apply w_cons) | (with_reducible apply w_nil) | (with_reducible apply w_callN) | ((with_reducible apply w_var); exact rfl) | (with_reducible apply w_c) | (with_reducible apply w_T) | (with_reducible apply w_NotT) | (with_reducible apply w_AndT) | (with_reducible apply w_OrT) | (with_reducible apply w_And) | (with_reducible apply w_Or) | (with_reducible apply w_Not) | (with_reducible apply w_If) | (with_reducible apply w_tup) | (with_reducible apply w_lstF) | (with_reducible apply w_noP) | (with_reducible apply w_part) | (with_reducible apply w_slice) | (with_reducible apply w_isN) | (with_reducible apply w_add) | (with_reducible apply w_sub) | (with_reducible apply w_gt) | (with_reducible apply w_lt) | (with_reducible apply w_ge) | (with_reducible apply w_le) | (with_reducible apply w_eqI) | (with_reducible apply w_neI) | (with_reducible apply w_eqS) | (with_reducible apply w_neS) | ((with_reducible apply x_ixT); exact rfl; exact rfl) | ((with_reducible apply x_ixL); exact rfl; exact rfl) | ((with_reducible apply x_lenT); exact rfl) | ((with_reducible apply x_lenL); exact rfl) | (with_reducible apply w_intI) | (with_reducible apply w_intB) | (with_reducible apply w_tupT) | (with_reducible apply w_tupL) | (with_reducible apply w_slT) | (with_reducible apply w_slL) | (with_reducible apply w_iSeq) | (with_reducible apply w_iRg1) | (with_reducible apply ex_bl) | (with_reducible apply ex_int) | (with_reducible apply ex_neg) | (with_reducible refine And.intro (Nat.le_of_ble_eq_true rfl) ?_) | (with_reducible refine And.intro (rfl : List.length _ = _) ?_))
    exact fin_bx0 (d := encR ⟨p, st1, a, st2⟩) hB hB4 (pl_R _) fun s5 hB5 => hQ s5 _ hB5 ⟨⟨pp, hpp, by show st1 < pp.2; omega, by show st2 < pp.2; omega⟩, ha⟩
end K

namespace K
open PySem Cw
def pool7 : List Str := ["p", "q", "c", "ab", "abcdef", "z", "pp"]
theorem pool7_ok : ∀ x ∈ pool7, okName x = true ∧ chars x = true := by decide +kernel
theorem pool9_ok : ∀ x ∈ pool9, okName x = true ∧ chars x = true := by decide +kernel
section
variable {cs : List Int} {k : Nat} {S s : Sto} {Q : D → Sto → Prop}
theorem w_names {pool : List Str} {many : Nat} (h : Bx cs k S s) (hp : many ≤ pool.length) (hp2 : pool.length < 900) (q : ∀ (s' : Sto) (ss left : List Str), Bx cs k S s' → ss.length = many → (left ++ ss).Perm pool → Q (.lst (ss.map D.str)) s') : wp (m__law_names [.ref k, .lst (pool.map D.str), .int many] s) Q := by
  obtain ⟨s', ss, h1, h2, h3, left, h4⟩ := l_names pool many h hp hp2
  exact w_eq h1 (q s' ss left h2 h3 h4)
theorem w_channels {many : Nat} (h : Bx cs k S s) (h1 : 1 ≤ many) (h5 : many ≤ 5) (q : ∀ (s' : Sto) (chs : List Chan), Bx cs k S s' → chs.length ≤ 8 → (chs.map (·.nm)).Nodup → (∀ c ∈ chs, c.nm ∈ pool9) → (∀ c ∈ chs, c.giver < many ∧ c.taker < many ∧ c.giver ≠ c.taker) → Q (.lst (chs.map encC)) s') : wp (m__law_channels [.ref k, .int many] s) Q := by
  obtain ⟨s', chs, e1, e2, e3, e4, e5, e6⟩ := l_channels h h1 h5
  exact w_eq e1 (q s' chs e2 e3 e4 e5 e6)
theorem pl_P (p : Str × Nat) : pl (encP p) = true := rfl
theorem pl_C (c : Chan) : pl (encC c) = true := rfl
theorem plL_map {α : Type} {enc : α → D} (h : ∀ a, pl (enc a) = true) (l : List α) : plL (l.map enc) = true := by
  rw [plL_iff]
  intro d hd
  obtain ⟨z, _, rfl⟩ := List.mem_map.mp hd
  exact h z
theorem pl_N (N : Net) : pl (.tup [tP N, tC N, tR N]) = true := by
  simp only [pl, plL, tP, tC, tR, plL_map pl_P, plL_map pl_C, plL_map pl_R, Bool.and_self]
theorem w_net (h : Bx cs k S s) (hk : k < S.length) (q : ∀ (s' : Sto) (N : Net), Bx cs k S s' → NetOk N → Q (.tup [tP N, tC N, tR N]) s') : wp (m__law_net [.ref k] s) Q := by
  unfold m__law_net
  refine w_run ?_
  show wo (mb__law_net [some (.ref k), none, none, none, none, none, none, none, none] s) _ _ _ _
  unfold mb__law_net
  refine o_cut (fun e s' => ∃ many : Nat, e = [some (.ref k), some (.int many), none, none, none, none, none, none, none] ∧ Bx cs k S s' ∧ 1 ≤ many ∧ many ≤ 5) ?_ ?_
  · refine o_set ?_
    refine w_bin ?_
    refine w_c ?_
    refine w_callN ?_
    refine w_cons ?_
    refine w_var rfl ?_
    refine w_cons ?_
    refine w_pick2 3 5 6 rfl h (by decide) (by decide) fun s1 hB1 => ⟨?_, ?_⟩
    · repeat (first | (with_reducible apply w_bin) | (with_reducible apply w_m1) | (with_reducible apply w_un) | (with_reducible apply w_cons) | (with_reducible apply w_nil) | (with_reducible apply w_callN) | ((with_reducible apply w_var); exact rfl) | (with_reducible apply w_c) | (with_reducible apply w_T) | (with_reducible apply w_NotT) | (with_reducible apply w_AndT) | (with_reducible apply w_OrT) | (with_reducible apply w_And) | (with_reducible apply w_Or) | (with_reducible apply w_Not) | (with_reducible apply w_If) | (with_reducible apply w_tup) | (with_reducible apply w_lstF) | (with_reducible apply w_noP) | (with_reducible apply w_part) | (with_reducible apply w_slice) | (with_reducible apply w_isN) | (with_reducible apply w_add) | (with_reducible apply w_sub) | (with_reducible apply w_gt) | (with_reducible apply w_lt) | (with_reducible apply w_ge) | (with_reducible apply w_le) | (with_reducible apply w_eqI) | (with_reducible apply w_neI) | (with_reducible apply w_eqS) | (with_reducible apply w_neS) | ((with_reducible apply x_ixT); exact rfl; exact rfl) | ((with_reducible apply x_ixL); exact rfl; exact rfl) | ((with_reducible apply x_lenT); exact rfl) | ((with_reducible apply x_lenL); exact rfl) | (with_reducible apply w_intI) | (with_reducible apply w_intB) | (with_reducible apply w_tupT) | (with_reducible apply w_tupL) | (with_reducible apply w_slT) | (with_reducible apply w_slL) | (with_reducible apply w_iSeq) | (with_reducible apply w_iRg1) | (with_reducible apply ex_bl) | (with_reducible apply ex_int) | (with_reducible apply ex_neg) | (with_reducible refine And.intro (Nat.le_of_ble_eq_true rfl) ?_) | (with_reducible refine And.intro (rfl : List.length _ = _) ?_))
      refine w_draw hB1 (by decide) (by decide) fun s2 r hB2 hr => ?_
      repeat (first | (with_reducible apply w_bin) | (with_reducible apply w_m1) | (with_reducible apply w_un) | (with_reducible apply w_cons) | (with_reducible apply w_nil) | (with_reducible apply w_callN) | ((with_reducible apply w_var); exact rfl) | (with_reducible apply w_c) | (with_reducible apply w_T) | (with_reducible apply w_NotT) | (with_reducible apply w_AndT) | (with_reducible apply w_OrT) | (with_reducible apply w_And) | (with_reducible apply w_Or) | (with_reducible apply w_Not) | (with_reducible apply w_If) | (with_reducible apply w_tup) | (with_reducible apply w_lstF) | (with_reducible apply w_noP) | (with_reducible apply w_part) | (with_reducible apply w_slice) | (with_reducible apply w_isN) | (with_reducible apply w_add) | (with_reducible apply w_sub) | (with_reducible apply w_gt) | (with_reducible apply w_lt) | (with_reducible apply w_ge) | (with_reducible apply w_le) | (with_reducible apply w_eqI) | (with_reducible apply w_neI) | (with_reducible apply w_eqS) | (with_reducible apply w_neS) | ((with_reducible apply x_ixT); exact rfl; exact rfl) | ((with_reducible apply x_ixL); exact rfl; exact rfl) | ((with_reducible apply x_lenT); exact rfl) | ((with_reducible apply x_lenL); exact rfl) | (with_reducible apply w_intI) | (with_reducible apply w_intB) | (with_reducible apply w_tupT) | (with_reducible apply w_tupL) | (with_reducible apply w_slT) | (with_reducible apply w_slL) | (with_reducible apply w_iSeq) | (with_reducible apply w_iRg1) | (with_reducible apply ex_bl) | (with_reducible apply ex_int) | (with_reducible apply ex_neg) | (with_reducible refine And.intro (Nat.le_of_ble_eq_true rfl) ?_) | (with_reducible refine And.intro (rfl : List.length _ = _) ?_))
      refine ⟨1 + r, ?_, hB2, by omega, by omega⟩
      rw [Int.natCast_add]
      rfl
    · repeat (first | (with_reducible apply w_bin) | (with_reducible apply w_m1) | (with_reducible apply w_un) | (with_reducible apply w_cons) | (with_reducible apply w_nil) | (with_reducible apply w_callN) | ((with_reducible apply w_var); exact rfl) | (with_reducible apply w_c) | (with_reducible apply w_T) | (with_reducible apply w_NotT) | (with_reducible apply w_AndT) | (with_reducible apply w_OrT) | (with_reducible apply w_And) | (with_reducible apply w_Or) | (with_reducible apply w_Not) | (with_reducible apply w_If) | (with_reducible apply w_tup) | (with_reducible apply w_lstF) | (with_reducible apply w_noP) | (with_reducible apply w_part) | (with_reducible apply w_slice) | (with_reducible apply w_isN) | (with_reducible apply w_add) | (with_reducible apply w_sub) | (with_reducible apply w_gt) | (with_reducible apply w_lt) | (with_reducible apply w_ge) | (with_reducible apply w_le) | (with_reducible apply w_eqI) | (with_reducible apply w_neI) | (with_reducible apply w_eqS) | (with_reducible apply w_neS) | ((with_reducible apply x_ixT); exact rfl; exact rfl) | ((with_reducible apply x_ixL); exact rfl; exact rfl) | ((with_reducible apply x_lenT); exact rfl) | ((with_reducible apply x_lenL); exact rfl) | (with_reducible apply w_intI) | (with_reducible apply w_intB) | (with_reducible apply w_tupT) | (with_reducible apply w_tupL) | (with_reducible apply w_slT) | (with_reducible apply w_slL) | (with_reducible apply w_iSeq) | (with_reducible apply w_iRg1) | (with_reducible apply ex_bl) | (with_reducible apply ex_int) | (with_reducible apply ex_neg) | (with_reducible refine And.intro (Nat.le_of_ble_eq_true rfl) ?_) | (with_reducible refine And.intro (rfl : List.length _ = _) ?_))
      refine w_draw hB1 (by decide) (by decide) fun s2 r hB2 hr => ?_
      repeat (first | (with_reducible apply w_bin) | (with_reducible apply w_m1) | (with_reducible apply w_un) | (with_reducible apply w_cons) | (with_reducible apply w_nil) | (with_reducible apply w_callN) | ((with_reducible apply w_var); exact rfl) | (with_reducible apply w_c) | (with_reducible apply w_T) | (with_reducible apply w_NotT) | (with_reducible apply w_AndT) | (with_reducible apply w_OrT) | (with_reducible apply w_And) | (with_reducible apply w_Or) | (with_reducible apply w_Not) | (with_reducible apply w_If) | (with_reducible apply w_tup) | (with_reducible apply w_lstF) | (with_reducible apply w_noP) | (with_reducible apply w_part) | (with_reducible apply w_slice) | (with_reducible apply w_isN) | (with_reducible apply w_add) | (with_reducible apply w_sub) | (with_reducible apply w_gt) | (with_reducible apply w_lt) | (with_reducible apply w_ge) | (with_reducible apply w_le) | (with_reducible apply w_eqI) | (with_reducible apply w_neI) | (with_reducible apply w_eqS) | (with_reducible apply w_neS) | ((with_reducible apply x_ixT); exact rfl; exact rfl) | ((with_reducible apply x_ixL); exact rfl; exact rfl) | ((with_reducible apply x_lenT); exact rfl) | ((with_reducible apply x_lenL); exact rfl) | (with_reducible apply w_intI) | (with_reducible apply w_intB) | (with_reducible apply w_tupT) | (with_reducible apply w_tupL) | (with_reducible apply w_slT) | (with_reducible apply w_slL) | (with_reducible apply w_iSeq) | (with_reducible apply w_iRg1) | (with_reducible apply ex_bl) | (with_reducible apply ex_int) | (with_reducible apply ex_neg) | (with_reducible refine And.intro (Nat.le_of_ble_eq_true rfl) ?_) | (with_reducible refine And.intro (rfl : List.length _ = _) ?_))
      refine ⟨1 + r, ?_, hB2, by omega, by omega⟩
      rw [Int.natCast_add]
      rfl
  rintro e s1 ⟨many, rfl, hB1, m1, m5⟩
  refine o_cut (fun e s' => ∃ many : Nat, e = [some (.ref k), some (.int many), none, none, none, none, none, none, none] ∧ Bx cs k S s' ∧ 1 ≤ many ∧ many ≤ 5) ?_ ?_
  · refine o_if ?_
    repeat (first | (with_reducible apply w_bin) | (with_reducible apply w_m1) | (with_reducible apply w_un) | (with_reducible apply w_cons) | (with_reducible apply w_nil) | (with_reducible apply w_callN) | ((with_reducible apply w_var); exact rfl) | (with_reducible apply w_c) | (with_reducible apply w_T) | (with_reducible apply w_NotT) | (with_reducible apply w_AndT) | (with_reducible apply w_OrT) | (with_reducible apply w_And) | (with_reducible apply w_Or) | (with_reducible apply w_Not) | (with_reducible apply w_If) | (with_reducible apply w_tup) | (with_reducible apply w_lstF) | (with_reducible apply w_noP) | (with_reducible apply w_part) | (with_reducible apply w_slice) | (with_reducible apply w_isN) | (with_reducible apply w_add) | (with_reducible apply w_sub) | (with_reducible apply w_gt) | (with_reducible apply w_lt) | (with_reducible apply w_ge) | (with_reducible apply w_le) | (with_reducible apply w_eqI) | (with_reducible apply w_neI) | (with_reducible apply w_eqS) | (with_reducible apply w_neS) | ((with_reducible apply x_ixT); exact rfl; exact rfl) | ((with_reducible apply x_ixL); exact rfl; exact rfl) | ((with_reducible apply x_lenT); exact rfl) | ((with_reducible apply x_lenL); exact rfl) | (with_reducible apply w_intI) | (with_reducible apply w_intB) | (with_reducible apply w_tupT) | (with_reducible apply w_tupL) | (with_reducible apply w_slT) | (with_reducible apply w_slL) | (with_reducible apply w_iSeq) | (with_reducible apply w_iRg1) | (with_reducible apply ex_bl) | (with_reducible apply ex_int) | (with_reducible apply ex_neg) | (with_reducible refine And.intro (Nat.le_of_ble_eq_true rfl) ?_) | (with_reducible refine And.intro (rfl : List.length _ = _) ?_))
    refine ⟨fun hm => ?_, fun _ => ⟨fun h => (by cases h), fun _ => o_nil ⟨many, rfl, hB1, m1, m5⟩⟩⟩
    repeat (first | (with_reducible apply w_bin) | (with_reducible apply w_m1) | (with_reducible apply w_un) | (with_reducible apply w_cons) | (with_reducible apply w_nil) | (with_reducible apply w_callN) | ((with_reducible apply w_var); exact rfl) | (with_reducible apply w_c) | (with_reducible apply w_T) | (with_reducible apply w_NotT) | (with_reducible apply w_AndT) | (with_reducible apply w_OrT) | (with_reducible apply w_And) | (with_reducible apply w_Or) | (with_reducible apply w_Not) | (with_reducible apply w_If) | (with_reducible apply w_tup) | (with_reducible apply w_lstF) | (with_reducible apply w_noP) | (with_reducible apply w_part) | (with_reducible apply w_slice) | (with_reducible apply w_isN) | (with_reducible apply w_add) | (with_reducible apply w_sub) | (with_reducible apply w_gt) | (with_reducible apply w_lt) | (with_reducible apply w_ge) | (with_reducible apply w_le) | (with_reducible apply w_eqI) | (with_reducible apply w_neI) | (with_reducible apply w_eqS) | (with_reducible apply w_neS) | ((with_reducible apply x_ixT); exact rfl; exact rfl) | ((with_reducible apply x_ixL); exact rfl; exact rfl) | ((with_reducible apply x_lenT); exact rfl) | ((with_reducible apply x_lenL); exact rfl) | (with_reducible apply w_intI) | (with_reducible apply w_intB) | (with_reducible apply w_tupT) | (with_reducible apply w_tupL) | (with_reducible apply w_slT) | (with_reducible apply w_slL) | (with_reducible apply w_iSeq) | (with_reducible apply w_iRg1) | (with_reducible apply ex_bl) | (with_reducible apply ex_int) | (with_reducible apply ex_neg) | (with_reducible refine And.intro (Nat.le_of_ble_eq_true rfl) ?_) | (with_reducible refine And.intro (rfl : List.length _ = _) ?_))
    refine w_draw hB1 (by decide) (by decide) fun s2 r hB2 hr => ?_
    repeat (first | (with_reducible apply w_bin) | (with_reducible apply w_m1) | (with_reducible apply w_un) | (with_reducible apply w_cons) | (with_reducible apply w_nil) | (with_reducible apply w_callN) | ((with_reducible apply w_var); exact rfl) | (with_reducible apply w_c) | (with_reducible apply w_T) | (with_reducible apply w_NotT) | (with_reducible apply w_AndT) | (with_reducible apply w_OrT) | (with_reducible apply w_And) | (with_reducible apply w_Or) | (with_reducible apply w_Not) | (with_reducible apply w_If) | (with_reducible apply w_tup) | (with_reducible apply w_lstF) | (with_reducible apply w_noP) | (with_reducible apply w_part) | (with_reducible apply w_slice) | (with_reducible apply w_isN) | (with_reducible apply w_add) | (with_reducible apply w_sub) | (with_reducible apply w_gt) | (with_reducible apply w_lt) | (with_reducible apply w_ge) | (with_reducible apply w_le) | (with_reducible apply w_eqI) | (with_reducible apply w_neI) | (with_reducible apply w_eqS) | (with_reducible apply w_neS) | ((with_reducible apply x_ixT); exact rfl; exact rfl) | ((with_reducible apply x_ixL); exact rfl; exact rfl) | ((with_reducible apply x_lenT); exact rfl) | ((with_reducible apply x_lenL); exact rfl) | (with_reducible apply w_intI) | (with_reducible apply w_intB) | (with_reducible apply w_tupT) | (with_reducible apply w_tupL) | (with_reducible apply w_slT) | (with_reducible apply w_slL) | (with_reducible apply w_iSeq) | (with_reducible apply w_iRg1) | (with_reducible apply ex_bl) | (with_reducible apply ex_int) | (with_reducible apply ex_neg) | (with_reducible refine And.intro (Nat.le_of_ble_eq_true rfl) ?_) | (with_reducible refine And.intro (rfl : List.length _ = _) ?_))
    exact ⟨fun _ => o_set (w_c ⟨2, rfl, hB2, by omega, by omega⟩), fun _ => o_nil ⟨many, rfl, hB2, m1, m5⟩⟩
  clear hB1 m1 m5 s1 many
  rintro e s1 ⟨many, rfl, hB1, m1, m5⟩
  have hl1 := hB1.len
  refine o_seq (o_set ?_)
  refine w_lstT ?_
  refine w_nil ?_
  refine ⟨Nat.zero_le _, ?_⟩
  rw [hl1]
  show wo _ _ _ _ _
  have hB2 : Bx cs k (S ++ [.lst []]) (s1 ++ [.lst []]) := hB1.ext _
  have hget : ∀ l : List D, (S ++ [Cell.lst l])[S.length]? = some (.lst l) := fun l => by simp
  have hput : ∀ l m : List D, (S ++ [Cell.lst l]).set S.length (.lst m) = S ++ [.lst m] := fun l m => by simp
  have hne : S.length ≠ k := by omega
  refine o_cut (fun e s' => ∃ (ps : List (Str × Nat)) (v3 : Option D) (left : List Str), e = [some (.ref k), some (.int many), some (.ref S.length), v3, none, none, none, none, none] ∧ Bx cs k (S ++ [.lst (ps.map encP)]) s' ∧ ps.length = many ∧ (left ++ ps.map (·.1)).Perm pool7 ∧ ∀ p ∈ ps, 1 ≤ p.2 ∧ p.2 ≤ 8) ?_ ?_
  · refine o_for ?_
    refine w_iSeq ?_
    refine w_callN ?_
    repeat (first | (with_reducible apply w_bin) | (with_reducible apply w_m1) | (with_reducible apply w_un) | (with_reducible apply w_cons) | (with_reducible apply w_nil) | (with_reducible apply w_callN) | ((with_reducible apply w_var); exact rfl) | (with_reducible apply w_c) | (with_reducible apply w_T) | (with_reducible apply w_NotT) | (with_reducible apply w_AndT) | (with_reducible apply w_OrT) | (with_reducible apply w_And) | (with_reducible apply w_Or) | (with_reducible apply w_Not) | (with_reducible apply w_If) | (with_reducible apply w_tup) | (with_reducible apply w_lstF) | (with_reducible apply w_noP) | (with_reducible apply w_part) | (with_reducible apply w_slice) | (with_reducible apply w_isN) | (with_reducible apply w_add) | (with_reducible apply w_sub) | (with_reducible apply w_gt) | (with_reducible apply w_lt) | (with_reducible apply w_ge) | (with_reducible apply w_le) | (with_reducible apply w_eqI) | (with_reducible apply w_neI) | (with_reducible apply w_eqS) | (with_reducible apply w_neS) | ((with_reducible apply x_ixT); exact rfl; exact rfl) | ((with_reducible apply x_ixL); exact rfl; exact rfl) | ((with_reducible apply x_lenT); exact rfl) | ((with_reducible apply x_lenL); exact rfl) | (with_reducible apply w_intI) | (with_reducible apply w_intB) | (with_reducible apply w_tupT) | (with_reducible apply w_tupL) | (with_reducible apply w_slT) | (with_reducible apply w_slL) | (with_reducible apply w_iSeq) | (with_reducible apply w_iRg1) | (with_reducible apply ex_bl) | (with_reducible apply ex_int) | (with_reducible apply ex_neg) | (with_reducible refine And.intro (Nat.le_of_ble_eq_true rfl) ?_) | (with_reducible refine And.intro (rfl : List.length _ = _) ?_))
    refine w_names (pool := pool7) hB2 (by simp [pool7]; omega) (by simp [pool7]) fun s2 ss left hB3 n1 n2 => ?_
    refine ⟨_, rfl, ?_⟩
    refine ⟨fun j e s' => ∃ (ps : List (Str × Nat)) (v3 : Option D), e = [some (.ref k), some (.int many), some (.ref S.length), v3, none, none, none, none, none] ∧ Bx cs k (S ++ [.lst (ps.map encP)]) s' ∧ ps.map (·.1) = ss.take j ∧ ∀ p ∈ ps, 1 ≤ p.2 ∧ p.2 ≤ 8, ⟨[], none, rfl, hB3, rfl, by simp⟩, fun _ _ _ _ => rfl, ?_, ?_⟩
    · rintro j x hx e s' ⟨ps, v3, rfl, hB, i3, i4⟩
      simp only [List.getElem?_map] at hx
      obtain ⟨y, hy, rfl⟩ := Option.map_eq_some_iff.mp hx
      refine ⟨_, _, rfl, ?_⟩
      refine o_expr ?_
      refine w_meth ?_
      repeat (first | (with_reducible apply w_bin) | (with_reducible apply w_m1) | (with_reducible apply w_un) | (with_reducible apply w_cons) | (with_reducible apply w_nil) | (with_reducible apply w_callN) | ((with_reducible apply w_var); exact rfl) | (with_reducible apply w_c) | (with_reducible apply w_T) | (with_reducible apply w_NotT) | (with_reducible apply w_AndT) | (with_reducible apply w_OrT) | (with_reducible apply w_And) | (with_reducible apply w_Or) | (with_reducible apply w_Not) | (with_reducible apply w_If) | (with_reducible apply w_tup) | (with_reducible apply w_lstF) | (with_reducible apply w_noP) | (with_reducible apply w_part) | (with_reducible apply w_slice) | (with_reducible apply w_isN) | (with_reducible apply w_add) | (with_reducible apply w_sub) | (with_reducible apply w_gt) | (with_reducible apply w_lt) | (with_reducible apply w_ge) | (with_reducible apply w_le) | (with_reducible apply w_eqI) | (with_reducible apply w_neI) | (with_reducible apply w_eqS) | (with_reducible apply w_neS) | ((with_reducible apply x_ixT); exact rfl; exact rfl) | ((with_reducible apply x_ixL); exact rfl; exact rfl) | ((with_reducible apply x_lenT); exact rfl) | ((with_reducible apply x_lenL); exact rfl) | (with_reducible apply w_intI) | (with_reducible apply w_intB) | (with_reducible apply w_tupT) | (with_reducible apply w_tupL) | (with_reducible apply w_slT) | (with_reducible apply w_slL) | (with_reducible apply w_iSeq) | (with_reducible apply w_iRg1) | (with_reducible apply ex_bl) | (with_reducible apply ex_int) | (with_reducible apply ex_neg) | (with_reducible refine And.intro (Nat.le_of_ble_eq_true rfl) ?_) | (with_reducible refine And.intro (rfl : List.length _ = _) ?_))
      have hg := (hB.get hne).trans (hget (ps.map encP))
      refine ⟨by simp [tyM, hg], ?_⟩
      have hpl : (ps.map encP).length < LIM := by
        have := congrArg List.length i3
        rw [List.length_map, List.length_take] at this
        rw [List.length_map]
        show _ < 16777216
        omega
      have step : ∀ (r : Nat) (s3 : Sto), Bx cs k (S ++ [.lst (ps.map encP)]) s3 → r < 8 → wp (lift (oAppend (.ref S.length) [.tup [.str y, .int (1 + (r : Int))]] s3)) fun _ s => ∃ (ps : List (Str × Nat)) (v3 : Option D), [some (.ref k), some (.int many), some (.ref S.length), some (.str y), none, none, none, none, none] = [some (.ref k), some (.int many), some (.ref S.length), v3, none, none, none, none, none] ∧ Bx cs k (S ++ [.lst (ps.map encP)]) s ∧ ps.map (·.1) = ss.take (j + 1) ∧ ∀ p ∈ ps, 1 ≤ p.2 ∧ p.2 ≤ 8 := fun r s3 hB3 hr => by
        refine w_app ((hB3.get hne).trans (hget _)) hpl ?_
        have e : [D.tup [.str y, .int (1 + (r : Int))]] = [(y, 1 + r)].map encP := by
          simp [encP]
        rw [e, ← List.map_append]
        refine ⟨ps ++ [(y, 1 + r)], some (.str y), rfl, ?_, ?_, ?_⟩
        · have := hB3.put (c := .lst ((ps ++ [(y, 1 + r)]).map encP)) hne
          rwa [hput] at this
        · rw [List.map_append, i3, List.take_add_one, hy]
          rfl
        · intro p hp
          rcases List.mem_append.mp hp with hp | hp
          · exact i4 p hp
          · rw [List.mem_singleton.mp hp]
            exact ⟨by show 1 ≤ 1 + r; omega, by show 1 + r ≤ 8; omega⟩
      refine w_cons ?_
      refine w_tup ?_
      refine w_cons ?_
      refine w_var rfl ?_
      refine w_cons ?_
      refine w_bin ?_
      refine w_c ?_
      refine w_callN ?_
      refine w_cons ?_
      refine w_var rfl ?_
      refine w_cons ?_
      refine w_pick2 3 8 4 rfl hB (by decide) (by decide) fun s3 hB3 => ⟨?_, ?_⟩
      · repeat (first | (with_reducible apply w_bin) | (with_reducible apply w_m1) | (with_reducible apply w_un) | (with_reducible apply w_cons) | (with_reducible apply w_nil) | (with_reducible apply w_callN) | ((with_reducible apply w_var); exact rfl) | (with_reducible apply w_c) | (with_reducible apply w_T) | (with_reducible apply w_NotT) | (with_reducible apply w_AndT) | (with_reducible apply w_OrT) | (with_reducible apply w_And) | (with_reducible apply w_Or) | (with_reducible apply w_Not) | (with_reducible apply w_If) | (with_reducible apply w_tup) | (with_reducible apply w_lstF) | (with_reducible apply w_noP) | (with_reducible apply w_part) | (with_reducible apply w_slice) | (with_reducible apply w_isN) | (with_reducible apply w_add) | (with_reducible apply w_sub) | (with_reducible apply w_gt) | (with_reducible apply w_lt) | (with_reducible apply w_ge) | (with_reducible apply w_le) | (with_reducible apply w_eqI) | (with_reducible apply w_neI) | (with_reducible apply w_eqS) | (with_reducible apply w_neS) | ((with_reducible apply x_ixT); exact rfl; exact rfl) | ((with_reducible apply x_ixL); exact rfl; exact rfl) | ((with_reducible apply x_lenT); exact rfl) | ((with_reducible apply x_lenL); exact rfl) | (with_reducible apply w_intI) | (with_reducible apply w_intB) | (with_reducible apply w_tupT) | (with_reducible apply w_tupL) | (with_reducible apply w_slT) | (with_reducible apply w_slL) | (with_reducible apply w_iSeq) | (with_reducible apply w_iRg1) | (with_reducible apply ex_bl) | (with_reducible apply ex_int) | (with_reducible apply ex_neg) | (with_reducible refine And.intro (Nat.le_of_ble_eq_true rfl) ?_) | (with_reducible refine And.intro (rfl : List.length _ = _) ?_))
        refine w_draw hB3 (by decide) (by decide) fun s4 r hB4 hr => ?_
        repeat (first | (with_reducible apply w_bin) | (with_reducible apply w_m1) | (with_reducible apply w_un) | (with_reducible apply w_cons) | (with_reducible apply w_nil) | (with_reducible apply w_callN) | ((with_reducible apply w_var); exact rfl) | (with_reducible apply w_c) | (with_reducible apply w_T) | (with_reducible apply w_NotT) | (with_reducible apply w_AndT) | (with_reducible apply w_OrT) | (with_reducible apply w_And) | (with_reducible apply w_Or) | (with_reducible apply w_Not) | (with_reducible apply w_If) | (with_reducible apply w_tup) | (with_reducible apply w_lstF) | (with_reducible apply w_noP) | (with_reducible apply w_part) | (with_reducible apply w_slice) | (with_reducible apply w_isN) | (with_reducible apply w_add) | (with_reducible apply w_sub) | (with_reducible apply w_gt) | (with_reducible apply w_lt) | (with_reducible apply w_ge) | (with_reducible apply w_le) | (with_reducible apply w_eqI) | (with_reducible apply w_neI) | (with_reducible apply w_eqS) | (with_reducible apply w_neS) | ((with_reducible apply x_ixT); exact rfl; exact rfl) | ((with_reducible apply x_ixL); exact rfl; exact rfl) | ((with_reducible apply x_lenT); exact rfl) | ((with_reducible apply x_lenL); exact rfl) | (with_reducible apply w_intI) | (with_reducible apply w_intB) | (with_reducible apply w_tupT) | (with_reducible apply w_tupL) | (with_reducible apply w_slT) | (with_reducible apply w_slL) | (with_reducible apply w_iSeq) | (with_reducible apply w_iRg1) | (with_reducible apply ex_bl) | (with_reducible apply ex_int) | (with_reducible apply ex_neg) | (with_reducible refine And.intro (Nat.le_of_ble_eq_true rfl) ?_) | (with_reducible refine And.intro (rfl : List.length _ = _) ?_))
        exact step r s4 hB4 (by omega)
      · repeat (first | (with_reducible apply w_bin) | (with_reducible apply w_m1) | (with_reducible apply w_un) | (with_reducible apply w_cons) | (with_reducible apply w_nil) | (with_reducible apply w_callN) | ((with_reducible apply w_var); exact rfl) | (with_reducible apply w_c) | (with_reducible apply w_T) | (with_reducible apply w_NotT) | (with_reducible apply w_AndT) | (with_reducible apply w_OrT) | (with_reducible apply w_And) | (with_reducible apply w_Or) | (with_reducible apply w_Not) | (with_reducible apply w_If) | (with_reducible apply w_tup) | (with_reducible apply w_lstF) | (with_reducible apply w_noP) | (with_reducible apply w_part) | (with_reducible apply w_slice) | (with_reducible apply w_isN) | (with_reducible apply w_add) | (with_reducible apply w_sub) | (with_reducible apply w_gt) | (with_reducible apply w_lt) | (with_reducible apply w_ge) | (with_reducible apply w_le) | (with_reducible apply w_eqI) | (with_reducible apply w_neI) | (with_reducible apply w_eqS) | (with_reducible apply w_neS) | ((with_reducible apply x_ixT); exact rfl; exact rfl) | ((with_reducible apply x_ixL); exact rfl; exact rfl) | ((with_reducible apply x_lenT); exact rfl) | ((with_reducible apply x_lenL); exact rfl) | (with_reducible apply w_intI) | (with_reducible apply w_intB) | (with_reducible apply w_tupT) | (with_reducible apply w_tupL) | (with_reducible apply w_slT) | (with_reducible apply w_slL) | (with_reducible apply w_iSeq) | (with_reducible apply w_iRg1) | (with_reducible apply ex_bl) | (with_reducible apply ex_int) | (with_reducible apply ex_neg) | (with_reducible refine And.intro (Nat.le_of_ble_eq_true rfl) ?_) | (with_reducible refine And.intro (rfl : List.length _ = _) ?_))
        refine w_draw hB3 (by decide) (by decide) fun s4 r hB4 hr => ?_
        repeat (first | (with_reducible apply w_bin) | (with_reducible apply w_m1) | (with_reducible apply w_un) | (with_reducible apply w_cons) | (with_reducible apply w_nil) | (with_reducible apply w_callN) | ((with_reducible apply w_var); exact rfl) | (with_reducible apply w_c) | (with_reducible apply w_T) | (with_reducible apply w_NotT) | (with_reducible apply w_AndT) | (with_reducible apply w_OrT) | (with_reducible apply w_And) | (with_reducible apply w_Or) | (with_reducible apply w_Not) | (with_reducible apply w_If) | (with_reducible apply w_tup) | (with_reducible apply w_lstF) | (with_reducible apply w_noP) | (with_reducible apply w_part) | (with_reducible apply w_slice) | (with_reducible apply w_isN) | (with_reducible apply w_add) | (with_reducible apply w_sub) | (with_reducible apply w_gt) | (with_reducible apply w_lt) | (with_reducible apply w_ge) | (with_reducible apply w_le) | (with_reducible apply w_eqI) | (with_reducible apply w_neI) | (with_reducible apply w_eqS) | (with_reducible apply w_neS) | ((with_reducible apply x_ixT); exact rfl; exact rfl) | ((with_reducible apply x_ixL); exact rfl; exact rfl) | ((with_reducible apply x_lenT); exact rfl) | ((with_reducible apply x_lenL); exact rfl) | (with_reducible apply w_intI) | (with_reducible apply w_intB) | (with_reducible apply w_tupT) | (with_reducible apply w_tupL) | (with_reducible apply w_slT) | (with_reducible apply w_slL) | (with_reducible apply w_iSeq) | (with_reducible apply w_iRg1) | (with_reducible apply ex_bl) | (with_reducible apply ex_int) | (with_reducible apply ex_neg) | (with_reducible refine And.intro (Nat.le_of_ble_eq_true rfl) ?_) | (with_reducible refine And.intro (rfl : List.length _ = _) ?_))
        exact step r s4 hB4 (by omega)
    · rintro e s' ⟨ps, v3, rfl, hB, i3, i4⟩
      have e : ss.take (ss.map D.str).length = ss := by rw [List.length_map, List.take_length]
      have i3 : ps.map (·.1) = ss := i3.trans e
      refine ⟨ps, v3, left, rfl, hB, ?_, ?_, i4⟩
      · have := congrArg List.length i3
        rw [List.length_map] at this
        omega
      · rw [i3]
        exact n2
  · rintro e s2 ⟨ps, v3, left, rfl, hB3, n1, n2, n3⟩
    have nd : (left ++ ps.map (·.1)).Nodup := n2.nodup_iff.mpr (by decide)
    refine o_seq (o_set ?_)
    repeat (first | (with_reducible apply w_bin) | (with_reducible apply w_m1) | (with_reducible apply w_un) | (with_reducible apply w_cons) | (with_reducible apply w_nil) | (with_reducible apply w_callN) | ((with_reducible apply w_var); exact rfl) | (with_reducible apply w_c) | (with_reducible apply w_T) | (with_reducible apply w_NotT) | (with_reducible apply w_AndT) | (with_reducible apply w_OrT) | (with_reducible apply w_And) | (with_reducible apply w_Or) | (with_reducible apply w_Not) | (with_reducible apply w_If) | (with_reducible apply w_tup) | (with_reducible apply w_lstF) | (with_reducible apply w_noP) | (with_reducible apply w_part) | (with_reducible apply w_slice) | (with_reducible apply w_isN) | (with_reducible apply w_add) | (with_reducible apply w_sub) | (with_reducible apply w_gt) | (with_reducible apply w_lt) | (with_reducible apply w_ge) | (with_reducible apply w_le) | (with_reducible apply w_eqI) | (with_reducible apply w_neI) | (with_reducible apply w_eqS) | (with_reducible apply w_neS) | ((with_reducible apply x_ixT); exact rfl; exact rfl) | ((with_reducible apply x_ixL); exact rfl; exact rfl) | ((with_reducible apply x_lenT); exact rfl) | ((with_reducible apply x_lenL); exact rfl) | (with_reducible apply w_intI) | (with_reducible apply w_intB) | (with_reducible apply w_tupT) | (with_reducible apply w_tupL) | (with_reducible apply w_slT) | (with_reducible apply w_slL) | (with_reducible apply w_iSeq) | (with_reducible apply w_iRg1) | (with_reducible apply ex_bl) | (with_reducible apply ex_int) | (with_reducible apply ex_neg) | (with_reducible refine And.intro (Nat.le_of_ble_eq_true rfl) ?_) | (with_reducible refine And.intro (rfl : List.length _ = _) ?_))
    refine w_channels hB3 m1 m5 fun s3 chs hB4 c8 cd cp cn => ?_
    refine o_seq (o_set ?_)
    repeat (first | (with_reducible apply w_bin) | (with_reducible apply w_m1) | (with_reducible apply w_un) | (with_reducible apply w_cons) | (with_reducible apply w_nil) | (with_reducible apply w_callN) | ((with_reducible apply w_var); exact rfl) | (with_reducible apply w_c) | (with_reducible apply w_T) | (with_reducible apply w_NotT) | (with_reducible apply w_AndT) | (with_reducible apply w_OrT) | (with_reducible apply w_And) | (with_reducible apply w_Or) | (with_reducible apply w_Not) | (with_reducible apply w_If) | (with_reducible apply w_tup) | (with_reducible apply w_lstF) | (with_reducible apply w_noP) | (with_reducible apply w_part) | (with_reducible apply w_slice) | (with_reducible apply w_isN) | (with_reducible apply w_add) | (with_reducible apply w_sub) | (with_reducible apply w_gt) | (with_reducible apply w_lt) | (with_reducible apply w_ge) | (with_reducible apply w_le) | (with_reducible apply w_eqI) | (with_reducible apply w_neI) | (with_reducible apply w_eqS) | (with_reducible apply w_neS) | ((with_reducible apply x_ixT); exact rfl; exact rfl) | ((with_reducible apply x_ixL); exact rfl; exact rfl) | ((with_reducible apply x_lenT); exact rfl) | ((with_reducible apply x_lenL); exact rfl) | (with_reducible apply w_intI) | (with_reducible apply w_intB) | (with_reducible apply w_tupT) | (with_reducible apply w_tupL) | (with_reducible apply w_slT) | (with_reducible apply w_slL) | (with_reducible apply w_iSeq) | (with_reducible apply w_iRg1) | (with_reducible apply ex_bl) | (with_reducible apply ex_int) | (with_reducible apply ex_neg) | (with_reducible refine And.intro (Nat.le_of_ble_eq_true rfl) ?_) | (with_reducible refine And.intro (rfl : List.length _ = _) ?_))
    refine w_draw hB4 (by decide) (by decide) fun s4 t hB5 ht => ?_
    have htok : ∃ tok : Nat, L2.atI [D.int 2, .int 3, .int 10] t = some (.int tok) ∧ 1 ≤ tok ∧ tok ≤ 10 := by
      have : t = 0 ∨ t = 1 ∨ t = 2 := by omega
      rcases this with rfl | rfl | rfl
      · exact ⟨2, rfl, by decide, by decide⟩
      · exact ⟨3, rfl, by decide, by decide⟩
      · exact ⟨10, rfl, by decide, by decide⟩
    obtain ⟨tok, t1, t2, t3⟩ := htok
    refine w_ixL t1 ?_
    refine o_seq (o_set ?_)
    repeat (first | (with_reducible apply w_bin) | (with_reducible apply w_m1) | (with_reducible apply w_un) | (with_reducible apply w_cons) | (with_reducible apply w_nil) | (with_reducible apply w_callN) | ((with_reducible apply w_var); exact rfl) | (with_reducible apply w_c) | (with_reducible apply w_T) | (with_reducible apply w_NotT) | (with_reducible apply w_AndT) | (with_reducible apply w_OrT) | (with_reducible apply w_And) | (with_reducible apply w_Or) | (with_reducible apply w_Not) | (with_reducible apply w_If) | (with_reducible apply w_tup) | (with_reducible apply w_lstF) | (with_reducible apply w_noP) | (with_reducible apply w_part) | (with_reducible apply w_slice) | (with_reducible apply w_isN) | (with_reducible apply w_add) | (with_reducible apply w_sub) | (with_reducible apply w_gt) | (with_reducible apply w_lt) | (with_reducible apply w_ge) | (with_reducible apply w_le) | (with_reducible apply w_eqI) | (with_reducible apply w_neI) | (with_reducible apply w_eqS) | (with_reducible apply w_neS) | ((with_reducible apply x_ixT); exact rfl; exact rfl) | ((with_reducible apply x_ixL); exact rfl; exact rfl) | ((with_reducible apply x_lenT); exact rfl) | ((with_reducible apply x_lenL); exact rfl) | (with_reducible apply w_intI) | (with_reducible apply w_intB) | (with_reducible apply w_tupT) | (with_reducible apply w_tupL) | (with_reducible apply w_slT) | (with_reducible apply w_slL) | (with_reducible apply w_iSeq) | (with_reducible apply w_iRg1) | (with_reducible apply ex_bl) | (with_reducible apply ex_int) | (with_reducible apply ex_neg) | (with_reducible refine And.intro (Nat.le_of_ble_eq_true rfl) ?_) | (with_reducible refine And.intro (rfl : List.length _ = _) ?_))
    refine w_draw hB5 (by decide) (by decide) fun s5 u hB6 hu => ?_
    have hcnt : ∃ m : Nat, L2.atI [D.int 13, .int 25, .int 41] u = some (.int m) ∧ 1 ≤ m ∧ m ≤ 41 := by
      have : u = 0 ∨ u = 1 ∨ u = 2 := by omega
      rcases this with rfl | rfl | rfl
      · exact ⟨13, rfl, by decide, by decide⟩
      · exact ⟨25, rfl, by decide, by decide⟩
      · exact ⟨41, rfl, by decide, by decide⟩
    obtain ⟨m, u1, u2, u3⟩ := hcnt
    refine w_ixL u1 ?_
    repeat (first | (with_reducible apply w_bin) | (with_reducible apply w_m1) | (with_reducible apply w_un) | (with_reducible apply w_cons) | (with_reducible apply w_nil) | (with_reducible apply w_callN) | ((with_reducible apply w_var); exact rfl) | (with_reducible apply w_c) | (with_reducible apply w_T) | (with_reducible apply w_NotT) | (with_reducible apply w_AndT) | (with_reducible apply w_OrT) | (with_reducible apply w_And) | (with_reducible apply w_Or) | (with_reducible apply w_Not) | (with_reducible apply w_If) | (with_reducible apply w_tup) | (with_reducible apply w_lstF) | (with_reducible apply w_noP) | (with_reducible apply w_part) | (with_reducible apply w_slice) | (with_reducible apply w_isN) | (with_reducible apply w_add) | (with_reducible apply w_sub) | (with_reducible apply w_gt) | (with_reducible apply w_lt) | (with_reducible apply w_ge) | (with_reducible apply w_le) | (with_reducible apply w_eqI) | (with_reducible apply w_neI) | (with_reducible apply w_eqS) | (with_reducible apply w_neS) | ((with_reducible apply x_ixT); exact rfl; exact rfl) | ((with_reducible apply x_ixL); exact rfl; exact rfl) | ((with_reducible apply x_lenT); exact rfl) | ((with_reducible apply x_lenL); exact rfl) | (with_reducible apply w_intI) | (with_reducible apply w_intB) | (with_reducible apply w_tupT) | (with_reducible apply w_tupL) | (with_reducible apply w_slT) | (with_reducible apply w_slL) | (with_reducible apply w_iSeq) | (with_reducible apply w_iRg1) | (with_reducible apply ex_bl) | (with_reducible apply ex_int) | (with_reducible apply ex_neg) | (with_reducible refine And.intro (Nat.le_of_ble_eq_true rfl) ?_) | (with_reducible refine And.intro (rfl : List.length _ = _) ?_))
    refine w_draw hB6 (by omega) (by omega) fun s6 cnt hB7 h7 => ?_
    refine o_seq (o_set ?_)
    refine w_comp ?_
    refine w_iRg1 ?_
    repeat (first | (with_reducible apply w_bin) | (with_reducible apply w_m1) | (with_reducible apply w_un) | (with_reducible apply w_cons) | (with_reducible apply w_nil) | (with_reducible apply w_callN) | ((with_reducible apply w_var); exact rfl) | (with_reducible apply w_c) | (with_reducible apply w_T) | (with_reducible apply w_NotT) | (with_reducible apply w_AndT) | (with_reducible apply w_OrT) | (with_reducible apply w_And) | (with_reducible apply w_Or) | (with_reducible apply w_Not) | (with_reducible apply w_If) | (with_reducible apply w_tup) | (with_reducible apply w_lstF) | (with_reducible apply w_noP) | (with_reducible apply w_part) | (with_reducible apply w_slice) | (with_reducible apply w_isN) | (with_reducible apply w_add) | (with_reducible apply w_sub) | (with_reducible apply w_gt) | (with_reducible apply w_lt) | (with_reducible apply w_ge) | (with_reducible apply w_le) | (with_reducible apply w_eqI) | (with_reducible apply w_neI) | (with_reducible apply w_eqS) | (with_reducible apply w_neS) | ((with_reducible apply x_ixT); exact rfl; exact rfl) | ((with_reducible apply x_ixL); exact rfl; exact rfl) | ((with_reducible apply x_lenT); exact rfl) | ((with_reducible apply x_lenL); exact rfl) | (with_reducible apply w_intI) | (with_reducible apply w_intB) | (with_reducible apply w_tupT) | (with_reducible apply w_tupL) | (with_reducible apply w_slT) | (with_reducible apply w_slL) | (with_reducible apply w_iSeq) | (with_reducible apply w_iRg1) | (with_reducible apply ex_bl) | (with_reducible apply ex_int) | (with_reducible apply ex_neg) | (with_reducible refine And.intro (Nat.le_of_ble_eq_true rfl) ?_) | (with_reducible refine And.intro (rfl : List.length _ = _) ?_))
    refine ⟨cnt, rfl, by omega, fun j acc s' => ∃ rs : List Rule, acc = rs.map encR ∧ rs.length = j ∧ Bx cs k (S ++ [.lst (ps.map encP)]) s' ∧ ∀ r ∈ rs, ruleOk ps chs r, ?_, ⟨[], rfl, rfl, hB7, by simp⟩, ?_, ?_, ?_⟩
    · simp [rngD]
      show _ < 16777216
      omega
    · rintro j acc s' ⟨rs, rfl, r1, hB, r3⟩
      exact ⟨by rw [List.length_map]; omega, by rw [hB.len, hB7.len], rfl⟩
    · rintro j x hx acc s' ⟨rs, rfl, r1, hB, r3⟩
      refine ⟨_, rfl, ?_⟩
      refine w_eq rfl ⟨fun _ => ?_, fun h => (by cases h)⟩
      repeat (first | (with_reducible apply w_bin) | (with_reducible apply w_m1) | (with_reducible apply w_un) | (with_reducible apply w_cons) | (with_reducible apply w_nil) | (with_reducible apply w_callN) | ((with_reducible apply w_var); exact rfl) | (with_reducible apply w_c) | (with_reducible apply w_T) | (with_reducible apply w_NotT) | (with_reducible apply w_AndT) | (with_reducible apply w_OrT) | (with_reducible apply w_And) | (with_reducible apply w_Or) | (with_reducible apply w_Not) | (with_reducible apply w_If) | (with_reducible apply w_tup) | (with_reducible apply w_lstF) | (with_reducible apply w_noP) | (with_reducible apply w_part) | (with_reducible apply w_slice) | (with_reducible apply w_isN) | (with_reducible apply w_add) | (with_reducible apply w_sub) | (with_reducible apply w_gt) | (with_reducible apply w_lt) | (with_reducible apply w_ge) | (with_reducible apply w_le) | (with_reducible apply w_eqI) | (with_reducible apply w_neI) | (with_reducible apply w_eqS) | (with_reducible apply w_neS) | ((with_reducible apply x_ixT); exact rfl; exact rfl) | ((with_reducible apply x_ixL); exact rfl; exact rfl) | ((with_reducible apply x_lenT); exact rfl) | ((with_reducible apply x_lenL); exact rfl) | (with_reducible apply w_intI) | (with_reducible apply w_intB) | (with_reducible apply w_tupT) | (with_reducible apply w_tupL) | (with_reducible apply w_slT) | (with_reducible apply w_slL) | (with_reducible apply w_iSeq) | (with_reducible apply w_iRg1) | (with_reducible apply ex_bl) | (with_reducible apply ex_int) | (with_reducible apply ex_neg) | (with_reducible refine And.intro (Nat.le_of_ble_eq_true rfl) ?_) | (with_reducible refine And.intro (rfl : List.length _ = _) ?_))
      refine w_rule (hB.ext _) hne (by rw [List.getElem?_append_left (by simp)]; exact hget _) (by omega) (by omega) n3 c8 t2 t3 fun s8 r hB8 hr => ?_
      obtain ⟨s9, rfl, hB9⟩ := hB8.unext hB7.1
      refine ⟨s9, rfl, rs ++ [r], by simp, by simp [r1], hB9, fun y hy => ?_⟩
      rcases List.mem_append.mp hy with hy | hy
      · exact r3 y hy
      · rw [List.mem_singleton.mp hy]
        exact hr
    · rintro acc s' ⟨rs, rfl, r1, hB, r3⟩
      refine ⟨plL_map pl_R rs, ?_, ?_⟩
      · have := hB7.pop2 (ext := []) hB
        rwa [List.append_nil] at this
      · refine o_ret ?_
        repeat (first | (with_reducible apply w_bin) | (with_reducible apply w_m1) | (with_reducible apply w_un) | (with_reducible apply w_cons) | (with_reducible apply w_nil) | (with_reducible apply w_callN) | ((with_reducible apply w_var); exact rfl) | (with_reducible apply w_c) | (with_reducible apply w_T) | (with_reducible apply w_NotT) | (with_reducible apply w_AndT) | (with_reducible apply w_OrT) | (with_reducible apply w_And) | (with_reducible apply w_Or) | (with_reducible apply w_Not) | (with_reducible apply w_If) | (with_reducible apply w_tup) | (with_reducible apply w_lstF) | (with_reducible apply w_noP) | (with_reducible apply w_part) | (with_reducible apply w_slice) | (with_reducible apply w_isN) | (with_reducible apply w_add) | (with_reducible apply w_sub) | (with_reducible apply w_gt) | (with_reducible apply w_lt) | (with_reducible apply w_ge) | (with_reducible apply w_le) | (with_reducible apply w_eqI) | (with_reducible apply w_neI) | (with_reducible apply w_eqS) | (with_reducible apply w_neS) | ((with_reducible apply x_ixT); exact rfl; exact rfl) | ((with_reducible apply x_ixL); exact rfl; exact rfl) | ((with_reducible apply x_lenT); exact rfl) | ((with_reducible apply x_lenL); exact rfl) | (with_reducible apply w_intI) | (with_reducible apply w_intB) | (with_reducible apply w_tupT) | (with_reducible apply w_tupL) | (with_reducible apply w_slT) | (with_reducible apply w_slL) | (with_reducible apply w_iSeq) | (with_reducible apply w_iRg1) | (with_reducible apply ex_bl) | (with_reducible apply ex_int) | (with_reducible apply ex_neg) | (with_reducible refine And.intro (Nat.le_of_ble_eq_true rfl) ?_) | (with_reducible refine And.intro (rfl : List.length _ = _) ?_))
        refine w_tupR ((hB.get hne).trans (hget _)) ?_
        repeat (first | (with_reducible apply w_bin) | (with_reducible apply w_m1) | (with_reducible apply w_un) | (with_reducible apply w_cons) | (with_reducible apply w_nil) | (with_reducible apply w_callN) | ((with_reducible apply w_var); exact rfl) | (with_reducible apply w_c) | (with_reducible apply w_T) | (with_reducible apply w_NotT) | (with_reducible apply w_AndT) | (with_reducible apply w_OrT) | (with_reducible apply w_And) | (with_reducible apply w_Or) | (with_reducible apply w_Not) | (with_reducible apply w_If) | (with_reducible apply w_tup) | (with_reducible apply w_lstF) | (with_reducible apply w_noP) | (with_reducible apply w_part) | (with_reducible apply w_slice) | (with_reducible apply w_isN) | (with_reducible apply w_add) | (with_reducible apply w_sub) | (with_reducible apply w_gt) | (with_reducible apply w_lt) | (with_reducible apply w_ge) | (with_reducible apply w_le) | (with_reducible apply w_eqI) | (with_reducible apply w_neI) | (with_reducible apply w_eqS) | (with_reducible apply w_neS) | ((with_reducible apply x_ixT); exact rfl; exact rfl) | ((with_reducible apply x_ixL); exact rfl; exact rfl) | ((with_reducible apply x_lenT); exact rfl) | ((with_reducible apply x_lenL); exact rfl) | (with_reducible apply w_intI) | (with_reducible apply w_intB) | (with_reducible apply w_tupT) | (with_reducible apply w_tupL) | (with_reducible apply w_slT) | (with_reducible apply w_slL) | (with_reducible apply w_iSeq) | (with_reducible apply w_iRg1) | (with_reducible apply ex_bl) | (with_reducible apply ex_int) | (with_reducible apply ex_neg) | (with_reducible refine And.intro (Nat.le_of_ble_eq_true rfl) ?_) | (with_reducible refine And.intro (rfl : List.length _ = _) ?_))
        refine fin_bx (d := .tup [tP ⟨ps, chs, rs⟩, tC ⟨ps, chs, rs⟩, tR ⟨ps, chs, rs⟩]) h hB (pl_N _) fun s9 hB9 => q s9 ⟨ps, chs, rs⟩ hB9 ?_
        have hlen : rs.length ≤ 40 := by
          rw [r1]
          simp [rngD]
          omega
        exact { p1 := by show 1 ≤ ps.length; omega
                p5 := by show ps.length ≤ 5; omega
                pn := fun p hp => ⟨(pool7_ok p.1 (n2.mem_iff.mp (List.mem_append_right _ (List.mem_map_of_mem hp)))).1, (pool7_ok p.1 (n2.mem_iff.mp (List.mem_append_right _ (List.mem_map_of_mem hp)))).2, n3 p hp⟩
                pd := (List.nodup_append.mp nd).2.1
                c8 := c8
                cn := fun c hc => ⟨(pool9_ok c.nm (cp c hc)).1, (pool9_ok c.nm (cp c hc)).2, by show c.giver < ps.length; rw [n1]; exact (cn c hc).1, by show c.taker < ps.length; rw [n1]; exact (cn c hc).2.1, (cn c hc).2.2⟩
                cd := cd
                r40 := hlen
                rn := r3 }
end
end K

namespace K
open PySem Cw
section
variable {Q : D → Sto → Prop} {s : Sto}
theorem w_box {ns : List Int} {a : Int} (hn : ns.length ≤ 63) (q : Q (.ref s.length) (s ++ [.lst (boxL 0 0 a 0 a ns)])) : wp (m__law_box [.scr ns, .int a] s) Q := by
  have hc : mComp false (iSeq (mVar 0)) [2] (.nm 2) mYes (m1 oInt (mVar 2)) [some (.scr ns), some (.int a), none] s = .ok (.lst ((ns.map D.int).map id)) s := by
    refine mcomp_all (lock := []) (items := ns.map D.int) id ?_ (fun _ => rfl) ?_ ?_ ?_
    · rfl
    · rw [List.length_map]
      show _ < 16777216
      omega
    · intro x hx
      obtain ⟨i, _, rfl⟩ := List.mem_map.mp hx
      exact ⟨_, rfl, fun _ => rfl⟩
    · rw [List.map_id, plL_iff]
      intro x hx
      obtain ⟨i, _, rfl⟩ := List.mem_map.mp hx
      rfl
  rw [List.map_id] at hc
  refine w_eq (a := .ref s.length) (st := s ++ [.lst (boxL 0 0 a 0 a ns)]) ?_ q
  unfold m__law_box runF popR
  rw [if_pos rfl]
  show bodyR (mb__law_box [some (.scr ns), some (.int a), none] s) = _
  unfold mb__law_box
  generalize mComp false (iSeq (mVar 0)) [2] (.nm 2) mYes (m1 oInt (mVar 2)) = C at hc ⊢
  simp [bodyR, sRet, sRetN, sSeq, sIf, sNil, sExpr, sSet, sRaise, mAnd, mOr, mNot, mIf, mAndT, mOrT, mNotT, mT, mIsN, mChain, m1, mVar, mC, mBin, mUn, mCallN, mCons, mNil, mTup, mSlice, mPart, mNoP, oIsi, oIsi2, tyOf, oLen, oInt, oLe, oLt, oGt, oGe, oCmp, oIx, oSub, oFdiv, oMod, oEq, eqD, oSl, pu, Res.bind, Res.toS, lift, subT, mYes, mLst, mkL, hc, LIM, boxL]
theorem repD_one {α : Type} (n : Nat) (x : α) : repD (n : Int) [x] = List.replicate n x := by
  unfold repD
  rw [Int.toNat_natCast]
  induction n with
  | zero => rfl
  | succ n ih => rw [List.replicate_succ, List.flatten_cons, ih, List.replicate_succ]; rfl
theorem w_repT {n : Nat} {x : D} {st : Sto} (h : n ≤ 1000) (q : Q (.tup (List.replicate n x)) st) : wp (lift (oRep false (.tup [x]) (.int n) st)) Q := by
  refine w_lift (d := .tup (List.replicate n x)) (s := st) ?_ q
  have e : (0 : Int) ≤ (n : Int) ∧ (n : Int) ≤ 1000 := by omega
  unfold oRep mulT
  simp [e.1, e.2, repD_one]
theorem w_repL {n : Nat} {x : D} {st : Sto} (h : n < 1000) (q : Q (.lst (List.replicate n x)) st) : wp (lift (oRep false (.lst [x]) (.int n) st)) Q := by
  refine w_lift (d := .lst (List.replicate n x)) (s := st) ?_ q
  rw [← repD_one]
  refine if_pos ⟨al_small (by omega), ?_⟩
  rw [List.length_singleton, Int.toNat_natCast, Nat.one_mul]
  exact Nat.le_trans (Nat.le_of_lt h) (Nat.le_of_ble_eq_true rfl)
def startD (N : Net) : D := .tup [.tup (List.replicate N.ps.length (.int 0)), .tup (List.replicate N.cs.length (.int 0)), .tup (List.replicate N.cs.length (.tup []))]
theorem all_rep {α : Type} {p : α → Bool} {n : Nat} {x : α} (h : p x = true) : (List.replicate n x).all p = true := by
  rw [List.all_eq_true]
  intro y hy
  rw [List.eq_of_mem_replicate hy]
  exact h
theorem pl_start (N : Net) : pl (startD N) = true := by
  have e : ∀ (n : Nat) (x : D), pl x = true → plL (List.replicate n x) = true := fun n x h => by
    rw [plL_iff]
    intro y hy
    rw [List.eq_of_mem_replicate hy]
    exact h
  simp [startD, pl, plL, e _ (D.int 0) rfl, e _ (D.tup []) rfl]
theorem dm_start (N : Net) (h : NetOk N) : dm 3 (startD N) = true := by
  have h5 := h.p5
  have h8 := h.c8
  have e1 : N.ps.length < 100000 := by omega
  have e2 : N.cs.length < 100000 := by omega
  simp [startD, dm, e1, e2]
theorem w_start {N : Net} (h : NetOk N) (q : Q (startD N) s) : wp (m_start [netD N] s) Q := by
  have h5 := h.p5
  have h8 := h.c8
  unfold m_start
  refine w_run ?_
  show wo (mb_start [some (netD N), none] s) _ _ _ _
  unfold mb_start
  refine o_seq (o_set ?_)
  refine w_m1 (w_fld (w_var rfl ⟨_, fld_c N s, w_lenT ?_⟩))
  refine o_ret ?_
  refine w_tup (w_cons (w_bin (w_tup (w_cons (w_c (w_nil ⟨by decide, ?_⟩))))))
  refine w_m1 (w_fld (w_var rfl ⟨_, fld_p N s, w_lenT ?_⟩))
  rw [List.length_map, List.length_map]
  refine w_repT (by omega) ?_
  refine w_cons (w_bin (w_tup (w_cons (w_c (w_nil ⟨by decide, ?_⟩)))))
  refine w_var rfl (w_repT (by omega) ?_)
  refine w_cons (w_bin (w_tup (w_cons (w_tup (w_nil ⟨by decide, w_nil ⟨by decide, ?_⟩⟩)))))
  refine w_var rfl (w_repT (by omega) ?_)
  refine w_nil ⟨Nat.le_of_ble_eq_true rfl, ?_⟩
  exact fin_same (d := startD N) (pl_start N) q
end
end K

namespace K
open PySem Cw
/-! ### membership -/
section
variable {α : Type} (f : α → D) (g : α → PyData)
theorem pyL_map (hf : ∀ a, toPy (f a) = some (g a)) : ∀ xs : List α, toPyL (xs.map f) = some (xs.map g)
  | [] => by simp [toPyL]
  | x :: xs => by simp [toPyL, hf, pyL_map hf xs]
theorem layL_map (hc : ∀ a, PyData.canLay0 (g a) = true) : ∀ xs : List α, PyData.canLayAll0 (xs.map g) = true
  | [] => by simp [PyData.canLayAll0]
  | x :: xs => by
    have h2 := layL_map hc xs
    have h1 := hc x
    simp only [List.map_cons, PyData.canLayAll0, h2, Bool.and_true]
    exact h1
theorem depL_map (hd : ∀ a, PyData.depth (g a) ≤ 1) : ∀ xs : List α, PyData.depthAll (xs.map g) ≤ 1
  | [] => by simp [PyData.depthAll]
  | x :: xs => by
    have := depL_map hd xs
    have := hd x
    simp only [List.map_cons, PyData.depthAll]
    omega
theorem in_map (hf : ∀ a, toPy (f a) = some (g a)) (hc : ∀ a, PyData.canLay0 (g a) = true) (hd : ∀ a, PyData.depth (g a) ≤ 1) (he : ∀ a b, PyData.eqv (g a) (g b) = true ↔ a = b) (hp : ∀ st a, pyOf st (f a) = toPy (f a)) (hs : ∀ a x, f a ≠ .str x) (st : Sto) (x : α) (xs : List α) (c : Bool) (hx : c = true ↔ x ∈ xs) :
    inD st (f x) (.tup (xs.map f)) = some c ∧ inD st (f x) (.lst (xs.map f)) = some c := by
  have e1 : pyOf st (f x) = some (g x) := by rw [hp, hf]
  have e2 : pyOf st (.lst (xs.map f)) = some (.list (xs.map g)) := by
    show toPy _ = _
    unfold toPy
    rw [pyL_map f g hf]
  have e2' : pyOf st (.tup (xs.map f)) = some (.tuple (xs.map g)) := by
    show toPy _ = _
    unfold toPy
    rw [pyL_map f g hf]
  have s1 : SeqAt.shaped (g x) = true := by
    unfold SeqAt.shaped
    have := hd x
    rw [hc, Bool.true_and, decide_eq_true_eq]
    omega
  have s2 : SeqAt.shaped (.list (xs.map g)) = true := by
    have h1 := layL_map g hc xs
    have h2 := depL_map g hd xs
    unfold SeqAt.shaped
    rw [Bool.and_eq_true]
    refine ⟨by unfold PyData.canLay0; exact h1, decide_eq_true ?_⟩
    unfold PyData.depth
    omega
  have s2' : SeqAt.shaped (.tuple (xs.map g)) = true := by
    have h1 := layL_map g hc xs
    have h2 := depL_map g hd xs
    unfold SeqAt.shaped
    rw [Bool.and_eq_true]
    refine ⟨by unfold PyData.canLay0; exact h1, decide_eq_true ?_⟩
    unfold PyData.depth
    omega
  have e3 : (xs.map g).any (fun y => PyData.eqv y (g x)) = c := by
    rw [Bool.eq_iff_iff, hx, List.any_eq_true]
    constructor
    · rintro ⟨y, hy, e⟩
      obtain ⟨z, hz, rfl⟩ := List.mem_map.mp hy
      rw [← (he z x).mp e]
      exact hz
    · intro h
      exact ⟨g x, List.mem_map_of_mem h, (he x x).mpr rfl⟩
  have hne := hs x
  refine ⟨?_, ?_⟩
  · unfold inD
    split
    · rename_i h _ _ h2
      cases h2
    · simp [e1, e2', s1, s2', itemsPy, e3]
  · unfold inD
    split
    · rename_i h _ _ h2
      cases h2
    · simp [e1, e2, s1, s2, itemsPy, e3]
end
def encI (n : Nat) : D := .int n
def encM (b : Bool) (m : Nat × Nat) : D := mk b [.int m.1, .int m.2]
theorem in_nats (st : Sto) (k : Nat) (ks : List Nat) : inD st (.int k) (.tup (ks.map encI)) = some (decide (k ∈ ks)) ∧ inD st (.int k) (.lst (ks.map encI)) = some (decide (k ∈ ks)) :=
  in_map encI (fun n => .int n) (fun a => by simp [encI, toPy]) (fun a => by simp [PyData.canLay0]) (fun a => by simp [PyData.depth]) (fun a b => by
    simp [PyData.eqv]
    omega) (fun st a => rfl) (fun a x h => by cases h) st k ks _ (by simp)
theorem in_msgs (st : Sto) (m : Nat × Nat) (ms : List (Nat × Nat)) : inD st (encM true m) (.tup (ms.map (encM true))) = some (decide (m ∈ ms)) ∧ inD st (encM true m) (.lst (ms.map (encM true))) = some (decide (m ∈ ms)) :=
  in_map (encM true) (fun m => .tuple [.int m.1, .int m.2]) (fun a => by simp [encM, mk, toPy, toPyL]) (fun a => by simp [PyData.canLay0, PyData.canLayAll0]) (fun a => by simp [PyData.depth, PyData.depthAll]) (fun a b => by
    obtain ⟨a1, a2⟩ := a
    obtain ⟨b1, b2⟩ := b
    simp [PyData.eqv, PyData.eqvAll]
    omega) (fun st a => rfl) (fun a x h => by cases h) st m ms _ (by simp)
/-! ### comprehensions without effects, of data -/
theorem w_compF {α : Type} {fi : EM IterD} {vs : List Nat} {t : Tgt} {ft : EM Bool} {fe : EM D} {env : En} {st : Sto} {Q : D → Sto → Prop} (xs : List α) (enc : α → D) (p : α → Bool) (g : α → D) (hi : wp (fi env st) fun it s => it = ⟨xs.map enc, []⟩ ∧ s = st) (hl : xs.length < 1000000)
    (he : ∀ x ∈ xs, ∃ e1, tgtD t (enc x) (wipeE env vs) = some e1 ∧ ∀ s', wp (ft e1 s') fun c s2 => c = p x ∧ s2 = s' ∧ (p x = true → wp (fe e1 s') fun d s3 => d = g x ∧ s3 = s'))
    (hp : ∀ x ∈ xs, pl (g x) = true) (q : Q (.lst ((xs.filter p).map g)) st) : wp (mComp false fi vs t ft fe env st) Q := by
  refine w_comp (w_mono hi ?_)
  rintro it s ⟨rfl, rfl⟩
  refine ⟨fun j acc s' => acc = ((xs.take j).filter p).map g ∧ s' = s, ?_, ⟨rfl, rfl⟩, ?_, ?_, ?_⟩
  · show (xs.map enc).length < 16777216
    rw [List.length_map]
    omega
  · rintro j acc s' ⟨rfl, rfl⟩
    refine ⟨?_, rfl, rfl⟩
    rw [List.length_map]
    exact Nat.le_trans (List.length_filter_le _ _) (by rw [List.length_take]; omega)
  · rintro j d hd acc s' ⟨rfl, rfl⟩
    simp only [List.getElem?_map] at hd
    obtain ⟨x, hx, rfl⟩ := Option.map_eq_some_iff.mp hd
    obtain ⟨e1, h1, h2⟩ := he x (List.mem_of_getElem? hx)
    have ht : xs.take (j + 1) = xs.take j ++ [x] := by rw [List.take_add_one, hx]; rfl
    refine ⟨e1, h1, w_mono (h2 _) ?_⟩
    rintro c s2 ⟨rfl, rfl, h3⟩
    refine ⟨fun hc => w_mono (h3 hc) ?_, fun hc => ⟨s', rfl, ?_, rfl⟩⟩
    · rintro d s3 ⟨rfl, rfl⟩
      refine ⟨s', rfl, ?_, rfl⟩
      rw [ht, List.filter_append, List.map_append]
      simp [hc]
    · rw [ht, List.filter_append]
      simp [hc]
  · rintro acc s' ⟨rfl, rfl⟩
    have ht : xs.take (List.map enc xs).length = xs := by rw [List.length_map, List.take_length]
    simp only [ht]
    refine ⟨?_, popB_refl _, q⟩
    rw [plL_iff]
    intro d hd
    obtain ⟨x, hx, rfl⟩ := List.mem_map.mp hd
    exact hp x (List.mem_filter.mp hx).1
/-- without a test -/
theorem w_compA {α : Type} {fi : EM IterD} {vs : List Nat} {t : Tgt} {fe : EM D} {env : En} {st : Sto} {Q : D → Sto → Prop} (xs : List α) (enc : α → D) (g : α → D) (hi : wp (fi env st) fun it s => it = ⟨xs.map enc, []⟩ ∧ s = st) (hl : xs.length < 1000000)
    (he : ∀ x ∈ xs, ∃ e1, tgtD t (enc x) (wipeE env vs) = some e1 ∧ ∀ s', wp (fe e1 s') fun d s3 => d = g x ∧ s3 = s')
    (hp : ∀ x ∈ xs, pl (g x) = true) (q : Q (.lst (xs.map g)) st) : wp (mComp false fi vs t mYes fe env st) Q := by
  refine w_compF xs enc (fun _ => true) g hi hl (fun x hx => ?_) hp (by rw [List.filter_eq_self.mpr (fun _ _ => rfl)]; exact q)
  obtain ⟨e1, h1, h2⟩ := he x hx
  exact ⟨e1, h1, fun s' => ⟨rfl, rfl, fun _ => h2 s'⟩⟩
/-! ### sequences of either kind -/
section
variable {b : Bool} {ds : List D} {i : Int} {d : D} {st : Sto} {Q : D → Sto → Prop}
theorem m_ix (h : L2.atI ds i = some d) (q : Q d st) : wp (lift (oIx (mk b ds) (.int i) st)) Q := by
  cases b
  · exact w_ixL h q
  · exact w_ixT h q
theorem m_len (q : Q (.int ds.length) st) : wp (lift (oLen (mk b ds) st)) Q := by
  cases b
  · exact q
  · exact q
theorem m_tup (q : Q (.tup ds) st) : wp (lift (oTuple (mk b ds) st)) Q := by
  cases b
  · exact q
  · exact q
theorem m_lst (q : Q (.lst ds) st) : wp (lift (oList false (mk b ds) st)) Q := by
  cases b
  · exact q
  · exact q
theorem m_sl {lo hi : Option Int} (q : Q (mk b (cutD ds lo hi)) st) : wp (lift (oSl false (mk b ds) lo hi st)) Q := by
  cases b
  · exact q
  · exact q
theorem m_iter : iterOf st (mk b ds) = some ⟨ds, []⟩ := by cases b <;> rfl
end
theorem pl_mk {b : Bool} {ds : List D} (h : plL ds = true) : pl (mk b ds) = true := by cases b <;> simpa [mk, pl] using h
/-! ### worlds -/
structure Wd where
  st : List Nat
  se : List Nat
  pr : List (List (Nat × Nat))
def encN (b : Bool) (l : List Nat) : D := mk b (l.map encI)
def encRow (b : Bool) (r : List (Nat × Nat)) : D := mk b (r.map (encM b))
def encPr (b : Bool) (p : List (List (Nat × Nat))) : D := mk b (p.map (encRow b))
def encW (b : Bool) (w : Wd) : D := mk b [encN b w.st, encN b w.se, encPr b w.pr]
/-- of the right size, rows no longer than n -/
structure WdOk (N : Net) (n : Nat) (w : Wd) : Prop where
  st : w.st.length = N.ps.length
  se : w.se.length = N.cs.length
  pr : w.pr.length = N.cs.length
  row : ∀ r ∈ w.pr, r.length ≤ n
def rowOf (w : Wd) (c : Nat) : List (Nat × Nat) := w.pr[c]?.getD []
def chK (N : Net) (c : Nat) : Nat := match N.cs[c]? with
  | some ch => ch.kind
  | none => 0
def ord (k : Nat) : Bool := decide (kindOf k ∈ ([("order" : Str), "order lossy"] : List Str))
def opn (N : Net) (w : Wd) (c : Nat) : List (Nat × Nat) := if ord (chK N c) = true then (rowOf w c).take 1 else rowOf w c
theorem pl_N1 (b : Bool) (l : List Nat) : pl (encN b l) = true := pl_mk (plL_map (fun _ => rfl) l)
theorem pl_M1 (b : Bool) (m : Nat × Nat) : pl (encM b m) = true := pl_mk (by simp [plL, pl])
theorem pl_Row (b : Bool) (r : List (Nat × Nat)) : pl (encRow b r) = true := pl_mk (plL_map (pl_M1 b) r)
theorem pl_Pr (b : Bool) (r : List (List (Nat × Nat))) : pl (encPr b r) = true := pl_mk (plL_map (pl_Row b) r)
theorem pl_W (b : Bool) (w : Wd) : pl (encW b w) = true := pl_mk (by simp [plL, pl_N1, pl_Pr])
theorem row_at {w : Wd} {c : Nat} (h : c < w.pr.length) : w.pr[c]? = some (rowOf w c) := by
  unfold rowOf
  rw [List.getElem?_eq_getElem h]
  rfl
theorem row_le {N : Net} {n : Nat} {w : Wd} (h : WdOk N n w) (c : Nat) : (rowOf w c).length ≤ n := by
  unfold rowOf
  cases e : w.pr[c]? with
  | none => exact Nat.zero_le _
  | some r => exact h.row r (List.mem_of_getElem? e)
theorem opn_le {N : Net} {n : Nat} {w : Wd} (h : WdOk N n w) (c : Nat) : (opn N w c).length ≤ n := by
  unfold opn
  split
  · rw [List.length_take]
    have := row_le h c
    omega
  · exact row_le h c
section
variable {N : Net} {n c : Nat} {w : Wd} {b : Bool} {s : Sto} {Q : D → Sto → Prop}
theorem in_ord (st : Sto) (k : Nat) : inD st (.str (kindOf k)) (.tup [.str "order", .str "order lossy"]) = some (ord k) ∧ inD st (.str (kindOf k)) (.lst [.str "order", .str "order lossy"]) = some (ord k) :=
  in_strs st (kindOf k) ["order", "order lossy"] (kind_chars k) (by decide +kernel)
theorem ch_at (hc : c < N.cs.length) : ∃ ch, N.cs[c]? = some ch ∧ chK N c = ch.kind := by
  refine ⟨N.cs[c], by simp [hc], ?_⟩
  unfold chK
  rw [List.getElem?_eq_getElem hc]
theorem w_ordered (hc : c < N.cs.length) (q : Q (.bl (ord (chK N c))) s) : wp (m_is_ordered [netD N, .int c] s) Q := by
  obtain ⟨ch, h, e⟩ := ch_at hc
  rw [e] at q
  have hk := (in_ord s ch.kind).1
  unfold m_is_ordered
  refine w_run ?_
  show wo (mb_is_ordered [some (netD N), some (.int c)] s) _ _ _ _
  unfold mb_is_ordered
  refine o_ret (w_bin (w_bin (w_bin (w_fld (w_var rfl ⟨_, fld_c N s, w_var rfl (w_ixT (at_C N h) (w_c (w_ixT rfl ?_)))⟩)))))
  repeat (first | (with_reducible apply w_bin) | (with_reducible apply w_m1) | (with_reducible apply w_un) | (with_reducible apply w_cons) | (with_reducible apply w_nil) | (with_reducible apply w_callN) | ((with_reducible apply w_var); exact rfl) | (with_reducible apply w_c) | (with_reducible apply w_T) | (with_reducible apply w_NotT) | (with_reducible apply w_AndT) | (with_reducible apply w_OrT) | (with_reducible apply w_And) | (with_reducible apply w_Or) | (with_reducible apply w_Not) | (with_reducible apply w_If) | (with_reducible apply w_tup) | (with_reducible apply w_lstF) | (with_reducible apply w_noP) | (with_reducible apply w_part) | (with_reducible apply w_slice) | (with_reducible apply w_isN) | (with_reducible apply w_add) | (with_reducible apply w_sub) | (with_reducible apply w_gt) | (with_reducible apply w_lt) | (with_reducible apply w_ge) | (with_reducible apply w_le) | (with_reducible apply w_eqI) | (with_reducible apply w_neI) | (with_reducible apply w_eqS) | (with_reducible apply w_neS) | ((with_reducible apply x_ixT); exact rfl; exact rfl) | ((with_reducible apply x_ixL); exact rfl; exact rfl) | ((with_reducible apply x_lenT); exact rfl) | ((with_reducible apply x_lenL); exact rfl) | (with_reducible apply w_intI) | (with_reducible apply w_intB) | (with_reducible apply w_tupT) | (with_reducible apply w_tupL) | (with_reducible apply w_slT) | (with_reducible apply w_slL) | (with_reducible apply w_iSeq) | (with_reducible apply w_iRg1) | (with_reducible apply ex_bl) | (with_reducible apply ex_int) | (with_reducible apply ex_neg) | (with_reducible refine And.intro (Nat.le_of_ble_eq_true rfl) ?_) | (with_reducible refine And.intro (rfl : List.length _ = _) ?_))
  refine w_lift (d := .bl (ord ch.kind)) (s := s) ?_ (fin_same rfl q)
  unfold kindOf at hk
  show oIn false (.str (kinds[ch.kind]?.getD "order")) (.tup [.str "order", .str "order lossy"]) s = _
  unfold oIn
  rw [hk]
  rfl
theorem w_lossy (hc : c < N.cs.length) (q : Q (.bl (lossy (chK N c))) s) : wp (m_is_lossy [netD N, .int c] s) Q := by
  obtain ⟨ch, h, e⟩ := ch_at hc
  rw [e] at q
  exact w_eq (l_is_lossy N c ch s h) q
theorem at_enc {α : Type} {f : α → D} {l : List α} {i : Nat} {x : α} (h : l[i]? = some x) : L2.atI (l.map f) (i : Int) = some (f x) := by rw [at_nat, List.getElem?_map, h]; rfl
theorem w_open (h : WdOk N n w) (hn : n < 10000) (hc : c < N.cs.length) (q : Q (.tup ((opn N w c).map (encM true))) s) : wp (m_open_messages_of [netD N, encW b w, .int c] s) Q := by
  have hrow := row_at (w := w) (c := c) (by rw [h.pr]; exact hc)
  have hlen := row_le h c
  unfold m_open_messages_of
  refine w_run ?_
  show wo (mb_open_messages_of [some (netD N), some (encW b w), some (.int c), none, none] s) _ _ _ _
  unfold mb_open_messages_of
  refine o_seq (o_set (w_m1 ?_))
  refine w_compA (rowOf w c) (encM b) (encM true) ?_ (by omega) ?_ (fun x _ => pl_M1 true x) ?_
  · refine w_iSeq ?_
    refine w_bin (w_bin (w_var rfl (w_c (m_ix rfl (w_var rfl (m_ix (at_enc hrow) ⟨_, m_iter, rfl, rfl⟩))))))
  · intro x _
    exact ⟨_, rfl, fun s' => w_m1 (w_var rfl (m_tup ⟨rfl, rfl⟩))⟩
  repeat (first | (with_reducible apply w_bin) | (with_reducible apply w_m1) | (with_reducible apply w_un) | (with_reducible apply w_cons) | (with_reducible apply w_nil) | (with_reducible apply w_callN) | ((with_reducible apply w_var); exact rfl) | (with_reducible apply w_c) | (with_reducible apply w_T) | (with_reducible apply w_NotT) | (with_reducible apply w_AndT) | (with_reducible apply w_OrT) | (with_reducible apply w_And) | (with_reducible apply w_Or) | (with_reducible apply w_Not) | (with_reducible apply w_If) | (with_reducible apply w_tup) | (with_reducible apply w_lstF) | (with_reducible apply w_noP) | (with_reducible apply w_part) | (with_reducible apply w_slice) | (with_reducible apply w_isN) | (with_reducible apply w_add) | (with_reducible apply w_sub) | (with_reducible apply w_gt) | (with_reducible apply w_lt) | (with_reducible apply w_ge) | (with_reducible apply w_le) | (with_reducible apply w_eqI) | (with_reducible apply w_neI) | (with_reducible apply w_eqS) | (with_reducible apply w_neS) | ((with_reducible apply x_ixT); exact rfl; exact rfl) | ((with_reducible apply x_ixL); exact rfl; exact rfl) | ((with_reducible apply x_lenT); exact rfl) | ((with_reducible apply x_lenL); exact rfl) | (with_reducible apply w_intI) | (with_reducible apply w_intB) | (with_reducible apply w_tupT) | (with_reducible apply w_tupL) | (with_reducible apply w_slT) | (with_reducible apply w_slL) | (with_reducible apply w_iSeq) | (with_reducible apply w_iRg1) | (with_reducible apply ex_bl) | (with_reducible apply ex_int) | (with_reducible apply ex_neg) | (with_reducible refine And.intro (Nat.le_of_ble_eq_true rfl) ?_) | (with_reducible refine And.intro (rfl : List.length _ = _) ?_))
  refine o_ret (w_If (w_T ?_))
  repeat (first | (with_reducible apply w_bin) | (with_reducible apply w_m1) | (with_reducible apply w_un) | (with_reducible apply w_cons) | (with_reducible apply w_nil) | (with_reducible apply w_callN) | ((with_reducible apply w_var); exact rfl) | (with_reducible apply w_c) | (with_reducible apply w_T) | (with_reducible apply w_NotT) | (with_reducible apply w_AndT) | (with_reducible apply w_OrT) | (with_reducible apply w_And) | (with_reducible apply w_Or) | (with_reducible apply w_Not) | (with_reducible apply w_If) | (with_reducible apply w_tup) | (with_reducible apply w_lstF) | (with_reducible apply w_noP) | (with_reducible apply w_part) | (with_reducible apply w_slice) | (with_reducible apply w_isN) | (with_reducible apply w_add) | (with_reducible apply w_sub) | (with_reducible apply w_gt) | (with_reducible apply w_lt) | (with_reducible apply w_ge) | (with_reducible apply w_le) | (with_reducible apply w_eqI) | (with_reducible apply w_neI) | (with_reducible apply w_eqS) | (with_reducible apply w_neS) | ((with_reducible apply x_ixT); exact rfl; exact rfl) | ((with_reducible apply x_ixL); exact rfl; exact rfl) | ((with_reducible apply x_lenT); exact rfl) | ((with_reducible apply x_lenL); exact rfl) | (with_reducible apply w_intI) | (with_reducible apply w_intB) | (with_reducible apply w_tupT) | (with_reducible apply w_tupL) | (with_reducible apply w_slT) | (with_reducible apply w_slL) | (with_reducible apply w_iSeq) | (with_reducible apply w_iRg1) | (with_reducible apply ex_bl) | (with_reducible apply ex_int) | (with_reducible apply ex_neg) | (with_reducible refine And.intro (Nat.le_of_ble_eq_true rfl) ?_) | (with_reducible refine And.intro (rfl : List.length _ = _) ?_))
  refine w_ordered hc ?_
  repeat (first | (with_reducible apply w_bin) | (with_reducible apply w_m1) | (with_reducible apply w_un) | (with_reducible apply w_cons) | (with_reducible apply w_nil) | (with_reducible apply w_callN) | ((with_reducible apply w_var); exact rfl) | (with_reducible apply w_c) | (with_reducible apply w_T) | (with_reducible apply w_NotT) | (with_reducible apply w_AndT) | (with_reducible apply w_OrT) | (with_reducible apply w_And) | (with_reducible apply w_Or) | (with_reducible apply w_Not) | (with_reducible apply w_If) | (with_reducible apply w_tup) | (with_reducible apply w_lstF) | (with_reducible apply w_noP) | (with_reducible apply w_part) | (with_reducible apply w_slice) | (with_reducible apply w_isN) | (with_reducible apply w_add) | (with_reducible apply w_sub) | (with_reducible apply w_gt) | (with_reducible apply w_lt) | (with_reducible apply w_ge) | (with_reducible apply w_le) | (with_reducible apply w_eqI) | (with_reducible apply w_neI) | (with_reducible apply w_eqS) | (with_reducible apply w_neS) | ((with_reducible apply x_ixT); exact rfl; exact rfl) | ((with_reducible apply x_ixL); exact rfl; exact rfl) | ((with_reducible apply x_lenT); exact rfl) | ((with_reducible apply x_lenL); exact rfl) | (with_reducible apply w_intI) | (with_reducible apply w_intB) | (with_reducible apply w_tupT) | (with_reducible apply w_tupL) | (with_reducible apply w_slT) | (with_reducible apply w_slL) | (with_reducible apply w_iSeq) | (with_reducible apply w_iRg1) | (with_reducible apply ex_bl) | (with_reducible apply ex_int) | (with_reducible apply ex_neg) | (with_reducible refine And.intro (Nat.le_of_ble_eq_true rfl) ?_) | (with_reducible refine And.intro (rfl : List.length _ = _) ?_))
  have e1 : ∀ l : List D, cutD l none (some 1) = l.take 1 := fun l => cut_to l (k := 1)
  refine ⟨fun ho => ?_, fun ho => ?_⟩
  · repeat (first | (with_reducible apply w_bin) | (with_reducible apply w_m1) | (with_reducible apply w_un) | (with_reducible apply w_cons) | (with_reducible apply w_nil) | (with_reducible apply w_callN) | ((with_reducible apply w_var); exact rfl) | (with_reducible apply w_c) | (with_reducible apply w_T) | (with_reducible apply w_NotT) | (with_reducible apply w_AndT) | (with_reducible apply w_OrT) | (with_reducible apply w_And) | (with_reducible apply w_Or) | (with_reducible apply w_Not) | (with_reducible apply w_If) | (with_reducible apply w_tup) | (with_reducible apply w_lstF) | (with_reducible apply w_noP) | (with_reducible apply w_part) | (with_reducible apply w_slice) | (with_reducible apply w_isN) | (with_reducible apply w_add) | (with_reducible apply w_sub) | (with_reducible apply w_gt) | (with_reducible apply w_lt) | (with_reducible apply w_ge) | (with_reducible apply w_le) | (with_reducible apply w_eqI) | (with_reducible apply w_neI) | (with_reducible apply w_eqS) | (with_reducible apply w_neS) | ((with_reducible apply x_ixT); exact rfl; exact rfl) | ((with_reducible apply x_ixL); exact rfl; exact rfl) | ((with_reducible apply x_lenT); exact rfl) | ((with_reducible apply x_lenL); exact rfl) | (with_reducible apply w_intI) | (with_reducible apply w_intB) | (with_reducible apply w_tupT) | (with_reducible apply w_tupL) | (with_reducible apply w_slT) | (with_reducible apply w_slL) | (with_reducible apply w_iSeq) | (with_reducible apply w_iRg1) | (with_reducible apply ex_bl) | (with_reducible apply ex_int) | (with_reducible apply ex_neg) | (with_reducible refine And.intro (Nat.le_of_ble_eq_true rfl) ?_) | (with_reducible refine And.intro (rfl : List.length _ = _) ?_))
    rw [e1, ← List.map_take]
    refine fin_same (by unfold pl; exact plL_map (pl_M1 true) _) ?_
    unfold opn at q
    rw [if_pos ho] at q
    exact q
  · repeat (first | (with_reducible apply w_bin) | (with_reducible apply w_m1) | (with_reducible apply w_un) | (with_reducible apply w_cons) | (with_reducible apply w_nil) | (with_reducible apply w_callN) | ((with_reducible apply w_var); exact rfl) | (with_reducible apply w_c) | (with_reducible apply w_T) | (with_reducible apply w_NotT) | (with_reducible apply w_AndT) | (with_reducible apply w_OrT) | (with_reducible apply w_And) | (with_reducible apply w_Or) | (with_reducible apply w_Not) | (with_reducible apply w_If) | (with_reducible apply w_tup) | (with_reducible apply w_lstF) | (with_reducible apply w_noP) | (with_reducible apply w_part) | (with_reducible apply w_slice) | (with_reducible apply w_isN) | (with_reducible apply w_add) | (with_reducible apply w_sub) | (with_reducible apply w_gt) | (with_reducible apply w_lt) | (with_reducible apply w_ge) | (with_reducible apply w_le) | (with_reducible apply w_eqI) | (with_reducible apply w_neI) | (with_reducible apply w_eqS) | (with_reducible apply w_neS) | ((with_reducible apply x_ixT); exact rfl; exact rfl) | ((with_reducible apply x_ixL); exact rfl; exact rfl) | ((with_reducible apply x_lenT); exact rfl) | ((with_reducible apply x_lenL); exact rfl) | (with_reducible apply w_intI) | (with_reducible apply w_intB) | (with_reducible apply w_tupT) | (with_reducible apply w_tupL) | (with_reducible apply w_slT) | (with_reducible apply w_slL) | (with_reducible apply w_iSeq) | (with_reducible apply w_iRg1) | (with_reducible apply ex_bl) | (with_reducible apply ex_int) | (with_reducible apply ex_neg) | (with_reducible refine And.intro (Nat.le_of_ble_eq_true rfl) ?_) | (with_reducible refine And.intro (rfl : List.length _ = _) ?_))
    refine fin_same (by unfold pl; exact plL_map (pl_M1 true) _) ?_
    unfold opn at q
    rw [if_neg (by rw [ho]; simp)] at q
    exact q
end
end K

namespace K
open PySem Cw
inductive Deed where
  | act (r : Nat)
  | take (r k : Nat)
  | lose (c k : Nat)
def encD : Deed → D
  | .act r => .tup [.str "act", .int r]
  | .take r k => .tup [.str "take", .int r, .int k]
  | .lose c k => .tup [.str "lose", .int c, .int k]
theorem pl_D (d : Deed) : pl (encD d) = true := by cases d <;> rfl
/-- what a rule can do -/
def ruD (N : Net) (w : Wd) (r : Nat) (ru : Rule) : List Deed := if w.st[ru.p]? = some ru.s then match ru.a with
  | .take c t => ((opn N w c).filter fun m => decide (m.2 = t)).map fun m => .take r m.1
  | _ => [.act r] else []
def rD (N : Net) (w : Wd) (r : Nat) : List Deed := match N.rs[r]? with
  | some ru => ruD N w r ru
  | none => []
def lD (N : Net) (w : Wd) (c : Nat) : List Deed := if lossy (chK N c) = true then (opn N w c).map fun m => .lose c m.1 else []
def upto {α : Type} (f : Nat → List α) (j : Nat) : List α := ((List.range j).map f).flatten
def poss (N : Net) (w : Wd) : List Deed := upto (rD N w) N.rs.length ++ upto (lD N w) N.cs.length
theorem upto_succ {α : Type} (f : Nat → List α) (j : Nat) : upto f (j + 1) = upto f j ++ f j := by
  unfold upto
  rw [List.range_succ, List.map_append, List.flatten_append]
  simp
theorem upto_len {α : Type} {f : Nat → List α} {n : Nat} (h : ∀ i, (f i).length ≤ n) : ∀ j, (upto f j).length ≤ j * n
  | 0 => by simp [upto]
  | j + 1 => by
    have h1 := upto_len h j
    have h2 := h j
    rw [upto_succ, List.length_append, Nat.succ_mul]
    omega
theorem upto_mem {α : Type} {f : Nat → List α} {x : α} {j : Nat} (h : x ∈ upto f j) : ∃ i, i < j ∧ x ∈ f i := by
  unfold upto at h
  obtain ⟨l, hl, hx⟩ := List.mem_flatten.mp h
  obtain ⟨i, hi, rfl⟩ := List.mem_map.mp hl
  exact ⟨i, List.mem_range.mp hi, hx⟩
theorem upto_in {α : Type} {f : Nat → List α} {x : α} {i j : Nat} (hi : i < j) (h : x ∈ f i) : x ∈ upto f j := by
  unfold upto
  exact List.mem_flatten.mpr ⟨f i, List.mem_map.mpr ⟨i, List.mem_range.mpr hi, rfl⟩, h⟩
section
variable {N : Net} {n : Nat} {w : Wd}
theorem rD_len (h : WdOk N n w) (r : Nat) : (rD N w r).length ≤ n + 1 := by
  unfold rD ruD
  split
  · split
    · split
      · rename_i c t _
        rw [List.length_map]
        have h1 := List.length_filter_le (fun m : Nat × Nat => decide (m.2 = t)) (opn N w c)
        have h2 := opn_le h c
        omega
      · simp
    · simp
  · simp
theorem lD_len (h : WdOk N n w) (c : Nat) : (lD N w c).length ≤ n + 1 := by
  unfold lD
  split
  · rw [List.length_map]
    have := opn_le h c
    omega
  · simp
theorem poss_len (hN : NetOk N) (h : WdOk N n w) : (poss N w).length ≤ 48 * (n + 1) := by
  unfold poss
  have h1 := upto_len (rD_len h) N.rs.length
  have h2 := upto_len (lD_len h) N.cs.length
  have h3 := hN.r40
  have h4 := hN.c8
  rw [List.length_append]
  have h5 : N.rs.length * (n + 1) ≤ 40 * (n + 1) := Nat.mul_le_mul_right _ h3
  have h6 : N.cs.length * (n + 1) ≤ 8 * (n + 1) := Nat.mul_le_mul_right _ h4
  omega
end
theorem w_iEn {QI : IterD → Sto → Prop} {fa : EM D} {env : En} {st : Sto} (h : wp (fa env st) fun d s1 => ∃ ds, d = .tup ds ∧ QI ⟨enumD ds, []⟩ s1) : wp (iEn fa env st) QI :=
  w_bind (w_mono h fun d s ⟨ds, e, k⟩ => by
    subst e
    exact k)
theorem w_ext {k : Nat} {ds es : List D} {st : Sto} {Q : D → Sto → Prop} (hk : st[k]? = some (.lst ds)) (hl : ds.length + es.length ≤ LIM) (q : Q .non (st.set k (.lst (ds ++ es)))) : wp (lift (oExtend (.ref k) [.lst es] st)) Q := by
  refine w_lift (d := .non) (s := st.set k (.lst (ds ++ es))) ?_ q
  unfold oExtend onCell
  simp only [seqW, hk, if_pos hl]
/-- found + [..]: a new cell -/
theorem w_addR {k : Nat} {ds es : List D} {st : Sto} {Q : D → Sto → Prop} (hk : st[k]? = some (.lst ds)) (hl : ds.length + es.length ≤ LIM) (q : Q (.ref st.length) (st ++ [.lst (ds ++ es)])) : wp (lift (oAdd true (.ref k) (.lst es) st)) Q := by
  refine w_lift (d := .ref st.length) (s := st ++ [.lst (ds ++ es)]) ?_ q
  unfold oAdd
  simp only [seqW, hk, if_pos hl]
  rfl
theorem w_eqN {neg : Bool} {i j : Nat} {st : Sto} {Q : D → Sto → Prop} (q : Q (.bl (if neg then !decide (i = j) else decide (i = j))) st) : wp (lift (oEq neg (.int i) (.int j) st)) Q := by
  have e : decide ((i : Int) = (j : Int)) = decide (i = j) := by
    rw [Bool.eq_iff_iff]
    simp
    omega
  unfold oEq eqD
  simp only [e]
  exact q
theorem encA_first (a : Act) : ∃ z rest, encA a = .tup (.str z :: rest) ∧ (z = "take" ↔ isTake a = true) := by
  obtain ⟨z, rest, h1, h2⟩ := enc_first a
  refine ⟨z, rest, h1, ?_⟩
  rw [← h2]
  simp
theorem w_first {a : Act} {st : Sto} {Q : D → Sto → Prop} (q : ∀ z : Str, (z = "take" ↔ isTake a = true) → Q (.str z) st) : wp (lift (oIx (encA a) (.int 0) st)) Q := by
  obtain ⟨z, rest, h1, h2⟩ := encA_first a
  rw [h1]
  exact w_ixT (at0 _ _) (q z h2)
theorem len_map_lim {l : List Deed} {m : Nat} (h : l.length ≤ m) (hm : m ≤ 1000000) : (l.map encD).length ≤ 1000000 := by
  rw [List.length_map]
  omega
theorem lim_of {a : Nat} (h : a ≤ 2000000) : a ≤ LIM := Nat.le_trans h (Nat.le_of_ble_eq_true rfl)
theorem lim_lt {a : Nat} (h : a ≤ 2000000) : a < LIM := Nat.lt_of_le_of_lt h (Nat.le_of_ble_eq_true rfl)
section
variable {N : Net} {n : Nat} {w : Wd} {b : Bool} {s : Sto} {Q : D → Sto → Prop}
theorem fin_app {ext : Sto} {d : D} (p : pl d = true) (q : Q d s) : fin s Q d (s ++ ext) := fin_pl p (popB_app s ext) (by rw [take_app]; exact q)
theorem w_possible (hN : NetOk N) (h : WdOk N n w) (hn : n < 10000) (q : Q (.tup ((poss N w).map encD)) s) : wp (m_possible [netD N, encW b w] s) Q := by
  have hr40 := hN.r40
  have hc8 := hN.c8
  unfold m_possible
  refine w_run ?_
  show wo (mb_possible [some (netD N), some (encW b w), none, none, none, none, none, none, none, none] s) _ _ _ _
  unfold mb_possible
  refine o_seq (o_set (w_lstT (w_nil ⟨Nat.zero_le _, ?_⟩)))
  have hg : ∀ l : List D, (s ++ [Cell.lst l])[s.length]? = some (.lst l) := fun l => by simp
  have hp : ∀ l m : List D, (s ++ [Cell.lst l]).set s.length (.lst m) = s ++ [.lst m] := fun l m => by simp
  refine o_cut (fun e s' => ∃ v3 v4 v5 v6 v7 v8 v9, e = [some (netD N), some (encW b w), some (.ref s.length), v3, v4, v5, v6, v7, v8, v9] ∧ s' = s ++ [.lst ((upto (rD N w) N.rs.length).map encD)]) ?_ ?_
  · refine o_for (w_iEn (w_fld (w_var rfl ⟨_, fld_r N _, _, rfl, ?_⟩)))
    refine ⟨fun j e s' => j ≤ N.rs.length ∧ ∃ v3 v4 v5 v6 v7 v8 v9, e = [some (netD N), some (encW b w), some (.ref s.length), v3, v4, v5, v6, v7, v8, v9] ∧ s' = s ++ [.lst ((upto (rD N w) j).map encD)], ⟨Nat.zero_le _, none, none, none, none, none, none, none, rfl, rfl⟩, fun _ _ _ _ => rfl, ?_, ?_⟩
    · rintro j x hx e s' ⟨hj, v3, v4, v5, v6, v7, v8, v9, rfl, rfl⟩
      obtain ⟨y, hy, rfl⟩ := enumD_get hx
      rw [List.getElem?_map] at hy
      obtain ⟨ru, hru, rfl⟩ := Option.map_eq_some_iff.mp hy
      have hjl := (List.getElem?_eq_some_iff.mp hru).1
      obtain ⟨⟨pp, hpp, _, _⟩, hact⟩ := hN.rn ru (List.mem_of_getElem? hru)
      have hpl := (List.getElem?_eq_some_iff.mp hpp).1
      obtain ⟨x0, hx0⟩ : ∃ x0, w.st[ru.p]? = some x0 := ⟨w.st[ru.p]'(by rw [h.st]; exact hpl), by simp⟩
      have hlen := upto_len (rD_len h) j
      have hlen2 : j * (n + 1) ≤ 40 * 10001 := Nat.mul_le_mul (by omega) (by omega)
      refine ⟨_, _, rfl, ?_⟩
      refine o_if (w_AndT (w_T (w_bin (w_bin (w_bin (w_var rfl (w_c (m_ix rfl (w_bin (w_var rfl (w_c (w_ixT (at0 _ _) (m_ix (at_enc hx0) ?_)))))))))))))
      refine w_bin (w_var rfl (w_c (w_ixT (at1 _ _ _) (w_eqN ⟨_, rfl, ?_, ?_⟩))))
      · intro he
        have he : x0 = ru.s := by simpa using he
        refine w_T (w_bin (w_bin (w_bin (w_var rfl (w_c (w_ixT (at2 _ _ _ _) (w_c (w_first fun z hz => ?_))))))))
        refine w_c (w_neS ⟨_, rfl, ?_, ?_⟩)
        · intro ht
          have ht : ¬ z = "take" := by simpa using ht
          refine o_expr (w_meth (w_var rfl ⟨by simp [tyM], ?_⟩))
          repeat (first | (with_reducible apply w_bin) | (with_reducible apply w_m1) | (with_reducible apply w_un) | (with_reducible apply w_cons) | (with_reducible apply w_nil) | (with_reducible apply w_callN) | ((with_reducible apply w_var); exact rfl) | (with_reducible apply w_c) | (with_reducible apply w_T) | (with_reducible apply w_NotT) | (with_reducible apply w_AndT) | (with_reducible apply w_OrT) | (with_reducible apply w_And) | (with_reducible apply w_Or) | (with_reducible apply w_Not) | (with_reducible apply w_If) | (with_reducible apply w_tup) | (with_reducible apply w_lstF) | (with_reducible apply w_noP) | (with_reducible apply w_part) | (with_reducible apply w_slice) | (with_reducible apply w_isN) | (with_reducible apply w_add) | (with_reducible apply w_sub) | (with_reducible apply w_gt) | (with_reducible apply w_lt) | (with_reducible apply w_ge) | (with_reducible apply w_le) | (with_reducible apply w_eqI) | (with_reducible apply w_neI) | (with_reducible apply w_eqS) | (with_reducible apply w_neS) | ((with_reducible apply x_ixT); exact rfl; exact rfl) | ((with_reducible apply x_ixL); exact rfl; exact rfl) | ((with_reducible apply x_lenT); exact rfl) | ((with_reducible apply x_lenL); exact rfl) | (with_reducible apply w_intI) | (with_reducible apply w_intB) | (with_reducible apply w_tupT) | (with_reducible apply w_tupL) | (with_reducible apply w_slT) | (with_reducible apply w_slL) | (with_reducible apply w_iSeq) | (with_reducible apply w_iRg1) | (with_reducible apply ex_bl) | (with_reducible apply ex_int) | (with_reducible apply ex_neg) | (with_reducible refine And.intro (Nat.le_of_ble_eq_true rfl) ?_) | (with_reducible refine And.intro (rfl : List.length _ = _) ?_))
          refine w_app (hg _) (lim_lt (by rw [List.length_map]; omega)) ?_
          refine ⟨hjl, _, _, _, _, _, _, _, rfl, ?_⟩
          rw [hp, upto_succ, List.map_append]
          have : rD N w j = [.act j] := by
            unfold rD ruD
            rw [hru]
            simp only
            rw [if_pos (by rw [hx0, he])]
            split
            · rename_i c t ea
              rw [ea] at hz
              exact absurd (hz.mpr rfl) ht
            · rfl
          rw [this]
          rfl
        · intro ht
          have ht : z = "take" := by simpa using ht
          have hz := hz.mp ht
          cases ea : ru.a with
          | go => rw [ea] at hz; cases hz
          | send c t => rw [ea] at hz; cases hz
          | take c t =>
            rw [ea] at hact
            obtain ⟨⟨ch, hch, _⟩, _⟩ := hact
            have hcl := (List.getElem?_eq_some_iff.mp hch).1
            refine o_if (w_T (w_bin (w_bin (w_bin (w_var rfl (w_c (m_ix rfl (w_bin (w_var rfl (w_c (w_ixT (at0 _ _) (m_ix (at_enc hx0) ?_))))))))))))
            refine w_bin (w_var rfl (w_c (w_ixT (at1 _ _ _) (w_eqN ⟨_, rfl, fun _ => ?_, fun h => ?_⟩))))
            · refine o_seq (o_set (w_callN (w_cons (w_var rfl (w_cons (w_var rfl (w_cons (w_bin (w_bin (w_var rfl (w_c (w_ixT (at2 _ _ _ _) ?_))))))))))))
              rw [ea]
              refine w_c (w_ixT (at1 _ _ _) (w_nil ⟨rfl, ?_⟩))
              refine w_open h (by omega) hcl ?_
              have hol := opn_le h c
              refine o_expr (w_meth (w_var rfl ⟨by simp [tyM], w_cons ?_⟩))
              refine w_compF (opn N w c) (encM true) (fun m => decide (m.2 = t)) (fun m => encD (.take j m.1)) (w_iSeq (w_var rfl ⟨_, rfl, rfl, rfl⟩)) (by omega) ?_ (fun m _ => pl_D _) ?_
              · rintro ⟨k, tk⟩ _
                refine ⟨_, rfl, fun s' => ?_⟩
                refine w_T (w_bin (w_var rfl (w_bin (w_bin (w_var rfl (w_c (w_ixT (at2 _ _ _ _) ?_)))))))
                rw [ea]
                refine w_c (w_ixT (at2 _ _ _ _) (w_eqN ⟨_, rfl, rfl, rfl, fun _ => ?_⟩))
                repeat (first | (with_reducible apply w_bin) | (with_reducible apply w_m1) | (with_reducible apply w_un) | (with_reducible apply w_cons) | (with_reducible apply w_nil) | (with_reducible apply w_callN) | ((with_reducible apply w_var); exact rfl) | (with_reducible apply w_c) | (with_reducible apply w_T) | (with_reducible apply w_NotT) | (with_reducible apply w_AndT) | (with_reducible apply w_OrT) | (with_reducible apply w_And) | (with_reducible apply w_Or) | (with_reducible apply w_Not) | (with_reducible apply w_If) | (with_reducible apply w_tup) | (with_reducible apply w_lstF) | (with_reducible apply w_noP) | (with_reducible apply w_part) | (with_reducible apply w_slice) | (with_reducible apply w_isN) | (with_reducible apply w_add) | (with_reducible apply w_sub) | (with_reducible apply w_gt) | (with_reducible apply w_lt) | (with_reducible apply w_ge) | (with_reducible apply w_le) | (with_reducible apply w_eqI) | (with_reducible apply w_neI) | (with_reducible apply w_eqS) | (with_reducible apply w_neS) | ((with_reducible apply x_ixT); exact rfl; exact rfl) | ((with_reducible apply x_ixL); exact rfl; exact rfl) | ((with_reducible apply x_lenT); exact rfl) | ((with_reducible apply x_lenL); exact rfl) | (with_reducible apply w_intI) | (with_reducible apply w_intB) | (with_reducible apply w_tupT) | (with_reducible apply w_tupL) | (with_reducible apply w_slT) | (with_reducible apply w_slL) | (with_reducible apply w_iSeq) | (with_reducible apply w_iRg1) | (with_reducible apply ex_bl) | (with_reducible apply ex_int) | (with_reducible apply ex_neg) | (with_reducible refine And.intro (Nat.le_of_ble_eq_true rfl) ?_) | (with_reducible refine And.intro (rfl : List.length _ = _) ?_))
                exact ⟨rfl, rfl⟩
              · have hfl := List.length_filter_le (fun m : Nat × Nat => decide (m.2 = t)) (opn N w c)
                refine w_nil (w_ext (hg _) (lim_of (by simp only [List.length_map]; omega)) ?_)
                refine ⟨hjl, _, _, _, _, _, _, _, rfl, ?_⟩
                rw [hp, upto_succ, List.map_append]
                have : rD N w j = ((opn N w c).filter fun m => decide (m.2 = t)).map fun m => Deed.take j m.1 := by
                  unfold rD ruD
                  rw [hru]
                  simp only
                  rw [if_pos (by rw [hx0, he]), ea]
                rw [this, List.map_map]
                rfl
            · simp at h
              exact absurd he h
      · intro he
        have he : ¬ x0 = ru.s := by simpa using he
        refine ⟨fun h => (by cases h), fun _ => ?_⟩
        refine o_if (w_T (w_bin (w_bin (w_bin (w_var rfl (w_c (m_ix rfl (w_bin (w_var rfl (w_c (w_ixT (at0 _ _) (m_ix (at_enc hx0) ?_))))))))))))
        refine w_bin (w_var rfl (w_c (w_ixT (at1 _ _ _) (w_eqN ⟨_, rfl, fun h => ?_, fun _ => o_nil ?_⟩))))
        · simp at h
          exact absurd h he
        · refine ⟨hjl, _, _, _, _, _, _, _, rfl, ?_⟩
          have : rD N w j = [] := by
            unfold rD ruD
            rw [hru]
            simp only
            rw [if_neg (by rw [hx0]; simpa using he)]
          rw [upto_succ, this, List.append_nil]
    · rintro e s' ⟨_, v3, v4, v5, v6, v7, v8, v9, rfl, rfl⟩
      refine ⟨v3, v4, v5, v6, v7, v8, v9, rfl, ?_⟩
      simp only [enumD_len, List.length_map]
  rintro e s' ⟨v3, v4, v5, v6, v7, v8, v9, rfl, rfl⟩
  refine o_cut (fun e s' => ∃ v3 v4 v5 v6 v7 v8 v9, e = [some (netD N), some (encW b w), some (.ref s.length), v3, v4, v5, v6, v7, v8, v9] ∧ s' = s ++ [.lst ((poss N w).map encD)]) ?_ ?_
  · refine o_for (w_iRg1 (w_m1 (w_fld (w_var rfl ⟨_, fld_c N _, w_lenT ⟨_, rfl, by rw [List.length_map]; omega, ?_⟩⟩))))
    refine ⟨fun j e s' => j ≤ N.cs.length ∧ ∃ v3 v4 v5 v6 v7 v8 v9, e = [some (netD N), some (encW b w), some (.ref s.length), v3, v4, v5, v6, v7, v8, v9] ∧ s' = s ++ [.lst ((upto (rD N w) N.rs.length ++ upto (lD N w) j).map encD)], ⟨Nat.zero_le _, v3, v4, v5, v6, v7, v8, v9, rfl, ?_⟩, fun _ _ _ _ => rfl, ?_, ?_⟩
    · simp [upto]
    · rintro j x hx e s' ⟨hj, v3, v4, v5, v6, v7, v8, v9, rfl, rfl⟩
      rw [List.length_map] at hx
      have hjl : j < N.cs.length := by
        have := (List.getElem?_eq_some_iff.mp hx).1
        simpa [rngD] using this
      have hxx : x = .int j := by
        simp [rngD, hjl] at hx
        exact hx.symm
      subst hxx
      have hlen := upto_len (rD_len h) N.rs.length
      have hlen2 : N.rs.length * (n + 1) ≤ 40 * 10001 := Nat.mul_le_mul (by omega) (by omega)
      have hlen3 := upto_len (lD_len h) j
      have hlen4 : j * (n + 1) ≤ 8 * 10001 := Nat.mul_le_mul (by omega) (by omega)
      refine ⟨_, _, rfl, ?_⟩
      refine o_if (w_T ?_)
      repeat (first | (with_reducible apply w_bin) | (with_reducible apply w_m1) | (with_reducible apply w_un) | (with_reducible apply w_cons) | (with_reducible apply w_nil) | (with_reducible apply w_callN) | ((with_reducible apply w_var); exact rfl) | (with_reducible apply w_c) | (with_reducible apply w_T) | (with_reducible apply w_NotT) | (with_reducible apply w_AndT) | (with_reducible apply w_OrT) | (with_reducible apply w_And) | (with_reducible apply w_Or) | (with_reducible apply w_Not) | (with_reducible apply w_If) | (with_reducible apply w_tup) | (with_reducible apply w_lstF) | (with_reducible apply w_noP) | (with_reducible apply w_part) | (with_reducible apply w_slice) | (with_reducible apply w_isN) | (with_reducible apply w_add) | (with_reducible apply w_sub) | (with_reducible apply w_gt) | (with_reducible apply w_lt) | (with_reducible apply w_ge) | (with_reducible apply w_le) | (with_reducible apply w_eqI) | (with_reducible apply w_neI) | (with_reducible apply w_eqS) | (with_reducible apply w_neS) | ((with_reducible apply x_ixT); exact rfl; exact rfl) | ((with_reducible apply x_ixL); exact rfl; exact rfl) | ((with_reducible apply x_lenT); exact rfl) | ((with_reducible apply x_lenL); exact rfl) | (with_reducible apply w_intI) | (with_reducible apply w_intB) | (with_reducible apply w_tupT) | (with_reducible apply w_tupL) | (with_reducible apply w_slT) | (with_reducible apply w_slL) | (with_reducible apply w_iSeq) | (with_reducible apply w_iRg1) | (with_reducible apply ex_bl) | (with_reducible apply ex_int) | (with_reducible apply ex_neg) | (with_reducible refine And.intro (Nat.le_of_ble_eq_true rfl) ?_) | (with_reducible refine And.intro (rfl : List.length _ = _) ?_))
      refine w_lossy hjl (ex_bl ⟨fun hl => ?_, fun hl => ?_⟩)
      · refine o_expr (w_meth (w_var rfl ⟨by simp [tyM], w_cons ?_⟩))
        have hol := opn_le h j
        refine w_compA (opn N w j) (encM true) (fun m => encD (.lose j m.1)) ?_ (by omega) ?_ (fun m _ => pl_D _) ?_
        · refine w_iSeq ?_
          repeat (first | (with_reducible apply w_bin) | (with_reducible apply w_m1) | (with_reducible apply w_un) | (with_reducible apply w_cons) | (with_reducible apply w_nil) | (with_reducible apply w_callN) | ((with_reducible apply w_var); exact rfl) | (with_reducible apply w_c) | (with_reducible apply w_T) | (with_reducible apply w_NotT) | (with_reducible apply w_AndT) | (with_reducible apply w_OrT) | (with_reducible apply w_And) | (with_reducible apply w_Or) | (with_reducible apply w_Not) | (with_reducible apply w_If) | (with_reducible apply w_tup) | (with_reducible apply w_lstF) | (with_reducible apply w_noP) | (with_reducible apply w_part) | (with_reducible apply w_slice) | (with_reducible apply w_isN) | (with_reducible apply w_add) | (with_reducible apply w_sub) | (with_reducible apply w_gt) | (with_reducible apply w_lt) | (with_reducible apply w_ge) | (with_reducible apply w_le) | (with_reducible apply w_eqI) | (with_reducible apply w_neI) | (with_reducible apply w_eqS) | (with_reducible apply w_neS) | ((with_reducible apply x_ixT); exact rfl; exact rfl) | ((with_reducible apply x_ixL); exact rfl; exact rfl) | ((with_reducible apply x_lenT); exact rfl) | ((with_reducible apply x_lenL); exact rfl) | (with_reducible apply w_intI) | (with_reducible apply w_intB) | (with_reducible apply w_tupT) | (with_reducible apply w_tupL) | (with_reducible apply w_slT) | (with_reducible apply w_slL) | (with_reducible apply w_iSeq) | (with_reducible apply w_iRg1) | (with_reducible apply ex_bl) | (with_reducible apply ex_int) | (with_reducible apply ex_neg) | (with_reducible refine And.intro (Nat.le_of_ble_eq_true rfl) ?_) | (with_reducible refine And.intro (rfl : List.length _ = _) ?_))
          exact w_open h (by omega) hjl ⟨_, rfl, rfl, rfl⟩
        · rintro ⟨k, tk⟩ _
          refine ⟨_, rfl, fun s' => ?_⟩
          repeat (first | (with_reducible apply w_bin) | (with_reducible apply w_m1) | (with_reducible apply w_un) | (with_reducible apply w_cons) | (with_reducible apply w_nil) | (with_reducible apply w_callN) | ((with_reducible apply w_var); exact rfl) | (with_reducible apply w_c) | (with_reducible apply w_T) | (with_reducible apply w_NotT) | (with_reducible apply w_AndT) | (with_reducible apply w_OrT) | (with_reducible apply w_And) | (with_reducible apply w_Or) | (with_reducible apply w_Not) | (with_reducible apply w_If) | (with_reducible apply w_tup) | (with_reducible apply w_lstF) | (with_reducible apply w_noP) | (with_reducible apply w_part) | (with_reducible apply w_slice) | (with_reducible apply w_isN) | (with_reducible apply w_add) | (with_reducible apply w_sub) | (with_reducible apply w_gt) | (with_reducible apply w_lt) | (with_reducible apply w_ge) | (with_reducible apply w_le) | (with_reducible apply w_eqI) | (with_reducible apply w_neI) | (with_reducible apply w_eqS) | (with_reducible apply w_neS) | ((with_reducible apply x_ixT); exact rfl; exact rfl) | ((with_reducible apply x_ixL); exact rfl; exact rfl) | ((with_reducible apply x_lenT); exact rfl) | ((with_reducible apply x_lenL); exact rfl) | (with_reducible apply w_intI) | (with_reducible apply w_intB) | (with_reducible apply w_tupT) | (with_reducible apply w_tupL) | (with_reducible apply w_slT) | (with_reducible apply w_slL) | (with_reducible apply w_iSeq) | (with_reducible apply w_iRg1) | (with_reducible apply ex_bl) | (with_reducible apply ex_int) | (with_reducible apply ex_neg) | (with_reducible refine And.intro (Nat.le_of_ble_eq_true rfl) ?_) | (with_reducible refine And.intro (rfl : List.length _ = _) ?_))
          exact ⟨rfl, rfl⟩
        · refine w_nil (w_ext (hg _) (lim_of (by simp only [List.length_map, List.length_append]; omega)) ?_)
          refine ⟨hjl, _, _, _, _, _, _, _, rfl, ?_⟩
          rw [hp, upto_succ]
          have : lD N w j = (opn N w j).map fun m => Deed.lose j m.1 := by
            unfold lD
            rw [if_pos hl]
          rw [this]
          simp only [List.map_append, List.map_map, List.append_assoc]
          rfl
      · refine o_nil ⟨hjl, _, _, _, _, _, _, _, rfl, ?_⟩
        have : lD N w j = [] := by
          unfold lD
          rw [if_neg (by rw [hl]; simp)]
        rw [upto_succ, this, List.append_nil]
    · rintro e s' ⟨_, v3, v4, v5, v6, v7, v8, v9, rfl, rfl⟩
      refine ⟨v3, v4, v5, v6, v7, v8, v9, rfl, ?_⟩
      simp [rngD, poss]
  rintro e s' ⟨v3, v4, v5, v6, v7, v8, v9, rfl, rfl⟩
  refine o_ret (w_m1 (w_var rfl (w_tupR (hg _) ?_)))
  exact fin_app (by unfold pl; exact plL_map pl_D _) q
end
end K

namespace K
open PySem Cw
def tN (N : Net) : D := .tup [tP N, tC N, tR N]
theorem kind_ol (k : Nat) : kindOf k = "order lossy" ↔ (ord k = true ∧ lossy k = true) := by
  unfold ord lossy kindOf
  match k with
  | 0 => decide
  | 1 => decide
  | 2 => decide
  | 3 => decide
  | n + 4 =>
    have : kinds[n + 4]? = none := List.getElem?_eq_none (by simp [kinds])
    rw [this]
    decide
theorem kind_ll (k : Nat) : kindOf k = "loose lossy" ↔ (ord k = false ∧ lossy k = true) := by
  unfold ord lossy kindOf
  match k with
  | 0 => decide
  | 1 => decide
  | 2 => decide
  | 3 => decide
  | n + 4 =>
    have : kinds[n + 4]? = none := List.getElem?_eq_none (by simp [kinds])
    rw [this]
    decide
theorem enc_ch (ch : Chan) : encC ch = .tup [.str ch.nm, .int ch.giver, .int ch.taker, .str (kindOf ch.kind)] := rfl
section
variable {N : Net} {n : Nat} {w : Wd} {b : Bool} {s : Sto} {Q : D → Sto → Prop}
theorem w_takes {r : Nat} {ru : Rule} {c t : Nat} (hN : NetOk N) (h : WdOk N n w) (hn : n < 10000) (hr : N.rs[r]? = some ru) (ha : ru.a = .take c t) (q : Q (.lst (((opn N w c).filter fun m => decide (m.2 = t)).map fun m => .int m.1)) s) : wp (m__law_takes [tN N, encW true w, .int r] s) Q := by
  obtain ⟨_, hact⟩ := hN.rn ru (List.mem_of_getElem? hr)
  rw [ha] at hact
  obtain ⟨⟨ch, hch, _⟩, _⟩ := hact
  have hcl := (List.getElem?_eq_some_iff.mp hch).1
  have hk : chK N c = ch.kind := by
    unfold chK
    rw [hch]
  have hrow := row_at (w := w) (c := c) (by rw [h.pr]; exact hcl)
  have hrl := row_le h c
  have e1 : ∀ l : List D, cutD l none (some 1) = l.take 1 := fun l => cut_to l (k := 1)
  unfold m__law_takes
  refine w_run ?_
  show wo (mb__law_takes [some (tN N), some (encW true w), some (.int r), none, none, none] s) _ _ _ _
  unfold mb__law_takes
  refine o_seq (o_set (w_bin (w_bin (w_var rfl (w_c (w_ixT (at2 _ _ _ _) (w_var rfl (w_ixT (at_enc hr) ?_))))))))
  refine o_seq (o_set (w_bin (w_bin (w_var rfl (w_c (w_ixT (at2 _ _ _ _) (w_bin (w_bin (w_var rfl (w_c (w_ixT (at2 _ _ _ _) ?_)))))))))))
  rw [ha]
  refine w_c (w_ixT (at1 _ _ _) (m_ix (at_enc hrow) ?_))
  refine o_cut (fun e s' => e = [some (tN N), some (encW true w), some (.int r), some (encR ru), some (encRow true (opn N w c)), none] ∧ s' = s) ?_ ?_
  · refine o_if (w_T (w_bin (w_bin (w_bin (w_bin (w_var rfl (w_c (w_ixT (at1 _ _ _) (w_bin (w_bin (w_var rfl (w_c (w_ixT (at2 _ _ _ _) ?_)))))))))))))
    rw [ha]
    refine w_c (w_ixT (at1 _ _ _) (w_ixT (at_enc hch) ?_))
    refine w_c (w_ixT (at3 _ _ _ _ _) ?_)
    repeat (first | (with_reducible apply w_bin) | (with_reducible apply w_m1) | (with_reducible apply w_un) | (with_reducible apply w_cons) | (with_reducible apply w_nil) | (with_reducible apply w_callN) | ((with_reducible apply w_var); exact rfl) | (with_reducible apply w_c) | (with_reducible apply w_T) | (with_reducible apply w_NotT) | (with_reducible apply w_AndT) | (with_reducible apply w_OrT) | (with_reducible apply w_And) | (with_reducible apply w_Or) | (with_reducible apply w_Not) | (with_reducible apply w_If) | (with_reducible apply w_tup) | (with_reducible apply w_lstF) | (with_reducible apply w_noP) | (with_reducible apply w_part) | (with_reducible apply w_slice) | (with_reducible apply w_isN) | (with_reducible apply w_add) | (with_reducible apply w_sub) | (with_reducible apply w_gt) | (with_reducible apply w_lt) | (with_reducible apply w_ge) | (with_reducible apply w_le) | (with_reducible apply w_eqI) | (with_reducible apply w_neI) | (with_reducible apply w_eqS) | (with_reducible apply w_neS) | ((with_reducible apply x_ixT); exact rfl; exact rfl) | ((with_reducible apply x_ixL); exact rfl; exact rfl) | ((with_reducible apply x_lenT); exact rfl) | ((with_reducible apply x_lenL); exact rfl) | (with_reducible apply w_intI) | (with_reducible apply w_intB) | (with_reducible apply w_tupT) | (with_reducible apply w_tupL) | (with_reducible apply w_slT) | (with_reducible apply w_slL) | (with_reducible apply w_iSeq) | (with_reducible apply w_iRg1) | (with_reducible apply ex_bl) | (with_reducible apply ex_int) | (with_reducible apply ex_neg) | (with_reducible refine And.intro (Nat.le_of_ble_eq_true rfl) ?_) | (with_reducible refine And.intro (rfl : List.length _ = _) ?_))
    have hin := (in_ord s ch.kind).2
    refine w_lift (d := .bl (ord ch.kind)) (s := s) ?_ ⟨_, rfl, fun ho => ?_, fun ho => ?_⟩
    · unfold oIn
      rw [show kinds[ch.kind]?.getD "order" = kindOf ch.kind from rfl, hin]
      rfl
    · refine o_set ?_
      repeat (first | (with_reducible apply w_bin) | (with_reducible apply w_m1) | (with_reducible apply w_un) | (with_reducible apply w_cons) | (with_reducible apply w_nil) | (with_reducible apply w_callN) | ((with_reducible apply w_var); exact rfl) | (with_reducible apply w_c) | (with_reducible apply w_T) | (with_reducible apply w_NotT) | (with_reducible apply w_AndT) | (with_reducible apply w_OrT) | (with_reducible apply w_And) | (with_reducible apply w_Or) | (with_reducible apply w_Not) | (with_reducible apply w_If) | (with_reducible apply w_tup) | (with_reducible apply w_lstF) | (with_reducible apply w_noP) | (with_reducible apply w_part) | (with_reducible apply w_slice) | (with_reducible apply w_isN) | (with_reducible apply w_add) | (with_reducible apply w_sub) | (with_reducible apply w_gt) | (with_reducible apply w_lt) | (with_reducible apply w_ge) | (with_reducible apply w_le) | (with_reducible apply w_eqI) | (with_reducible apply w_neI) | (with_reducible apply w_eqS) | (with_reducible apply w_neS) | ((with_reducible apply x_ixT); exact rfl; exact rfl) | ((with_reducible apply x_ixL); exact rfl; exact rfl) | ((with_reducible apply x_lenT); exact rfl) | ((with_reducible apply x_lenL); exact rfl) | (with_reducible apply w_intI) | (with_reducible apply w_intB) | (with_reducible apply w_tupT) | (with_reducible apply w_tupL) | (with_reducible apply w_slT) | (with_reducible apply w_slL) | (with_reducible apply w_iSeq) | (with_reducible apply w_iRg1) | (with_reducible apply ex_bl) | (with_reducible apply ex_int) | (with_reducible apply ex_neg) | (with_reducible refine And.intro (Nat.le_of_ble_eq_true rfl) ?_) | (with_reducible refine And.intro (rfl : List.length _ = _) ?_))
      refine m_sl ⟨?_, rfl⟩
      unfold opn
      rw [hk, if_pos ho, e1]
      unfold encRow
      rw [List.map_take]
      rfl
    · refine o_nil ⟨?_, rfl⟩
      unfold opn
      rw [hk, if_neg (by rw [ho]; simp)]
      rfl
  rintro e s' ⟨rfl, rfl⟩
  have hol := opn_le h c
  refine o_ret ?_
  refine w_compF (opn N w c) (encM true) (fun m => decide (m.2 = t)) (fun m => .int m.1) (w_iSeq (w_var rfl ⟨_, rfl, rfl, rfl⟩)) (by omega) ?_ (fun m _ => rfl) ?_
  · rintro ⟨k, tk⟩ _
    refine ⟨_, rfl, fun s' => ?_⟩
    refine w_T (w_bin (w_bin (w_var rfl (w_c (m_ix (at1 _ _ _) (w_bin (w_bin (w_var rfl (w_c (w_ixT (at2 _ _ _ _) ?_))))))))))
    rw [ha]
    refine w_c (w_ixT (at2 _ _ _ _) (w_eqN ⟨_, rfl, rfl, rfl, fun _ => ?_⟩))
    repeat (first | (with_reducible apply w_bin) | (with_reducible apply w_m1) | (with_reducible apply w_un) | (with_reducible apply w_cons) | (with_reducible apply w_nil) | (with_reducible apply w_callN) | ((with_reducible apply w_var); exact rfl) | (with_reducible apply w_c) | (with_reducible apply w_T) | (with_reducible apply w_NotT) | (with_reducible apply w_AndT) | (with_reducible apply w_OrT) | (with_reducible apply w_And) | (with_reducible apply w_Or) | (with_reducible apply w_Not) | (with_reducible apply w_If) | (with_reducible apply w_tup) | (with_reducible apply w_lstF) | (with_reducible apply w_noP) | (with_reducible apply w_part) | (with_reducible apply w_slice) | (with_reducible apply w_isN) | (with_reducible apply w_add) | (with_reducible apply w_sub) | (with_reducible apply w_gt) | (with_reducible apply w_lt) | (with_reducible apply w_ge) | (with_reducible apply w_le) | (with_reducible apply w_eqI) | (with_reducible apply w_neI) | (with_reducible apply w_eqS) | (with_reducible apply w_neS) | ((with_reducible apply x_ixT); exact rfl; exact rfl) | ((with_reducible apply x_ixL); exact rfl; exact rfl) | ((with_reducible apply x_lenT); exact rfl) | ((with_reducible apply x_lenL); exact rfl) | (with_reducible apply w_intI) | (with_reducible apply w_intB) | (with_reducible apply w_tupT) | (with_reducible apply w_tupL) | (with_reducible apply w_slT) | (with_reducible apply w_slL) | (with_reducible apply w_iSeq) | (with_reducible apply w_iRg1) | (with_reducible apply ex_bl) | (with_reducible apply ex_int) | (with_reducible apply ex_neg) | (with_reducible refine And.intro (Nat.le_of_ble_eq_true rfl) ?_) | (with_reducible refine And.intro (rfl : List.length _ = _) ?_))
    exact ⟨rfl, rfl⟩
  · refine fin_same ?_ q
    unfold pl
    rw [plL_iff]
    intro d hd
    obtain ⟨m, _, rfl⟩ := List.mem_map.mp hd
    rfl
/-- where the list stands -/
def Fnd (s : Sto) (l : List Deed) (v : Option D) (s' : Sto) : Prop := ∃ k ext, v = some (.ref k) ∧ s' = s ++ ext ∧ s.length ≤ k ∧ (s ++ ext)[k]? = some (.lst (l.map encD))
theorem Fnd.app {l : List Deed} {k : Nat} {ext : Sto} {d : Deed} (h1 : s.length ≤ k) (h2 : (s ++ ext)[k]? = some (.lst (l.map encD))) : Fnd s (l ++ [d]) (some (.ref k)) ((s ++ ext).set k (.lst (l.map encD ++ [encD d]))) := by
  have hk := (List.getElem?_eq_some_iff.mp h2).1
  refine ⟨k, _, rfl, List.set_append_right k _ h1, h1, ?_⟩
  rw [← List.set_append_right k _ h1, List.getElem?_set_self hk, List.map_append]
  rfl
theorem Fnd.more {l m : List Deed} {k : Nat} {ext : Sto} (h1 : s.length ≤ k) (h2 : (s ++ ext)[k]? = some (.lst (l.map encD))) : Fnd s (l ++ m) (some (.ref (s ++ ext).length)) ((s ++ ext) ++ [.lst (l.map encD ++ m.map encD)]) := by
  refine ⟨(s ++ ext).length, ext ++ [.lst (l.map encD ++ m.map encD)], rfl, by rw [List.append_assoc], by rw [List.length_append]; omega, ?_⟩
  rw [← List.append_assoc, List.map_append]
  simp
theorem Fnd.sub {l m : List Deed} {k : Nat} {ext : Sto} (h1 : s.length ≤ k) (h2 : (s ++ ext)[k]? = some (.lst (l.map encD))) (e : m = l) : Fnd s m (some (.ref k)) (s ++ ext) := by
  subst e
  exact ⟨k, ext, rfl, rfl, h1, h2⟩
theorem w_lpossible (hN : NetOk N) (h : WdOk N n w) (hn : n < 10000) (q : Q (.tup ((poss N w).map encD)) s) : wp (m__law_possible [tN N, encW true w] s) Q := by
  have hr40 := hN.r40
  have hc8 := hN.c8
  have e1 : ∀ l : List D, cutD l none (some 1) = l.take 1 := fun l => cut_to l (k := 1)
  unfold m__law_possible
  refine w_run ?_
  show wo (mb__law_possible [some (tN N), some (encW true w), none, none, none, none, none, none] s) _ _ _ _
  unfold mb__law_possible
  refine o_seq (o_set (w_lstT (w_nil ⟨Nat.zero_le _, ?_⟩)))
  refine o_cut (fun e s' => ∃ v2 v3 v4 v5 v6 v7, e = [some (tN N), some (encW true w), v2, v3, v4, v5, v6, v7] ∧ Fnd s (upto (rD N w) N.rs.length) v2 s') ?_ ?_
  · refine o_for (w_iRg1 (w_m1 (w_bin (w_var rfl (w_c (w_ixT (at2 _ _ _ _) (w_lenT ⟨_, rfl, by rw [List.length_map]; omega, ?_⟩)))))))
    refine ⟨fun j e s' => j ≤ N.rs.length ∧ ∃ v2 v3 v4 v5 v6 v7, e = [some (tN N), some (encW true w), v2, v3, v4, v5, v6, v7] ∧ Fnd s (upto (rD N w) j) v2 s', ⟨Nat.zero_le _, _, none, none, none, none, none, rfl, s.length, [.lst []], rfl, rfl, Nat.le_refl _, by simp [upto]⟩, fun _ _ _ _ => rfl, ?_, ?_⟩
    · rintro j x hx e s' ⟨hj, v2, v3, v4, v5, v6, v7, rfl, k, ext, rfl, rfl, hk1, hk2⟩
      rw [List.length_map] at hx
      have hjl : j < N.rs.length := by
        have := (List.getElem?_eq_some_iff.mp hx).1
        simpa [rngD] using this
      have hxx : x = .int j := by
        simp [rngD, hjl] at hx
        exact hx.symm
      subst hxx
      obtain ⟨ru, hru⟩ : ∃ ru, N.rs[j]? = some ru := ⟨N.rs[j], by simp [hjl]⟩
      obtain ⟨⟨pp, hpp, _, _⟩, hact⟩ := hN.rn ru (List.mem_of_getElem? hru)
      have hpl := (List.getElem?_eq_some_iff.mp hpp).1
      obtain ⟨x0, hx0⟩ : ∃ x0, w.st[ru.p]? = some x0 := ⟨w.st[ru.p]'(by rw [h.st]; exact hpl), by simp⟩
      have hlen := upto_len (rD_len h) j
      have hlen2 : j * (n + 1) ≤ 40 * 10001 := Nat.mul_le_mul (by omega) (by omega)
      refine ⟨_, _, rfl, ?_⟩
      refine o_seq (o_set (w_bin (w_bin (w_var rfl (w_c (w_ixT (at2 _ _ _ _) (w_var rfl (w_ixT (at_enc hru) ?_))))))))
      refine o_if (w_T (w_bin (w_bin (w_bin (w_var rfl (w_c (m_ix (at0 _ _) (w_bin (w_var rfl (w_c (w_ixT (at0 _ _) (m_ix (at_enc hx0) ?_))))))))))))
      refine w_bin (w_var rfl (w_c (w_ixT (at1 _ _ _) (w_eqN ⟨_, rfl, ?_, ?_⟩))))
      · intro he
        have he : x0 = ru.s := by simpa using he
        refine o_if (w_T (w_bin (w_bin (w_bin (w_var rfl (w_c (w_ixT (at2 _ _ _ _) (w_c (w_first fun z hz => ?_)))))))))
        refine w_c (w_eqS ⟨_, rfl, ?_, ?_⟩)
        · intro ht
          have ht : z = "take" := by simpa using ht
          have hz := hz.mp ht
          cases ea : ru.a with
          | go => rw [ea] at hz; cases hz
          | send c t => rw [ea] at hz; cases hz
          | take c t =>
            have hol := opn_le h c
            have hfl := List.length_filter_le (fun m : Nat × Nat => decide (m.2 = t)) (opn N w c)
            refine o_set (w_bin (w_var rfl ?_))
            refine w_compA ((opn N w c).filter fun m => decide (m.2 = t)) (fun m => .int m.1) (fun m => encD (.take j m.1)) ?_ (by omega) ?_ (fun m _ => pl_D _) ?_
            · refine w_iSeq ?_
              repeat (first | (with_reducible apply w_bin) | (with_reducible apply w_m1) | (with_reducible apply w_un) | (with_reducible apply w_cons) | (with_reducible apply w_nil) | (with_reducible apply w_callN) | ((with_reducible apply w_var); exact rfl) | (with_reducible apply w_c) | (with_reducible apply w_T) | (with_reducible apply w_NotT) | (with_reducible apply w_AndT) | (with_reducible apply w_OrT) | (with_reducible apply w_And) | (with_reducible apply w_Or) | (with_reducible apply w_Not) | (with_reducible apply w_If) | (with_reducible apply w_tup) | (with_reducible apply w_lstF) | (with_reducible apply w_noP) | (with_reducible apply w_part) | (with_reducible apply w_slice) | (with_reducible apply w_isN) | (with_reducible apply w_add) | (with_reducible apply w_sub) | (with_reducible apply w_gt) | (with_reducible apply w_lt) | (with_reducible apply w_ge) | (with_reducible apply w_le) | (with_reducible apply w_eqI) | (with_reducible apply w_neI) | (with_reducible apply w_eqS) | (with_reducible apply w_neS) | ((with_reducible apply x_ixT); exact rfl; exact rfl) | ((with_reducible apply x_ixL); exact rfl; exact rfl) | ((with_reducible apply x_lenT); exact rfl) | ((with_reducible apply x_lenL); exact rfl) | (with_reducible apply w_intI) | (with_reducible apply w_intB) | (with_reducible apply w_tupT) | (with_reducible apply w_tupL) | (with_reducible apply w_slT) | (with_reducible apply w_slL) | (with_reducible apply w_iSeq) | (with_reducible apply w_iRg1) | (with_reducible apply ex_bl) | (with_reducible apply ex_int) | (with_reducible apply ex_neg) | (with_reducible refine And.intro (Nat.le_of_ble_eq_true rfl) ?_) | (with_reducible refine And.intro (rfl : List.length _ = _) ?_))
              exact w_takes hN h hn hru ea ⟨_, rfl, rfl, rfl⟩
            · rintro ⟨k, tk⟩ _
              refine ⟨_, rfl, fun s' => ?_⟩
              repeat (first | (with_reducible apply w_bin) | (with_reducible apply w_m1) | (with_reducible apply w_un) | (with_reducible apply w_cons) | (with_reducible apply w_nil) | (with_reducible apply w_callN) | ((with_reducible apply w_var); exact rfl) | (with_reducible apply w_c) | (with_reducible apply w_T) | (with_reducible apply w_NotT) | (with_reducible apply w_AndT) | (with_reducible apply w_OrT) | (with_reducible apply w_And) | (with_reducible apply w_Or) | (with_reducible apply w_Not) | (with_reducible apply w_If) | (with_reducible apply w_tup) | (with_reducible apply w_lstF) | (with_reducible apply w_noP) | (with_reducible apply w_part) | (with_reducible apply w_slice) | (with_reducible apply w_isN) | (with_reducible apply w_add) | (with_reducible apply w_sub) | (with_reducible apply w_gt) | (with_reducible apply w_lt) | (with_reducible apply w_ge) | (with_reducible apply w_le) | (with_reducible apply w_eqI) | (with_reducible apply w_neI) | (with_reducible apply w_eqS) | (with_reducible apply w_neS) | ((with_reducible apply x_ixT); exact rfl; exact rfl) | ((with_reducible apply x_ixL); exact rfl; exact rfl) | ((with_reducible apply x_lenT); exact rfl) | ((with_reducible apply x_lenL); exact rfl) | (with_reducible apply w_intI) | (with_reducible apply w_intB) | (with_reducible apply w_tupT) | (with_reducible apply w_tupL) | (with_reducible apply w_slT) | (with_reducible apply w_slL) | (with_reducible apply w_iSeq) | (with_reducible apply w_iRg1) | (with_reducible apply ex_bl) | (with_reducible apply ex_int) | (with_reducible apply ex_neg) | (with_reducible refine And.intro (Nat.le_of_ble_eq_true rfl) ?_) | (with_reducible refine And.intro (rfl : List.length _ = _) ?_))
              exact ⟨rfl, rfl⟩
            · refine w_addR hk2 (lim_of (by simp only [List.length_map]; omega)) ?_
              refine ⟨hjl, _, _, _, _, _, _, rfl, ?_⟩
              have : rD N w j = ((opn N w c).filter fun m => decide (m.2 = t)).map fun m => Deed.take j m.1 := by
                unfold rD ruD
                rw [hru]
                simp only
                rw [if_pos (by rw [hx0, he]), ea]
              rw [upto_succ, this]
              have := Fnd.more (m := ((opn N w c).filter fun m => decide (m.2 = t)).map fun m => Deed.take j m.1) hk1 hk2
              rw [List.map_map] at this
              exact this
        · intro ht
          have ht : ¬ z = "take" := by simpa using ht
          refine o_expr (w_meth (w_var rfl ⟨by simp [tyM, hk2], ?_⟩))
          repeat (first | (with_reducible apply w_bin) | (with_reducible apply w_m1) | (with_reducible apply w_un) | (with_reducible apply w_cons) | (with_reducible apply w_nil) | (with_reducible apply w_callN) | ((with_reducible apply w_var); exact rfl) | (with_reducible apply w_c) | (with_reducible apply w_T) | (with_reducible apply w_NotT) | (with_reducible apply w_AndT) | (with_reducible apply w_OrT) | (with_reducible apply w_And) | (with_reducible apply w_Or) | (with_reducible apply w_Not) | (with_reducible apply w_If) | (with_reducible apply w_tup) | (with_reducible apply w_lstF) | (with_reducible apply w_noP) | (with_reducible apply w_part) | (with_reducible apply w_slice) | (with_reducible apply w_isN) | (with_reducible apply w_add) | (with_reducible apply w_sub) | (with_reducible apply w_gt) | (with_reducible apply w_lt) | (with_reducible apply w_ge) | (with_reducible apply w_le) | (with_reducible apply w_eqI) | (with_reducible apply w_neI) | (with_reducible apply w_eqS) | (with_reducible apply w_neS) | ((with_reducible apply x_ixT); exact rfl; exact rfl) | ((with_reducible apply x_ixL); exact rfl; exact rfl) | ((with_reducible apply x_lenT); exact rfl) | ((with_reducible apply x_lenL); exact rfl) | (with_reducible apply w_intI) | (with_reducible apply w_intB) | (with_reducible apply w_tupT) | (with_reducible apply w_tupL) | (with_reducible apply w_slT) | (with_reducible apply w_slL) | (with_reducible apply w_iSeq) | (with_reducible apply w_iRg1) | (with_reducible apply ex_bl) | (with_reducible apply ex_int) | (with_reducible apply ex_neg) | (with_reducible refine And.intro (Nat.le_of_ble_eq_true rfl) ?_) | (with_reducible refine And.intro (rfl : List.length _ = _) ?_))
          refine w_app hk2 (lim_lt (by rw [List.length_map]; omega)) ?_
          refine ⟨hjl, _, _, _, _, _, _, rfl, ?_⟩
          have : rD N w j = [.act j] := by
            unfold rD ruD
            rw [hru]
            simp only
            rw [if_pos (by rw [hx0, he])]
            split
            · rename_i c t ea
              rw [ea] at hz
              exact absurd (hz.mpr rfl) ht
            · rfl
          rw [upto_succ, this]
          exact Fnd.app hk1 hk2
      · intro he
        have he : ¬ x0 = ru.s := by simpa using he
        refine o_nil ⟨hjl, _, _, _, _, _, _, rfl, ?_⟩
        have : rD N w j = [] := by
          unfold rD ruD
          rw [hru]
          simp only
          rw [if_neg (by rw [hx0]; simpa using he)]
        rw [upto_succ, this, List.append_nil]
        exact Fnd.sub hk1 hk2 rfl
    · rintro e s' ⟨_, v2, v3, v4, v5, v6, v7, rfl, hf⟩
      refine ⟨v2, v3, v4, v5, v6, v7, rfl, ?_⟩
      simpa [rngD] using hf
  rintro e s' ⟨v2, v3, v4, v5, v6, v7, rfl, hf⟩
  refine o_cut (fun e s' => ∃ v2 v3 v4 v5 v6 v7, e = [some (tN N), some (encW true w), v2, v3, v4, v5, v6, v7] ∧ Fnd s (poss N w) v2 s') ?_ ?_
  · refine o_for (w_iRg1 (w_m1 (w_bin (w_var rfl (w_c (w_ixT (at1 _ _ _) (w_lenT ⟨_, rfl, by rw [List.length_map]; omega, ?_⟩)))))))
    refine ⟨fun j e s' => j ≤ N.cs.length ∧ ∃ v2 v3 v4 v5 v6 v7, e = [some (tN N), some (encW true w), v2, v3, v4, v5, v6, v7] ∧ Fnd s (upto (rD N w) N.rs.length ++ upto (lD N w) j) v2 s', ⟨Nat.zero_le _, v2, v3, v4, v5, v6, v7, rfl, by simpa [upto] using hf⟩, fun _ _ _ _ => rfl, ?_, ?_⟩
    · rintro j x hx e s' ⟨hj, v2, v3, v4, v5, v6, v7, rfl, k, ext, rfl, rfl, hk1, hk2⟩
      rw [List.length_map] at hx
      have hjl : j < N.cs.length := by
        have := (List.getElem?_eq_some_iff.mp hx).1
        simpa [rngD] using this
      have hxx : x = .int j := by
        simp [rngD, hjl] at hx
        exact hx.symm
      subst hxx
      obtain ⟨ch, hch⟩ : ∃ ch, N.cs[j]? = some ch := ⟨N.cs[j], by simp [hjl]⟩
      have hck : chK N j = ch.kind := by
        unfold chK
        rw [hch]
      have hlen := upto_len (rD_len h) N.rs.length
      have hlen2 : N.rs.length * (n + 1) ≤ 40 * 10001 := Nat.mul_le_mul (by omega) (by omega)
      have hlen3 := upto_len (lD_len h) j
      have hlen4 : j * (n + 1) ≤ 8 * 10001 := Nat.mul_le_mul (by omega) (by omega)
      have hrow := row_at (w := w) (c := j) (by rw [h.pr]; exact hjl)
      have hol := opn_le h j
      have hrl := row_le h j
      refine ⟨_, _, rfl, ?_⟩
      refine o_cut (fun e s' => ∃ v2 v3 v5 v6 v7, e = [some (tN N), some (encW true w), v2, v3, some (.int j), v5, v6, v7] ∧ Fnd s (upto (rD N w) N.rs.length ++ upto (lD N w) j ++ (if ord ch.kind = true then lD N w j else [])) v2 s') ?_ ?_
      · refine o_if (w_T (w_bin (w_bin (w_bin (w_bin (w_var rfl (w_c (w_ixT (at1 _ _ _) (w_var rfl (w_ixT (at_enc hch) (w_c (w_ixT (at3 _ _ _ _ _) (w_c (w_eqS ⟨_, rfl, ?_, ?_⟩))))))))))))))
        · intro hk
          have hk : kindOf ch.kind = "order lossy" := of_decide_eq_true hk
          obtain ⟨ho, hl⟩ := (kind_ol ch.kind).mp hk
          have hop : opn N w j = (rowOf w j).take 1 := by
            unfold opn
            rw [hck, if_pos ho]
          have hld : lD N w j = ((rowOf w j).take 1).map fun m => Deed.lose j m.1 := by
            unfold lD
            rw [hck, if_pos hl, hop]
          refine o_set (w_bin (w_var rfl ?_))
          refine w_compA ((rowOf w j).take 1) (encM true) (fun m => encD (.lose j m.1)) ?_ (by rw [List.length_take]; omega) ?_ (fun m _ => pl_D _) ?_
          · refine w_iSeq (w_slice (w_bin (w_bin (w_var rfl (w_c (m_ix (at2 _ _ _ _) (w_var rfl (m_ix (at_enc hrow) ?_))))))))
            repeat (first | (with_reducible apply w_bin) | (with_reducible apply w_m1) | (with_reducible apply w_un) | (with_reducible apply w_cons) | (with_reducible apply w_nil) | (with_reducible apply w_callN) | ((with_reducible apply w_var); exact rfl) | (with_reducible apply w_c) | (with_reducible apply w_T) | (with_reducible apply w_NotT) | (with_reducible apply w_AndT) | (with_reducible apply w_OrT) | (with_reducible apply w_And) | (with_reducible apply w_Or) | (with_reducible apply w_Not) | (with_reducible apply w_If) | (with_reducible apply w_tup) | (with_reducible apply w_lstF) | (with_reducible apply w_noP) | (with_reducible apply w_part) | (with_reducible apply w_slice) | (with_reducible apply w_isN) | (with_reducible apply w_add) | (with_reducible apply w_sub) | (with_reducible apply w_gt) | (with_reducible apply w_lt) | (with_reducible apply w_ge) | (with_reducible apply w_le) | (with_reducible apply w_eqI) | (with_reducible apply w_neI) | (with_reducible apply w_eqS) | (with_reducible apply w_neS) | ((with_reducible apply x_ixT); exact rfl; exact rfl) | ((with_reducible apply x_ixL); exact rfl; exact rfl) | ((with_reducible apply x_lenT); exact rfl) | ((with_reducible apply x_lenL); exact rfl) | (with_reducible apply w_intI) | (with_reducible apply w_intB) | (with_reducible apply w_tupT) | (with_reducible apply w_tupL) | (with_reducible apply w_slT) | (with_reducible apply w_slL) | (with_reducible apply w_iSeq) | (with_reducible apply w_iRg1) | (with_reducible apply ex_bl) | (with_reducible apply ex_int) | (with_reducible apply ex_neg) | (with_reducible refine And.intro (Nat.le_of_ble_eq_true rfl) ?_) | (with_reducible refine And.intro (rfl : List.length _ = _) ?_))
            refine m_sl ?_
            rw [e1, ← List.map_take]
            exact ⟨_, m_iter, rfl, rfl⟩
          · rintro ⟨k, tk⟩ _
            refine ⟨_, rfl, fun s' => ?_⟩
            repeat (first | (with_reducible apply w_bin) | (with_reducible apply w_m1) | (with_reducible apply w_un) | (with_reducible apply w_cons) | (with_reducible apply w_nil) | (with_reducible apply w_callN) | ((with_reducible apply w_var); exact rfl) | (with_reducible apply w_c) | (with_reducible apply w_T) | (with_reducible apply w_NotT) | (with_reducible apply w_AndT) | (with_reducible apply w_OrT) | (with_reducible apply w_And) | (with_reducible apply w_Or) | (with_reducible apply w_Not) | (with_reducible apply w_If) | (with_reducible apply w_tup) | (with_reducible apply w_lstF) | (with_reducible apply w_noP) | (with_reducible apply w_part) | (with_reducible apply w_slice) | (with_reducible apply w_isN) | (with_reducible apply w_add) | (with_reducible apply w_sub) | (with_reducible apply w_gt) | (with_reducible apply w_lt) | (with_reducible apply w_ge) | (with_reducible apply w_le) | (with_reducible apply w_eqI) | (with_reducible apply w_neI) | (with_reducible apply w_eqS) | (with_reducible apply w_neS) | ((with_reducible apply x_ixT); exact rfl; exact rfl) | ((with_reducible apply x_ixL); exact rfl; exact rfl) | ((with_reducible apply x_lenT); exact rfl) | ((with_reducible apply x_lenL); exact rfl) | (with_reducible apply w_intI) | (with_reducible apply w_intB) | (with_reducible apply w_tupT) | (with_reducible apply w_tupL) | (with_reducible apply w_slT) | (with_reducible apply w_slL) | (with_reducible apply w_iSeq) | (with_reducible apply w_iRg1) | (with_reducible apply ex_bl) | (with_reducible apply ex_int) | (with_reducible apply ex_neg) | (with_reducible refine And.intro (Nat.le_of_ble_eq_true rfl) ?_) | (with_reducible refine And.intro (rfl : List.length _ = _) ?_))
            exact ⟨rfl, rfl⟩
          · refine w_addR hk2 (lim_of (by simp only [List.length_map, List.length_append, List.length_take]; omega)) ?_
            refine ⟨_, _, _, _, _, rfl, ?_⟩
            rw [if_pos ho, hld]
            have := Fnd.more (m := ((rowOf w j).take 1).map fun m => Deed.lose j m.1) hk1 hk2
            rw [List.map_map] at this
            exact this
        · intro hk
          have hk : ¬ kindOf ch.kind = "order lossy" := of_decide_eq_false hk
          refine o_nil ⟨_, _, _, _, _, rfl, Fnd.sub hk1 hk2 ?_⟩
          by_cases ho : ord ch.kind = true
          · have hl : lossy ch.kind = false := by
              cases hl : lossy ch.kind with
              | false => rfl
              | true => exact absurd ((kind_ol ch.kind).mpr ⟨ho, hl⟩) hk
            rw [if_pos ho]
            unfold lD
            rw [hck, if_neg (by rw [hl]; simp), List.append_nil]
          · rw [if_neg ho, List.append_nil]
      · rintro e s' ⟨v2, v3, v5, v6, v7, rfl, k, ext, rfl, rfl, hk1, hk2⟩
        have hl5 : (if ord ch.kind = true then lD N w j else []).length ≤ n + 1 := by
          split
          · exact lD_len h j
          · simp
        refine o_if (w_T (w_bin (w_bin (w_bin (w_bin (w_var rfl (w_c (w_ixT (at1 _ _ _) (w_var rfl (w_ixT (at_enc hch) (w_c (w_ixT (at3 _ _ _ _ _) (w_c (w_eqS ⟨_, rfl, ?_, ?_⟩))))))))))))))
        · intro hk
          have hk : kindOf ch.kind = "loose lossy" := of_decide_eq_true hk
          obtain ⟨ho, hl⟩ := (kind_ll ch.kind).mp hk
          have hno : ¬ ord ch.kind = true := by rw [ho]; simp
          rw [if_neg hno, List.append_nil] at hk2
          have hop : opn N w j = rowOf w j := by
            unfold opn
            rw [hck, if_neg hno]
          have hld : lD N w j = (rowOf w j).map fun m => Deed.lose j m.1 := by
            unfold lD
            rw [hck, if_pos hl, hop]
          refine o_set (w_bin (w_var rfl ?_))
          refine w_compA (rowOf w j) (encM true) (fun m => encD (.lose j m.1)) ?_ (by omega) ?_ (fun m _ => pl_D _) ?_
          · exact w_iSeq (w_bin (w_bin (w_var rfl (w_c (m_ix (at2 _ _ _ _) (w_var rfl (m_ix (at_enc hrow) ⟨_, m_iter, rfl, rfl⟩)))))))
          · rintro ⟨k, tk⟩ _
            refine ⟨_, rfl, fun s' => ?_⟩
            repeat (first | (with_reducible apply w_bin) | (with_reducible apply w_m1) | (with_reducible apply w_un) | (with_reducible apply w_cons) | (with_reducible apply w_nil) | (with_reducible apply w_callN) | ((with_reducible apply w_var); exact rfl) | (with_reducible apply w_c) | (with_reducible apply w_T) | (with_reducible apply w_NotT) | (with_reducible apply w_AndT) | (with_reducible apply w_OrT) | (with_reducible apply w_And) | (with_reducible apply w_Or) | (with_reducible apply w_Not) | (with_reducible apply w_If) | (with_reducible apply w_tup) | (with_reducible apply w_lstF) | (with_reducible apply w_noP) | (with_reducible apply w_part) | (with_reducible apply w_slice) | (with_reducible apply w_isN) | (with_reducible apply w_add) | (with_reducible apply w_sub) | (with_reducible apply w_gt) | (with_reducible apply w_lt) | (with_reducible apply w_ge) | (with_reducible apply w_le) | (with_reducible apply w_eqI) | (with_reducible apply w_neI) | (with_reducible apply w_eqS) | (with_reducible apply w_neS) | ((with_reducible apply x_ixT); exact rfl; exact rfl) | ((with_reducible apply x_ixL); exact rfl; exact rfl) | ((with_reducible apply x_lenT); exact rfl) | ((with_reducible apply x_lenL); exact rfl) | (with_reducible apply w_intI) | (with_reducible apply w_intB) | (with_reducible apply w_tupT) | (with_reducible apply w_tupL) | (with_reducible apply w_slT) | (with_reducible apply w_slL) | (with_reducible apply w_iSeq) | (with_reducible apply w_iRg1) | (with_reducible apply ex_bl) | (with_reducible apply ex_int) | (with_reducible apply ex_neg) | (with_reducible refine And.intro (Nat.le_of_ble_eq_true rfl) ?_) | (with_reducible refine And.intro (rfl : List.length _ = _) ?_))
            exact ⟨rfl, rfl⟩
          · refine w_addR hk2 (lim_of (by simp only [List.length_map, List.length_append]; omega)) ?_
            refine ⟨hjl, _, _, _, _, _, _, rfl, ?_⟩
            rw [upto_succ, hld, ← List.append_assoc]
            have := Fnd.more (m := (rowOf w j).map fun m => Deed.lose j m.1) hk1 hk2
            rw [List.map_map] at this
            exact this
        · intro hk
          have hk : ¬ kindOf ch.kind = "loose lossy" := of_decide_eq_false hk
          refine o_nil ⟨hjl, _, _, _, _, _, _, rfl, Fnd.sub hk1 hk2 ?_⟩
          rw [upto_succ, ← List.append_assoc]
          congr 1
          by_cases ho : ord ch.kind = true
          · rw [if_pos ho]
          · rw [if_neg ho]
            have hl : lossy ch.kind = false := by
              cases hl : lossy ch.kind with
              | false => rfl
              | true => exact absurd ((kind_ll ch.kind).mpr ⟨by simpa using ho, hl⟩) hk
            unfold lD
            rw [hck, if_neg (by rw [hl]; simp)]
    · rintro e s' ⟨_, v2, v3, v4, v5, v6, v7, rfl, hf⟩
      refine ⟨v2, v3, v4, v5, v6, v7, rfl, ?_⟩
      simpa [rngD, poss] using hf
  rintro e s' ⟨v2, v3, v4, v5, v6, v7, rfl, k, ext, rfl, rfl, hk1, hk2⟩
  refine o_ret (w_m1 (w_var rfl (w_tupR hk2 ?_)))
  exact fin_app (by unfold pl; exact plL_map pl_D _) q
end
end K

namespace K
open PySem Cw
/-- a deed of the net -/
def DeedOk (N : Net) : Deed → Prop
  | .act r => ∃ ru, N.rs[r]? = some ru ∧ isTake ru.a = false
  | .take r _ => ∃ ru, N.rs[r]? = some ru ∧ isTake ru.a = true
  | .lose c _ => c < N.cs.length ∧ lossy (chK N c) = true
/-- it can be done -/
def canD (N : Net) (w : Wd) : Deed → Bool
  | .act r => match N.rs[r]? with
    | some ru => decide (w.st[ru.p]? = some ru.s)
    | none => false
  | .take r k => match N.rs[r]? with
    | some ru => decide (w.st[ru.p]? = some ru.s) && (match ru.a with
      | .take c t => decide ((k, t) ∈ opn N w c)
      | _ => false)
    | none => false
  | .lose c k => decide (k ∈ (opn N w c).map (·.1))
/-- the world behind -/
def beh (N : Net) (w : Wd) : Deed → Wd
  | .act r => match N.rs[r]? with
    | some ru => match ru.a with
      | .send c t => ⟨w.st.set ru.p ru.s2, w.se.set c (w.se[c]?.getD 0 + 1), w.pr.set c (rowOf w c ++ [(w.se[c]?.getD 0, t)])⟩
      | _ => ⟨w.st.set ru.p ru.s2, w.se, w.pr⟩
    | none => w
  | .take r k => match N.rs[r]? with
    | some ru => match ru.a with
      | .take c _ => ⟨w.st.set ru.p ru.s2, w.se, w.pr.set c ((rowOf w c).filter fun m => !decide (m.1 = k))⟩
      | _ => w
    | none => w
  | .lose c k => ⟨w.st, w.se, w.pr.set c ((rowOf w c).filter fun m => !decide (m.1 = k))⟩
theorem ru_ok {N : Net} {r : Nat} {ru : Rule} (hN : NetOk N) (h : N.rs[r]? = some ru) : ru.p < N.ps.length ∧ (∀ c t, (ru.a = .send c t ∨ ru.a = .take c t) → c < N.cs.length) := by
  obtain ⟨⟨pp, hpp, _, _⟩, hact⟩ := hN.rn ru (List.mem_of_getElem? h)
  refine ⟨(List.getElem?_eq_some_iff.mp hpp).1, fun c t e => ?_⟩
  rcases e with e | e
  · rw [e] at hact
    obtain ⟨⟨ch, hch, _⟩, _⟩ := hact
    exact (List.getElem?_eq_some_iff.mp hch).1
  · rw [e] at hact
    obtain ⟨⟨ch, hch, _⟩, _⟩ := hact
    exact (List.getElem?_eq_some_iff.mp hch).1
theorem beh_ok {N : Net} {n : Nat} {w : Wd} (hN : NetOk N) (h : WdOk N n w) (d : Deed) (hd : DeedOk N d) : WdOk N (n + 1) (beh N w d) := by
  have up : WdOk N (n + 1) w := ⟨h.st, h.se, h.pr, fun r hr => Nat.le_succ_of_le (h.row r hr)⟩
  have flt : ∀ c k, ∀ r ∈ w.pr.set c ((rowOf w c).filter fun m => !decide (m.1 = k)), r.length ≤ n + 1 := fun c k r hr => by
    rcases List.mem_or_eq_of_mem_set hr with hr | rfl
    · exact up.row r hr
    · have h1 := List.length_filter_le (fun m : Nat × Nat => !decide (m.1 = k)) (rowOf w c)
      have h2 := row_le h c
      omega
  cases d with
  | act r =>
    obtain ⟨ru, hr, _⟩ := hd
    simp only [beh, hr]
    split
    · rename_i c t _
      refine ⟨by simpa using h.st, by simpa using h.se, by simpa using h.pr, fun r hr => ?_⟩
      rcases List.mem_or_eq_of_mem_set hr with hr | rfl
      · exact up.row r hr
      · have h2 := row_le h c
        rw [List.length_append]
        simpa using h2
    · exact ⟨by simpa using h.st, h.se, h.pr, up.row⟩
  | take r k =>
    obtain ⟨ru, hr, _⟩ := hd
    simp only [beh, hr]
    split
    · rename_i c t _
      exact ⟨by simpa using h.st, h.se, by simpa using h.pr, flt c k⟩
    · exact up
  | lose c k => exact ⟨h.st, h.se, by simpa [beh] using h.pr, flt c k⟩
theorem poss_ok {N : Net} {w : Wd} {d : Deed} (h : d ∈ poss N w) : DeedOk N d ∧ canD N w d = true := by
  unfold poss at h
  rcases List.mem_append.mp h with h | h
  · obtain ⟨r, hr, h⟩ := upto_mem h
    unfold rD at h
    cases e : N.rs[r]? with
    | none => rw [e] at h; cases h
    | some ru =>
      rw [e] at h
      simp only [ruD] at h
      split at h
      · rename_i hs
        split at h
        · rename_i c t ea
          obtain ⟨m, hm, rfl⟩ := List.mem_map.mp h
          obtain ⟨h1, h2⟩ := List.mem_filter.mp hm
          have h2 : m.2 = t := of_decide_eq_true h2
          refine ⟨⟨ru, e, by rw [ea]; rfl⟩, ?_⟩
          simp only [canD, e, ea, hs]
          subst h2
          simpa using h1
        · rename_i hne
          rw [List.mem_singleton] at h
          subst h
          refine ⟨⟨ru, e, ?_⟩, ?_⟩
          · cases ea : ru.a with
            | take c t => exact absurd ea (hne c t)
            | _ => rfl
          · simp only [canD, e]
            simpa using hs
      · cases h
  · obtain ⟨c, hc, h⟩ := upto_mem h
    unfold lD at h
    split at h
    · rename_i hl
      obtain ⟨m, hm, rfl⟩ := List.mem_map.mp h
      refine ⟨⟨hc, hl⟩, ?_⟩
      simp only [canD]
      rw [decide_eq_true_eq]
      exact List.mem_map_of_mem hm
    · cases h
theorem ok_poss {N : Net} {w : Wd} {d : Deed} (h : DeedOk N d) (hc : canD N w d = true) : d ∈ poss N w := by
  unfold poss
  rw [List.mem_append]
  cases d with
  | act r =>
    obtain ⟨ru, e, h2⟩ := h
    simp only [canD, e] at hc
    refine .inl (upto_in (i := r) (List.getElem?_eq_some_iff.mp e).1 ?_)
    unfold rD ruD
    rw [e]
    simp only
    rw [if_pos (by simpa using hc)]
    split
    · rename_i c t ea
      rw [ea] at h2
      cases h2
    · simp
  | take r k =>
    obtain ⟨ru, e, h2⟩ := h
    simp only [canD, e] at hc
    refine .inl (upto_in (i := r) (List.getElem?_eq_some_iff.mp e).1 ?_)
    unfold rD ruD
    rw [e]
    simp only
    rw [Bool.and_eq_true] at hc
    obtain ⟨c1, c2⟩ := hc
    rw [if_pos (by simpa using c1)]
    split
    · rename_i c t ea
      rw [ea] at c2
      have c2 : (k, t) ∈ opn N w c := of_decide_eq_true c2
      exact List.mem_map.mpr ⟨(k, t), List.mem_filter.mpr ⟨c2, by simp⟩, rfl⟩
    · rename_i hne
      cases ea : ru.a with
      | take c t => exact absurd ea (hne c t)
      | go => rw [ea] at h2; cases h2
      | send c t => rw [ea] at h2; cases h2
  | lose c k =>
    obtain ⟨h1, h2⟩ := h
    refine .inr (upto_in h1 ?_)
    unfold lD
    rw [if_pos h2]
    have hc : k ∈ (opn N w c).map (·.1) := of_decide_eq_true hc
    obtain ⟨m, hm, rfl⟩ := List.mem_map.mp hc
    exact List.mem_map.mpr ⟨m, hm, rfl⟩
theorem set_cut {α : Type} {l : List α} {i : Nat} (h : i < l.length) (x : α) : l.take i ++ [x] ++ l.drop (i + 1) = l.set i x := by
  rw [List.set_eq_take_append_cons_drop, if_pos h]
  simp
section
variable {N : Net} {n : Nat} {w : Wd} {b : Bool} {s : Sto} {Q : D → Sto → Prop}
theorem w_withp {ds : List D} {i : Nat} {x : D} (h : i < ds.length) (hl : ds.length < 1000000) (hp : plL (ds.set i x) = true) (q : Q (.tup (ds.set i x)) s) : wp (m__with_part [.tup ds, .int i, x] s) Q := by
  unfold m__with_part
  refine w_run ?_
  show wo (mb__with_part [some (.tup ds), some (.int i), some x] s) _ _ _ _
  unfold mb__with_part
  have e2 : cutD ds (some ((i : Int) + 1)) none = ds.drop (i + 1) := cut_from ds (k := i + 1)
  refine o_ret ?_
  repeat (first | (with_reducible apply w_bin) | (with_reducible apply w_m1) | (with_reducible apply w_un) | (with_reducible apply w_cons) | (with_reducible apply w_nil) | (with_reducible apply w_callN) | ((with_reducible apply w_var); exact rfl) | (with_reducible apply w_c) | (with_reducible apply w_T) | (with_reducible apply w_NotT) | (with_reducible apply w_AndT) | (with_reducible apply w_OrT) | (with_reducible apply w_And) | (with_reducible apply w_Or) | (with_reducible apply w_Not) | (with_reducible apply w_If) | (with_reducible apply w_tup) | (with_reducible apply w_lstF) | (with_reducible apply w_noP) | (with_reducible apply w_part) | (with_reducible apply w_slice) | (with_reducible apply w_isN) | (with_reducible apply w_add) | (with_reducible apply w_sub) | (with_reducible apply w_gt) | (with_reducible apply w_lt) | (with_reducible apply w_ge) | (with_reducible apply w_le) | (with_reducible apply w_eqI) | (with_reducible apply w_neI) | (with_reducible apply w_eqS) | (with_reducible apply w_neS) | ((with_reducible apply x_ixT); exact rfl; exact rfl) | ((with_reducible apply x_ixL); exact rfl; exact rfl) | ((with_reducible apply x_lenT); exact rfl) | ((with_reducible apply x_lenL); exact rfl) | (with_reducible apply w_intI) | (with_reducible apply w_intB) | (with_reducible apply w_tupT) | (with_reducible apply w_tupL) | (with_reducible apply w_slT) | (with_reducible apply w_slL) | (with_reducible apply w_iSeq) | (with_reducible apply w_iRg1) | (with_reducible apply ex_bl) | (with_reducible apply ex_int) | (with_reducible apply ex_neg) | (with_reducible refine And.intro (Nat.le_of_ble_eq_true rfl) ?_) | (with_reducible refine And.intro (rfl : List.length _ = _) ?_))
  rw [cut_to]
  refine w_addT (lim_of (by simp; omega)) ?_
  repeat (first | (with_reducible apply w_bin) | (with_reducible apply w_m1) | (with_reducible apply w_un) | (with_reducible apply w_cons) | (with_reducible apply w_nil) | (with_reducible apply w_callN) | ((with_reducible apply w_var); exact rfl) | (with_reducible apply w_c) | (with_reducible apply w_T) | (with_reducible apply w_NotT) | (with_reducible apply w_AndT) | (with_reducible apply w_OrT) | (with_reducible apply w_And) | (with_reducible apply w_Or) | (with_reducible apply w_Not) | (with_reducible apply w_If) | (with_reducible apply w_tup) | (with_reducible apply w_lstF) | (with_reducible apply w_noP) | (with_reducible apply w_part) | (with_reducible apply w_slice) | (with_reducible apply w_isN) | (with_reducible apply w_add) | (with_reducible apply w_sub) | (with_reducible apply w_gt) | (with_reducible apply w_lt) | (with_reducible apply w_ge) | (with_reducible apply w_le) | (with_reducible apply w_eqI) | (with_reducible apply w_neI) | (with_reducible apply w_eqS) | (with_reducible apply w_neS) | ((with_reducible apply x_ixT); exact rfl; exact rfl) | ((with_reducible apply x_ixL); exact rfl; exact rfl) | ((with_reducible apply x_lenT); exact rfl) | ((with_reducible apply x_lenL); exact rfl) | (with_reducible apply w_intI) | (with_reducible apply w_intB) | (with_reducible apply w_tupT) | (with_reducible apply w_tupL) | (with_reducible apply w_slT) | (with_reducible apply w_slL) | (with_reducible apply w_iSeq) | (with_reducible apply w_iRg1) | (with_reducible apply ex_bl) | (with_reducible apply ex_int) | (with_reducible apply ex_neg) | (with_reducible refine And.intro (Nat.le_of_ble_eq_true rfl) ?_) | (with_reducible refine And.intro (rfl : List.length _ = _) ?_))
  rw [e2]
  refine w_addT (lim_of (by simp; omega)) ?_
  rw [set_cut h]
  exact fin_same (by unfold pl; exact hp) q
theorem w_lwith {ds : List D} {i : Nat} {x : D} (h : i < ds.length) (hl : ds.length < 1000000) (hp : plL (ds.set i x) = true) (q : Q (.tup (ds.set i x)) s) : wp (m__law_with [.tup ds, .int i, x] s) Q := by
  unfold m__law_with
  refine w_run ?_
  show wo (mb__law_with [some (.tup ds), some (.int i), some x] s) _ _ _ _
  unfold mb__law_with
  have e2 : cutD ds (some ((i : Int) + 1)) none = ds.drop (i + 1) := cut_from ds (k := i + 1)
  refine o_ret ?_
  repeat (first | (with_reducible apply w_bin) | (with_reducible apply w_m1) | (with_reducible apply w_un) | (with_reducible apply w_cons) | (with_reducible apply w_nil) | (with_reducible apply w_callN) | ((with_reducible apply w_var); exact rfl) | (with_reducible apply w_c) | (with_reducible apply w_T) | (with_reducible apply w_NotT) | (with_reducible apply w_AndT) | (with_reducible apply w_OrT) | (with_reducible apply w_And) | (with_reducible apply w_Or) | (with_reducible apply w_Not) | (with_reducible apply w_If) | (with_reducible apply w_tup) | (with_reducible apply w_lstF) | (with_reducible apply w_noP) | (with_reducible apply w_part) | (with_reducible apply w_slice) | (with_reducible apply w_isN) | (with_reducible apply w_add) | (with_reducible apply w_sub) | (with_reducible apply w_gt) | (with_reducible apply w_lt) | (with_reducible apply w_ge) | (with_reducible apply w_le) | (with_reducible apply w_eqI) | (with_reducible apply w_neI) | (with_reducible apply w_eqS) | (with_reducible apply w_neS) | ((with_reducible apply x_ixT); exact rfl; exact rfl) | ((with_reducible apply x_ixL); exact rfl; exact rfl) | ((with_reducible apply x_lenT); exact rfl) | ((with_reducible apply x_lenL); exact rfl) | (with_reducible apply w_intI) | (with_reducible apply w_intB) | (with_reducible apply w_tupT) | (with_reducible apply w_tupL) | (with_reducible apply w_slT) | (with_reducible apply w_slL) | (with_reducible apply w_iSeq) | (with_reducible apply w_iRg1) | (with_reducible apply ex_bl) | (with_reducible apply ex_int) | (with_reducible apply ex_neg) | (with_reducible refine And.intro (Nat.le_of_ble_eq_true rfl) ?_) | (with_reducible refine And.intro (rfl : List.length _ = _) ?_))
  rw [cut_to]
  refine w_addT (lim_of (by simp; omega)) ?_
  repeat (first | (with_reducible apply w_bin) | (with_reducible apply w_m1) | (with_reducible apply w_un) | (with_reducible apply w_cons) | (with_reducible apply w_nil) | (with_reducible apply w_callN) | ((with_reducible apply w_var); exact rfl) | (with_reducible apply w_c) | (with_reducible apply w_T) | (with_reducible apply w_NotT) | (with_reducible apply w_AndT) | (with_reducible apply w_OrT) | (with_reducible apply w_And) | (with_reducible apply w_Or) | (with_reducible apply w_Not) | (with_reducible apply w_If) | (with_reducible apply w_tup) | (with_reducible apply w_lstF) | (with_reducible apply w_noP) | (with_reducible apply w_part) | (with_reducible apply w_slice) | (with_reducible apply w_isN) | (with_reducible apply w_add) | (with_reducible apply w_sub) | (with_reducible apply w_gt) | (with_reducible apply w_lt) | (with_reducible apply w_ge) | (with_reducible apply w_le) | (with_reducible apply w_eqI) | (with_reducible apply w_neI) | (with_reducible apply w_eqS) | (with_reducible apply w_neS) | ((with_reducible apply x_ixT); exact rfl; exact rfl) | ((with_reducible apply x_ixL); exact rfl; exact rfl) | ((with_reducible apply x_lenT); exact rfl) | ((with_reducible apply x_lenL); exact rfl) | (with_reducible apply w_intI) | (with_reducible apply w_intB) | (with_reducible apply w_tupT) | (with_reducible apply w_tupL) | (with_reducible apply w_slT) | (with_reducible apply w_slL) | (with_reducible apply w_iSeq) | (with_reducible apply w_iRg1) | (with_reducible apply ex_bl) | (with_reducible apply ex_int) | (with_reducible apply ex_neg) | (with_reducible refine And.intro (Nat.le_of_ble_eq_true rfl) ?_) | (with_reducible refine And.intro (rfl : List.length _ = _) ?_))
  rw [e2]
  refine w_addT (lim_of (by simp; omega)) ?_
  rw [set_cut h]
  exact fin_same (by unfold pl; exact hp) q
theorem set_enc {α : Type} {f : α → D} (hf : ∀ a, pl (f a) = true) (l : List α) (i : Nat) (x : α) : (l.map f).set i (f x) = (l.set i x).map f ∧ plL ((l.map f).set i (f x)) = true := by
  have e : (l.map f).set i (f x) = (l.set i x).map f := List.map_set.symm
  exact ⟨e, by rw [e]; exact plL_map hf _⟩
theorem w_wpN {l : List Nat} {i v : Nat} (h : i < l.length) (hl : l.length < 1000000) (q : Q (encN true (l.set i v)) s) : wp (m__with_part [encN true l, .int i, .int v] s) Q := by
  obtain ⟨e, p⟩ := set_enc (f := encI) (fun _ => rfl) l i v
  refine w_withp (ds := l.map encI) (x := encI v) (by simpa using h) (by simpa using hl) p ?_
  rw [e]
  exact q
theorem w_wpP {l : List (List (Nat × Nat))} {i : Nat} {v : List (Nat × Nat)} (h : i < l.length) (hl : l.length < 1000000) (q : Q (encPr true (l.set i v)) s) : wp (m__with_part [encPr true l, .int i, encRow true v] s) Q := by
  obtain ⟨e, p⟩ := set_enc (f := encRow true) (pl_Row true) l i v
  refine w_withp (ds := l.map (encRow true)) (x := encRow true v) (by simpa using h) (by simpa using hl) p ?_
  rw [e]
  exact q
theorem w_lwN {l : List Nat} {i v : Nat} (h : i < l.length) (hl : l.length < 1000000) (q : Q (encN true (l.set i v)) s) : wp (m__law_with [encN true l, .int i, .int v] s) Q := by
  obtain ⟨e, p⟩ := set_enc (f := encI) (fun _ => rfl) l i v
  refine w_lwith (ds := l.map encI) (x := encI v) (by simpa using h) (by simpa using hl) p ?_
  rw [e]
  exact q
theorem w_lwP {l : List (List (Nat × Nat))} {i : Nat} {v : List (Nat × Nat)} (h : i < l.length) (hl : l.length < 1000000) (q : Q (encPr true (l.set i v)) s) : wp (m__law_with [encPr true l, .int i, encRow true v] s) Q := by
  obtain ⟨e, p⟩ := set_enc (f := encRow true) (pl_Row true) l i v
  refine w_lwith (ds := l.map (encRow true)) (x := encRow true v) (by simpa using h) (by simpa using hl) p ?_
  rw [e]
  exact q
theorem w_without {pr : List (List (Nat × Nat))} {c k : Nat} {row : List (Nat × Nat)} (hc : pr[c]? = some row) (hl : pr.length < 1000000) (hr : row.length < 100000) (q : Q (encPr true (pr.set c (row.filter fun m => !decide (m.1 = k)))) s) : wp (m__without_message [encPr true pr, .int c, .int k] s) Q := by
  have hcl := (List.getElem?_eq_some_iff.mp hc).1
  unfold m__without_message
  refine w_run ?_
  show wo (mb__without_message [some (encPr true pr), some (.int c), some (.int k), none, none] s) _ _ _ _
  unfold mb__without_message
  refine o_seq (o_set (w_m1 ?_))
  refine w_compF row (encM true) (fun m => !decide (m.1 = k)) (encM true) (w_iSeq (w_bin (w_var rfl (w_var rfl (m_ix (at_enc hc) ⟨_, m_iter, rfl, rfl⟩))))) (by omega) ?_ (fun m _ => pl_M1 true m) ?_
  · rintro ⟨k1, t1⟩ _
    refine ⟨_, rfl, fun s' => ?_⟩
    refine w_T (w_bin (w_bin (w_var rfl (w_c (m_ix (at0 _ _) (w_var rfl (w_eqN ⟨_, rfl, rfl, rfl, fun _ => ?_⟩)))))))
    exact w_m1 (w_var rfl (m_tup ⟨rfl, rfl⟩))
  · repeat (first | (with_reducible apply w_bin) | (with_reducible apply w_m1) | (with_reducible apply w_un) | (with_reducible apply w_cons) | (with_reducible apply w_nil) | (with_reducible apply w_callN) | ((with_reducible apply w_var); exact rfl) | (with_reducible apply w_c) | (with_reducible apply w_T) | (with_reducible apply w_NotT) | (with_reducible apply w_AndT) | (with_reducible apply w_OrT) | (with_reducible apply w_And) | (with_reducible apply w_Or) | (with_reducible apply w_Not) | (with_reducible apply w_If) | (with_reducible apply w_tup) | (with_reducible apply w_lstF) | (with_reducible apply w_noP) | (with_reducible apply w_part) | (with_reducible apply w_slice) | (with_reducible apply w_isN) | (with_reducible apply w_add) | (with_reducible apply w_sub) | (with_reducible apply w_gt) | (with_reducible apply w_lt) | (with_reducible apply w_ge) | (with_reducible apply w_le) | (with_reducible apply w_eqI) | (with_reducible apply w_neI) | (with_reducible apply w_eqS) | (with_reducible apply w_neS) | ((with_reducible apply x_ixT); exact rfl; exact rfl) | ((with_reducible apply x_ixL); exact rfl; exact rfl) | ((with_reducible apply x_lenT); exact rfl) | ((with_reducible apply x_lenL); exact rfl) | (with_reducible apply w_intI) | (with_reducible apply w_intB) | (with_reducible apply w_tupT) | (with_reducible apply w_tupL) | (with_reducible apply w_slT) | (with_reducible apply w_slL) | (with_reducible apply w_iSeq) | (with_reducible apply w_iRg1) | (with_reducible apply ex_bl) | (with_reducible apply ex_int) | (with_reducible apply ex_neg) | (with_reducible refine And.intro (Nat.le_of_ble_eq_true rfl) ?_) | (with_reducible refine And.intro (rfl : List.length _ = _) ?_))
    refine o_ret (w_callN ?_)
    repeat (first | (with_reducible apply w_bin) | (with_reducible apply w_m1) | (with_reducible apply w_un) | (with_reducible apply w_cons) | (with_reducible apply w_nil) | (with_reducible apply w_callN) | ((with_reducible apply w_var); exact rfl) | (with_reducible apply w_c) | (with_reducible apply w_T) | (with_reducible apply w_NotT) | (with_reducible apply w_AndT) | (with_reducible apply w_OrT) | (with_reducible apply w_And) | (with_reducible apply w_Or) | (with_reducible apply w_Not) | (with_reducible apply w_If) | (with_reducible apply w_tup) | (with_reducible apply w_lstF) | (with_reducible apply w_noP) | (with_reducible apply w_part) | (with_reducible apply w_slice) | (with_reducible apply w_isN) | (with_reducible apply w_add) | (with_reducible apply w_sub) | (with_reducible apply w_gt) | (with_reducible apply w_lt) | (with_reducible apply w_ge) | (with_reducible apply w_le) | (with_reducible apply w_eqI) | (with_reducible apply w_neI) | (with_reducible apply w_eqS) | (with_reducible apply w_neS) | ((with_reducible apply x_ixT); exact rfl; exact rfl) | ((with_reducible apply x_ixL); exact rfl; exact rfl) | ((with_reducible apply x_lenT); exact rfl) | ((with_reducible apply x_lenL); exact rfl) | (with_reducible apply w_intI) | (with_reducible apply w_intB) | (with_reducible apply w_tupT) | (with_reducible apply w_tupL) | (with_reducible apply w_slT) | (with_reducible apply w_slL) | (with_reducible apply w_iSeq) | (with_reducible apply w_iRg1) | (with_reducible apply ex_bl) | (with_reducible apply ex_int) | (with_reducible apply ex_neg) | (with_reducible refine And.intro (Nat.le_of_ble_eq_true rfl) ?_) | (with_reducible refine And.intro (rfl : List.length _ = _) ?_))
    exact w_wpP (v := row.filter fun m => !decide (m.1 = k)) hcl hl (fin_same (pl_Pr _ _) q)
theorem w_asdeed {d : Deed} (h : DeedOk N d) (q : Q (encD d) s) : wp (m_as_deed [netD N, encD d] s) Q := by
  cases d with
  | act r =>
    obtain ⟨ru, hr, ht⟩ := h
    have := as_rule N true false r [] s (by omega) rfl (by simp)
    refine w_eq this ?_
    have e : ruAt N false r = true := by simp [ruAt, hr, ht]
    simp [e]
    exact q
  | take r k =>
    obtain ⟨ru, hr, ht⟩ := h
    have := as_rule N true true r [.int k] s (by omega) (by simp [nn]) (by simp)
    refine w_eq this ?_
    have e : ruAt N true r = true := by simp [ruAt, hr, ht]
    simp [e]
    exact q
  | lose c k =>
    obtain ⟨hc, hl⟩ := h
    have := as_lose N true c [.int k] s (by omega) (by simp [nn]) (by simp)
    refine w_eq this ?_
    obtain ⟨ch, hch, e2⟩ := ch_at hc
    rw [e2] at hl
    have e : chAt N c = true := by simp [chAt, hch, hl]
    simp [e]
    exact q
end
end K

namespace K
open PySem Cw
section
variable {N : Net} {n : Nat} {w : Wd} {b : Bool} {s : Sto} {Q : D → Sto → Prop}
theorem fld_rs (N : Net) (r : Nat) {ru : Rule} (h : N.rs[r]? = some ru) : L2.atI (N.rs.map encR) (r : Int) = some (encR ru) := at_enc h
theorem w_can {d : Deed} (hN : NetOk N) (h : WdOk N n w) (hn : n < 10000) (hd : DeedOk N d) (q : Q (.bl (canD N w d)) s) : wp (m_can_do [netD N, encW b w, encD d] s) Q := by
  unfold m_can_do
  refine w_run ?_
  show wo (mb_can_do [some (netD N), some (encW b w), some (encD d), none, none, none, none, none] s) _ _ _ _
  unfold mb_can_do
  cases d with
  | lose c k =>
    obtain ⟨hc, hl⟩ := hd
    have hol := opn_le h c
    refine o_seq (o_if (w_T (w_bin (w_bin (w_var rfl (w_c (w_ixT (at0 _ _) (w_c (w_eqS ⟨_, rfl, fun _ => ?_, fun h => (by cases h)⟩)))))))))
    refine o_ret (w_bin (w_bin (w_var rfl (w_c (w_ixT (at2 _ _ _ _) ?_)))))
    refine w_compA (opn N w c) (encM true) (fun m => encI m.1) ?_ (by omega) ?_ (fun m _ => rfl) ?_
    · refine w_iSeq (w_callN (w_cons (w_var rfl (w_cons (w_var rfl (w_cons (w_bin (w_var rfl (w_c (w_ixT (at1 _ _ _) (w_nil ⟨rfl, ?_⟩)))))))))))
      exact w_open h hn hc ⟨_, rfl, rfl, rfl⟩
    · rintro ⟨k1, t1⟩ _
      exact ⟨_, rfl, fun s' => w_var rfl ⟨rfl, rfl⟩⟩
    · have hi := (in_nats s k ((opn N w c).map (·.1))).2
      rw [List.map_map] at hi
      refine w_lift (d := .bl (canD N w (.lose c k))) (s := s) ?_ (fin_same rfl q)
      unfold oIn
      have hi' : inD s (.int k) (.lst ((opn N w c).map fun m => encI m.1)) = some (canD N w (.lose c k)) := hi
      rw [hi']
      rfl
  | act r =>
    obtain ⟨ru, hr, ht⟩ := hd
    obtain ⟨hp, _⟩ := ru_ok hN hr
    obtain ⟨x0, hx0⟩ : ∃ x0, w.st[ru.p]? = some x0 := ⟨w.st[ru.p]'(by rw [h.st]; exact hp), by simp⟩
    refine o_seq (o_if (w_T (w_bin (w_bin (w_var rfl (w_c (w_ixT (at0 _ _) (w_c (w_eqS ⟨_, rfl, fun h => (by cases h), fun _ => ?_⟩)))))))))
    refine o_nil (o_seq (o_asg (w_bin (w_fld (w_var rfl ⟨_, fld_r N s, w_bin (w_var rfl (w_c (w_ixT (at1 _ _ _) (w_ixT (at_enc hr) ⟨_, _, rfl, ?_⟩))))⟩)))))
    refine o_seq (o_if (w_T (w_bin (w_bin (w_bin (w_var rfl (w_c (m_ix (at0 _ _) (w_var rfl (m_ix (at_enc hx0) (w_var rfl (w_eqN ⟨_, rfl, ?_, ?_⟩))))))))))))
    · intro he
      have he : ¬ x0 = ru.s := by simpa using he
      refine o_ret (w_c (fin_same rfl ?_))
      simp only [canD, hr, hx0] at q
      rw [decide_eq_false (by simpa using he)] at q
      exact q
    · intro he
      have he : x0 = ru.s := by simpa using he
      refine o_nil (o_ret (w_Or (w_bin (w_bin (w_var rfl (w_c (w_ixT (at0 _ _) (w_c (w_eqS ⟨_, rfl, fun _ => ?_, fun h => (by cases h)⟩)))))))))
      simp only [canD, hr, hx0] at q
      rw [decide_eq_true (by simpa using he)] at q
      exact fin_same rfl q
  | take r k =>
    obtain ⟨ru, hr, ht⟩ := hd
    obtain ⟨hp, hcs⟩ := ru_ok hN hr
    obtain ⟨x0, hx0⟩ : ∃ x0, w.st[ru.p]? = some x0 := ⟨w.st[ru.p]'(by rw [h.st]; exact hp), by simp⟩
    cases ea : ru.a with
    | go => rw [ea] at ht; cases ht
    | send c t => rw [ea] at ht; cases ht
    | take c t =>
      have hc := hcs c t (.inr ea)
      have hol := opn_le h c
      simp only [canD, hr, hx0, ea] at q
      refine o_seq (o_if (w_T (w_bin (w_bin (w_var rfl (w_c (w_ixT (at0 _ _) (w_c (w_eqS ⟨_, rfl, fun h => (by cases h), fun _ => ?_⟩)))))))))
      refine o_nil (o_seq (o_asg (w_bin (w_fld (w_var rfl ⟨_, fld_r N s, w_bin (w_var rfl (w_c (w_ixT (at1 _ _ _) (w_ixT (at_enc hr) ⟨_, _, rfl, ?_⟩))))⟩)))))
      refine o_seq (o_if (w_T (w_bin (w_bin (w_bin (w_var rfl (w_c (m_ix (at0 _ _) (w_var rfl (m_ix (at_enc hx0) (w_var rfl (w_eqN ⟨_, rfl, ?_, ?_⟩))))))))))))
      · intro he
        have he : ¬ x0 = ru.s := by simpa using he
        refine o_ret (w_c (fin_same rfl ?_))
        rw [decide_eq_false (by simpa using he)] at q
        exact q
      · intro he
        have he : x0 = ru.s := by simpa using he
        rw [decide_eq_true (by simpa using he), Bool.true_and] at q
        refine o_nil (o_ret (w_Or (w_bin (w_bin (w_var rfl (w_c (w_ixT (at0 _ _) (w_c (w_eqS ⟨_, rfl, fun h => (by cases h), fun _ => ?_⟩)))))))))
        rw [ea]
        refine w_bin (w_tup (w_cons (w_bin (w_var rfl (w_c (w_ixT (at2 _ _ _ _) (w_cons (w_bin (w_var rfl (w_c (w_ixT (at2 _ _ _ _) (w_nil ⟨Nat.le_of_ble_eq_true rfl, ?_⟩))))))))))))
        refine w_callN (w_cons (w_var rfl (w_cons (w_var rfl (w_cons (w_bin (w_var rfl (w_c (w_ixT (at1 _ _ _) (w_nil ⟨rfl, ?_⟩))))))))))
        refine w_open h hn hc ?_
        have hi := (in_msgs s (k, t) (opn N w c)).1
        refine w_lift (d := .bl (decide ((k, t) ∈ opn N w c))) (s := s) ?_ (fin_same rfl q)
        unfold oIn
        have hi' : inD s (.tup [.int k, .int t]) (.tup ((opn N w c).map (encM true))) = some (decide ((k, t) ∈ opn N w c)) := hi
        rw [hi']
        rfl
theorem w_behind {d : Deed} (hN : NetOk N) (h : WdOk N n w) (hn : n < 10000) (hd : DeedOk N d) (q : Q (encW true (beh N w d)) s) : wp (m_behind [netD N, encW b w, encD d] s) Q := by
  have hc8 := hN.c8
  have hp5 := hN.p5
  have hst := h.st
  have hse := h.se
  have hpr := h.pr
  unfold m_behind
  refine w_run ?_
  show wo (mb_behind [some (netD N), some (encW b w), some (encD d), none, none, none, none, none, none, none, none, none, none] s) _ _ _ _
  unfold mb_behind
  refine o_seq (o_set (w_m1 (w_bin (w_var rfl (w_c (m_ix (at0 _ _) (m_tup ?_)))))))
  refine o_seq (o_set (w_m1 (w_bin (w_var rfl (w_c (m_ix (at1 _ _ _) (m_tup ?_)))))))
  refine o_seq (o_set (w_m1 ?_))
  refine w_compA w.pr (encRow b) (encRow true) (w_iSeq (w_bin (w_var rfl (w_c (m_ix (at2 _ _ _ _) ⟨_, m_iter, rfl, rfl⟩))))) (by omega) ?_ (fun m _ => pl_Row true m) ?_
  · intro r hr
    have hrl := h.row r hr
    refine ⟨_, rfl, fun s' => w_m1 ?_⟩
    refine w_compA r (encM b) (encM true) (w_iSeq (w_var rfl ⟨_, m_iter, rfl, rfl⟩)) (by omega) ?_ (fun m _ => pl_M1 true m) ?_
    · intro m _
      exact ⟨_, rfl, fun s' => w_m1 (w_var rfl (m_tup ⟨rfl, rfl⟩))⟩
    · repeat (first | (with_reducible apply w_bin) | (with_reducible apply w_m1) | (with_reducible apply w_un) | (with_reducible apply w_cons) | (with_reducible apply w_nil) | (with_reducible apply w_callN) | ((with_reducible apply w_var); exact rfl) | (with_reducible apply w_c) | (with_reducible apply w_T) | (with_reducible apply w_NotT) | (with_reducible apply w_AndT) | (with_reducible apply w_OrT) | (with_reducible apply w_And) | (with_reducible apply w_Or) | (with_reducible apply w_Not) | (with_reducible apply w_If) | (with_reducible apply w_tup) | (with_reducible apply w_lstF) | (with_reducible apply w_noP) | (with_reducible apply w_part) | (with_reducible apply w_slice) | (with_reducible apply w_isN) | (with_reducible apply w_add) | (with_reducible apply w_sub) | (with_reducible apply w_gt) | (with_reducible apply w_lt) | (with_reducible apply w_ge) | (with_reducible apply w_le) | (with_reducible apply w_eqI) | (with_reducible apply w_neI) | (with_reducible apply w_eqS) | (with_reducible apply w_neS) | ((with_reducible apply x_ixT); exact rfl; exact rfl) | ((with_reducible apply x_ixL); exact rfl; exact rfl) | ((with_reducible apply x_lenT); exact rfl) | ((with_reducible apply x_lenL); exact rfl) | (with_reducible apply w_intI) | (with_reducible apply w_intB) | (with_reducible apply w_tupT) | (with_reducible apply w_tupL) | (with_reducible apply w_slT) | (with_reducible apply w_slL) | (with_reducible apply w_iSeq) | (with_reducible apply w_iRg1) | (with_reducible apply ex_bl) | (with_reducible apply ex_int) | (with_reducible apply ex_neg) | (with_reducible refine And.intro (Nat.le_of_ble_eq_true rfl) ?_) | (with_reducible refine And.intro (rfl : List.length _ = _) ?_))
      exact ⟨rfl, rfl⟩
  repeat (first | (with_reducible apply w_bin) | (with_reducible apply w_m1) | (with_reducible apply w_un) | (with_reducible apply w_cons) | (with_reducible apply w_nil) | (with_reducible apply w_callN) | ((with_reducible apply w_var); exact rfl) | (with_reducible apply w_c) | (with_reducible apply w_T) | (with_reducible apply w_NotT) | (with_reducible apply w_AndT) | (with_reducible apply w_OrT) | (with_reducible apply w_And) | (with_reducible apply w_Or) | (with_reducible apply w_Not) | (with_reducible apply w_If) | (with_reducible apply w_tup) | (with_reducible apply w_lstF) | (with_reducible apply w_noP) | (with_reducible apply w_part) | (with_reducible apply w_slice) | (with_reducible apply w_isN) | (with_reducible apply w_add) | (with_reducible apply w_sub) | (with_reducible apply w_gt) | (with_reducible apply w_lt) | (with_reducible apply w_ge) | (with_reducible apply w_le) | (with_reducible apply w_eqI) | (with_reducible apply w_neI) | (with_reducible apply w_eqS) | (with_reducible apply w_neS) | ((with_reducible apply x_ixT); exact rfl; exact rfl) | ((with_reducible apply x_ixL); exact rfl; exact rfl) | ((with_reducible apply x_lenT); exact rfl) | ((with_reducible apply x_lenL); exact rfl) | (with_reducible apply w_intI) | (with_reducible apply w_intB) | (with_reducible apply w_tupT) | (with_reducible apply w_tupL) | (with_reducible apply w_slT) | (with_reducible apply w_slL) | (with_reducible apply w_iSeq) | (with_reducible apply w_iRg1) | (with_reducible apply ex_bl) | (with_reducible apply ex_int) | (with_reducible apply ex_neg) | (with_reducible refine And.intro (Nat.le_of_ble_eq_true rfl) ?_) | (with_reducible refine And.intro (rfl : List.length _ = _) ?_))
  show wo (sSeq _ _ [some (netD N), some (encW b w), some (encD d), some (encN true w.st), some (encN true w.se), some (encPr true w.pr), none, none, none, none, none, none, none] s) _ _ _ _
  cases d with
  | lose c k =>
    obtain ⟨hc, hl⟩ := hd
    refine o_seq (o_if (w_T (w_bin (w_bin (w_var rfl (w_c (w_ixT (at0 _ _) (w_c (w_eqS ⟨_, rfl, fun _ => ?_, fun h => (by cases h)⟩)))))))))
    refine o_ret (w_tup (w_cons (w_var rfl (w_cons (w_var rfl (w_cons (w_callN (w_cons (w_var rfl (w_cons (w_bin (w_var rfl (w_c (w_ixT (at1 _ _ _) (w_cons (w_bin (w_var rfl (w_c (w_ixT (at2 _ _ _ _) (w_nil ⟨rfl, ?_⟩))))))))))))))))))))
    refine w_without (row_at (w := w) (c := c) (by omega)) (by omega) (by have := row_le h c; omega) ?_
    refine w_nil ⟨Nat.le_of_ble_eq_true rfl, ?_⟩
    exact fin_same (pl_W true (beh N w (.lose c k))) q
  | act r =>
    obtain ⟨ru, hr, ht⟩ := hd
    obtain ⟨hp, hcs⟩ := ru_ok hN hr
    simp only [beh, hr] at q
    refine o_seq (o_if (w_T (w_bin (w_bin (w_var rfl (w_c (w_ixT (at0 _ _) (w_c (w_eqS ⟨_, rfl, fun h => (by cases h), fun _ => ?_⟩)))))))))
    refine o_nil (o_seq (o_asg (w_bin (w_fld (w_var rfl ⟨_, fld_r N s, w_bin (w_var rfl (w_c (w_ixT (at1 _ _ _) (w_ixT (at_enc hr) ⟨_, _, rfl, ?_⟩))))⟩)))))
    refine o_seq (o_set (w_callN (w_cons (w_var rfl (w_cons (w_var rfl (w_cons (w_var rfl (w_nil ⟨rfl, ?_⟩)))))))))
    refine w_wpN (by omega) (by omega) ?_
    cases ea : ru.a with
    | take c t => rw [ea] at ht; cases ht
    | go =>
      rw [ea] at q
      simp only at q
      refine o_seq (o_if (w_T (w_bin (w_bin (w_var rfl (w_c (w_ixT (at0 _ _) (w_c (w_eqS ⟨_, rfl, fun h => (by cases h), fun _ => ?_⟩)))))))))
      refine o_nil (o_seq (o_if (w_T (w_bin (w_bin (w_var rfl (w_c (w_ixT (at0 _ _) (w_c (w_eqS ⟨_, rfl, fun h => (by cases h), fun _ => o_nil ?_⟩))))))))))
      refine o_ret (w_tup (w_cons (w_var rfl (w_cons (w_var rfl (w_cons (w_var rfl (w_nil ⟨Nat.le_of_ble_eq_true rfl, ?_⟩))))))))
      exact fin_same (pl_W true ⟨w.st.set ru.p ru.s2, w.se, w.pr⟩) q
    | send c t =>
      rw [ea] at q
      simp only at q
      have hc := hcs c t (.inl ea)
      obtain ⟨k, hk⟩ : ∃ k, w.se[c]? = some k := ⟨w.se[c]'(by omega), by simp⟩
      rw [hk] at q
      refine o_seq (o_if (w_T (w_bin (w_bin (w_var rfl (w_c (w_ixT (at0 _ _) (w_c (w_eqS ⟨_, rfl, fun h => (by cases h), fun _ => ?_⟩)))))))))
      refine o_nil (o_seq (o_if (w_T (w_bin (w_bin (w_var rfl (w_c (w_ixT (at0 _ _) (w_c (w_eqS ⟨_, rfl, fun _ => ?_, fun h => (by cases h)⟩))))))))))
      have hrow := row_at (w := w) (c := c) (by omega)
      have hrl := row_le h c
      refine o_seq (o_set (w_bin (w_var rfl (w_bin (w_var rfl (w_c (w_ixT (at1 _ _ _) (m_ix (at_enc hk) ?_))))))))
      refine o_seq (o_set (w_callN (w_cons (w_var rfl (w_cons (w_bin (w_var rfl (w_c (w_ixT (at1 _ _ _) (w_cons (w_bin (w_bin (w_var rfl (w_bin (w_var rfl (w_c (w_ixT (at1 _ _ _) (m_ix (at_enc hrow) ?_))))))))))))))))))
      refine w_tup (w_cons (w_tup (w_cons (w_var rfl (w_cons (w_bin (w_var rfl (w_c (w_ixT (at2 _ _ _ _) (w_nil ⟨Nat.le_of_ble_eq_true rfl, w_nil ⟨Nat.le_of_ble_eq_true rfl, ?_⟩⟩))))))))))
      refine w_addT (lim_of (by rw [List.length_map]; simp; omega)) ?_
      have er : (rowOf w c).map (encM true) ++ [D.tup [.int k, .int t]] = (rowOf w c ++ [(k, t)]).map (encM true) := by
        rw [List.map_append]
        rfl
      have ec : encI k = D.int k := rfl
      rw [ec, er]
      refine w_nil ⟨rfl, ?_⟩
      refine w_wpP (v := rowOf w c ++ [(k, t)]) (by omega) (by omega) ?_
      refine o_set (w_callN (w_cons (w_var rfl (w_cons (w_bin (w_var rfl (w_c (w_ixT (at1 _ _ _) (w_cons (w_bin (w_var rfl (w_c (w_add (w_nil ⟨rfl, ?_⟩))))))))))))))
      refine w_wpN (v := k + 1) (by omega) (by omega) ?_
      refine o_ret (w_tup (w_cons (w_var rfl (w_cons (w_var rfl (w_cons (w_var rfl (w_nil ⟨Nat.le_of_ble_eq_true rfl, ?_⟩))))))))
      exact fin_same (pl_W true ⟨w.st.set ru.p ru.s2, w.se.set c (k + 1), w.pr.set c (rowOf w c ++ [(k, t)])⟩) q
  | take r k =>
    obtain ⟨ru, hr, ht⟩ := hd
    obtain ⟨hp, hcs⟩ := ru_ok hN hr
    cases ea : ru.a with
    | go => rw [ea] at ht; cases ht
    | send c t => rw [ea] at ht; cases ht
    | take c t =>
      have hc := hcs c t (.inr ea)
      simp only [beh, hr, ea] at q
      refine o_seq (o_if (w_T (w_bin (w_bin (w_var rfl (w_c (w_ixT (at0 _ _) (w_c (w_eqS ⟨_, rfl, fun h => (by cases h), fun _ => ?_⟩)))))))))
      refine o_nil (o_seq (o_asg (w_bin (w_fld (w_var rfl ⟨_, fld_r N s, w_bin (w_var rfl (w_c (w_ixT (at1 _ _ _) (w_ixT (at_enc hr) ⟨_, _, rfl, ?_⟩))))⟩)))))
      refine o_seq (o_set (w_callN (w_cons (w_var rfl (w_cons (w_var rfl (w_cons (w_var rfl (w_nil ⟨rfl, ?_⟩)))))))))
      refine w_wpN (by omega) (by omega) ?_
      rw [ea]
      refine o_seq (o_if (w_T (w_bin (w_bin (w_var rfl (w_c (w_ixT (at0 _ _) (w_c (w_eqS ⟨_, rfl, fun _ => ?_, fun h => (by cases h)⟩)))))))))
      refine o_ret (w_tup (w_cons (w_var rfl (w_cons (w_var rfl (w_cons (w_callN (w_cons (w_var rfl (w_cons (w_bin (w_var rfl (w_c (w_ixT (at1 _ _ _) (w_cons (w_bin (w_var rfl (w_c (w_ixT (at2 _ _ _ _) (w_nil ⟨rfl, ?_⟩))))))))))))))))))))
      refine w_without (row_at (w := w) (c := c) (by omega)) (by omega) (by have := row_le h c; omega) ?_
      refine w_nil ⟨Nat.le_of_ble_eq_true rfl, ?_⟩
      exact fin_same (pl_W true ⟨w.st.set ru.p ru.s2, w.se, w.pr.set c ((rowOf w c).filter fun m => !decide (m.1 = k))⟩) q
theorem w_done {d : Deed} (hN : NetOk N) (h : WdOk N n w) (hn : n < 10000) (hd : DeedOk N d) (hc : canD N w d = true) (q : Q (encW true (beh N w d)) s) : wp (m_done [netD N, encW b w, encD d] s) Q := by
  unfold m_done
  refine w_run ?_
  show wo (mb_done [some (netD N), some (encW b w), some (encD d), none] s) _ _ _ _
  unfold mb_done
  refine o_seq (o_set ?_)
  repeat (first | (with_reducible apply w_bin) | (with_reducible apply w_m1) | (with_reducible apply w_un) | (with_reducible apply w_cons) | (with_reducible apply w_nil) | (with_reducible apply w_callN) | ((with_reducible apply w_var); exact rfl) | (with_reducible apply w_c) | (with_reducible apply w_T) | (with_reducible apply w_NotT) | (with_reducible apply w_AndT) | (with_reducible apply w_OrT) | (with_reducible apply w_And) | (with_reducible apply w_Or) | (with_reducible apply w_Not) | (with_reducible apply w_If) | (with_reducible apply w_tup) | (with_reducible apply w_lstF) | (with_reducible apply w_noP) | (with_reducible apply w_part) | (with_reducible apply w_slice) | (with_reducible apply w_isN) | (with_reducible apply w_add) | (with_reducible apply w_sub) | (with_reducible apply w_gt) | (with_reducible apply w_lt) | (with_reducible apply w_ge) | (with_reducible apply w_le) | (with_reducible apply w_eqI) | (with_reducible apply w_neI) | (with_reducible apply w_eqS) | (with_reducible apply w_neS) | ((with_reducible apply x_ixT); exact rfl; exact rfl) | ((with_reducible apply x_ixL); exact rfl; exact rfl) | ((with_reducible apply x_lenT); exact rfl) | ((with_reducible apply x_lenL); exact rfl) | (with_reducible apply w_intI) | (with_reducible apply w_intB) | (with_reducible apply w_tupT) | (with_reducible apply w_tupL) | (with_reducible apply w_slT) | (with_reducible apply w_slL) | (with_reducible apply w_iSeq) | (with_reducible apply w_iRg1) | (with_reducible apply ex_bl) | (with_reducible apply ex_int) | (with_reducible apply ex_neg) | (with_reducible refine And.intro (Nat.le_of_ble_eq_true rfl) ?_) | (with_reducible refine And.intro (rfl : List.length _ = _) ?_))
  refine w_asdeed hd ?_
  refine o_seq (o_if (w_OrT (w_T (w_isN (w_var rfl ⟨false, ?_, fun h => (by cases h), fun _ => ?_⟩)))))
  · cases d <;> rfl
  · refine w_NotT (w_T ?_)
    repeat (first | (with_reducible apply w_bin) | (with_reducible apply w_m1) | (with_reducible apply w_un) | (with_reducible apply w_cons) | (with_reducible apply w_nil) | (with_reducible apply w_callN) | ((with_reducible apply w_var); exact rfl) | (with_reducible apply w_c) | (with_reducible apply w_T) | (with_reducible apply w_NotT) | (with_reducible apply w_AndT) | (with_reducible apply w_OrT) | (with_reducible apply w_And) | (with_reducible apply w_Or) | (with_reducible apply w_Not) | (with_reducible apply w_If) | (with_reducible apply w_tup) | (with_reducible apply w_lstF) | (with_reducible apply w_noP) | (with_reducible apply w_part) | (with_reducible apply w_slice) | (with_reducible apply w_isN) | (with_reducible apply w_add) | (with_reducible apply w_sub) | (with_reducible apply w_gt) | (with_reducible apply w_lt) | (with_reducible apply w_ge) | (with_reducible apply w_le) | (with_reducible apply w_eqI) | (with_reducible apply w_neI) | (with_reducible apply w_eqS) | (with_reducible apply w_neS) | ((with_reducible apply x_ixT); exact rfl; exact rfl) | ((with_reducible apply x_ixL); exact rfl; exact rfl) | ((with_reducible apply x_lenT); exact rfl) | ((with_reducible apply x_lenL); exact rfl) | (with_reducible apply w_intI) | (with_reducible apply w_intB) | (with_reducible apply w_tupT) | (with_reducible apply w_tupL) | (with_reducible apply w_slT) | (with_reducible apply w_slL) | (with_reducible apply w_iSeq) | (with_reducible apply w_iRg1) | (with_reducible apply ex_bl) | (with_reducible apply ex_int) | (with_reducible apply ex_neg) | (with_reducible refine And.intro (Nat.le_of_ble_eq_true rfl) ?_) | (with_reducible refine And.intro (rfl : List.length _ = _) ?_))
    refine w_can hN h hn hd ⟨_, rfl, fun h => ?_, fun _ => o_nil ?_⟩
    · rw [hc] at h
      cases h
    · refine o_ret ?_
      repeat (first | (with_reducible apply w_bin) | (with_reducible apply w_m1) | (with_reducible apply w_un) | (with_reducible apply w_cons) | (with_reducible apply w_nil) | (with_reducible apply w_callN) | ((with_reducible apply w_var); exact rfl) | (with_reducible apply w_c) | (with_reducible apply w_T) | (with_reducible apply w_NotT) | (with_reducible apply w_AndT) | (with_reducible apply w_OrT) | (with_reducible apply w_And) | (with_reducible apply w_Or) | (with_reducible apply w_Not) | (with_reducible apply w_If) | (with_reducible apply w_tup) | (with_reducible apply w_lstF) | (with_reducible apply w_noP) | (with_reducible apply w_part) | (with_reducible apply w_slice) | (with_reducible apply w_isN) | (with_reducible apply w_add) | (with_reducible apply w_sub) | (with_reducible apply w_gt) | (with_reducible apply w_lt) | (with_reducible apply w_ge) | (with_reducible apply w_le) | (with_reducible apply w_eqI) | (with_reducible apply w_neI) | (with_reducible apply w_eqS) | (with_reducible apply w_neS) | ((with_reducible apply x_ixT); exact rfl; exact rfl) | ((with_reducible apply x_ixL); exact rfl; exact rfl) | ((with_reducible apply x_lenT); exact rfl) | ((with_reducible apply x_lenL); exact rfl) | (with_reducible apply w_intI) | (with_reducible apply w_intB) | (with_reducible apply w_tupT) | (with_reducible apply w_tupL) | (with_reducible apply w_slT) | (with_reducible apply w_slL) | (with_reducible apply w_iSeq) | (with_reducible apply w_iRg1) | (with_reducible apply ex_bl) | (with_reducible apply ex_int) | (with_reducible apply ex_neg) | (with_reducible refine And.intro (Nat.le_of_ble_eq_true rfl) ?_) | (with_reducible refine And.intro (rfl : List.length _ = _) ?_))
      exact w_behind hN h hn hd (fin_same (pl_W true _) q)
end
end K

namespace K
open PySem Cw
def w0 (N : Net) : Wd := ⟨List.replicate N.ps.length 0, List.replicate N.cs.length 0, List.replicate N.cs.length []⟩
theorem w0_ok (N : Net) : WdOk N 0 (w0 N) := ⟨by simp [w0], by simp [w0], by simp [w0], fun r hr => by
  rw [List.eq_of_mem_replicate hr]
  exact Nat.le_refl _⟩
theorem start_enc (N : Net) : startD N = encW true (w0 N) := by
  unfold startD encW w0 encN encPr mk
  simp [encI, encRow, mk]
theorem WdOk.up {N : Net} {n m : Nat} {w : Wd} (h : WdOk N n w) (hm : n ≤ m) : WdOk N m w := ⟨h.st, h.se, h.pr, fun r hr => Nat.le_trans (h.row r hr) hm⟩
theorem dm_of {k : Nat} {ds : List D} (h : ds.length < 100000) (ha : ∀ d ∈ ds, dm k d = true) (b : Bool) : dm (k + 1) (mk b ds) = true := by
  cases b
  · show dm (k + 1) (.lst ds) = true
    simp only [dm, Bool.and_eq_true, decide_eq_true_eq, List.all_eq_true]
    exact ⟨h, ha⟩
  · show dm (k + 1) (.tup ds) = true
    simp only [dm, Bool.and_eq_true, decide_eq_true_eq, List.all_eq_true]
    exact ⟨h, ha⟩
theorem dm_int (k : Nat) (i : Int) : dm k (.int i) = true := by cases k <;> rfl
theorem dm_str (k : Nat) (i : Str) : dm k (.str i) = true := by cases k <;> rfl
theorem dm_up : ∀ (k : Nat) (d : D), dm k d = true → dm (k + 1) d = true
  | 0, d, h => by cases d <;> simp [dm] at h <;> rfl
  | k + 1, d, h => by
    cases d <;> simp [dm] at h ⊢
    · exact ⟨h.1, fun x hx => dm_up k x (h.2 x hx)⟩
    · exact ⟨h.1, fun x hx => dm_up k x (h.2 x hx)⟩
theorem dm_map {α : Type} {k : Nat} {f : α → D} {l : List α} (h : l.length < 100000) (ha : ∀ a ∈ l, dm k (f a) = true) (b : Bool) : dm (k + 1) (mk b (l.map f)) = true :=
  dm_of (by rw [List.length_map]; exact h) (fun d hd => by
    obtain ⟨a, hm, rfl⟩ := List.mem_map.mp hd
    exact ha a hm) b
theorem dm_W {N : Net} {n : Nat} {w : Wd} (hN : NetOk N) (h : WdOk N n w) (hn : n < 10000) (b : Bool) : dm 4 (encW b w) = true := by
  have h1 := h.st
  have h2 := h.se
  have h3 := h.pr
  have h5 := hN.p5
  have h8 := hN.c8
  refine dm_of (k := 3) (by simp) ?_ b
  intro d hd
  simp only [List.mem_cons, List.not_mem_nil, or_false] at hd
  rcases hd with rfl | rfl | rfl
  · exact dm_up 2 _ (dm_up 1 _ (dm_map (k := 0) (by omega) (fun a _ => dm_int 0 _) b))
  · exact dm_up 2 _ (dm_up 1 _ (dm_map (k := 0) (by omega) (fun a _ => dm_int 0 _) b))
  · refine dm_map (k := 2) (by omega) (fun r hr => ?_) b
    have := h.row r hr
    refine dm_map (k := 1) (by omega) (fun m _ => ?_) b
    exact dm_of (k := 0) (by simp) (fun d hd => by
      simp only [List.mem_cons, List.not_mem_nil, or_false] at hd
      rcases hd with rfl | rfl <;> exact dm_int 0 _) b
theorem dm_D (d : Deed) : dm 1 (encD d) = true := by cases d <;> simp [encD, dm]
theorem dm_poss {l : List Deed} (h : l.length < 100000) : dm 2 (.tup (l.map encD)) = true := dm_map (k := 1) h (fun d _ => dm_D d) true
section
variable {N : Net} {n : Nat} {w : Wd} {b : Bool} {s : Sto} {Q : D → Sto → Prop}
theorem w_same {k : Nat} {d : D} (h : dm k d = true) (hk : k < 8) (q : Q (.bl true) s) : wp (m__law_alike 8 [d, d] s) Q := w_eq (al_refl k 8 d s hk h) q
theorem w_lstart (hN : NetOk N) (q : Q (encW true (w0 N)) s) : wp (m__law_start [tN N] s) Q := by
  have h5 := hN.p5
  have h8 := hN.c8
  rw [← start_enc] at q
  unfold m__law_start
  refine w_run ?_
  show wo (mb__law_start [some (tN N)] s) _ _ _ _
  unfold mb__law_start
  refine o_ret (w_tup (w_cons (w_m1 (w_bin (w_lstF (w_cons (w_c (w_nil ⟨by decide, ?_⟩)))))))  )
  refine w_m1 (w_bin (w_var rfl (w_c (w_ixT (at0 _ _) (w_lenT ?_)))))
  rw [List.length_map]
  refine w_repL (by omega) (w_tupL ?_)
  refine w_cons (w_m1 (w_bin (w_lstF (w_cons (w_c (w_nil ⟨by decide, ?_⟩))))))
  refine w_m1 (w_bin (w_var rfl (w_c (w_ixT (at1 _ _ _) (w_lenT ?_)))))
  rw [List.length_map]
  refine w_repL (by omega) (w_tupL ?_)
  refine w_cons (w_m1 (w_bin (w_lstF (w_cons (w_tup (w_nil ⟨by decide, w_nil ⟨by decide, ?_⟩⟩))))))
  refine w_m1 (w_bin (w_var rfl (w_c (w_ixT (at1 _ _ _) (w_lenT ?_)))))
  rw [List.length_map]
  refine w_repL (by omega) (w_tupL ?_)
  refine w_nil ⟨Nat.le_of_ble_eq_true rfl, ?_⟩
  exact fin_same (d := startD N) (pl_start N) q
theorem w_listed (hN : NetOk N) (h : WdOk N n w) (hn : n < 10000) (q : Q (encW false w) s) : wp (m__law_listed [encW true w] s) Q := by
  have h8 := hN.c8
  have h3 := h.pr
  unfold m__law_listed
  refine w_run ?_
  show wo (mb__law_listed [some (encW true w), none, none] s) _ _ _ _
  unfold mb__law_listed
  refine o_ret (w_lstF (w_cons (w_m1 (w_bin (w_var rfl (w_c (m_ix (at0 _ _) (m_lst ?_))))))))
  refine w_cons (w_m1 (w_bin (w_var rfl (w_c (m_ix (at1 _ _ _) (m_lst ?_))))))
  refine w_cons ?_
  refine w_compA w.pr (encRow true) (encRow false) (w_iSeq (w_bin (w_var rfl (w_c (m_ix (at2 _ _ _ _) ⟨_, m_iter, rfl, rfl⟩))))) (by omega) ?_ (fun m _ => pl_Row false m) ?_
  · intro r hr
    have hrl := h.row r hr
    refine ⟨_, rfl, fun s' => ?_⟩
    refine w_compA r (encM true) (encM false) (w_iSeq (w_var rfl ⟨_, m_iter, rfl, rfl⟩)) (by omega) ?_ (fun m _ => pl_M1 false m) ⟨rfl, rfl⟩
    intro m _
    exact ⟨_, rfl, fun s' => w_m1 (w_var rfl (m_lst ⟨rfl, rfl⟩))⟩
  · refine w_nil ⟨Nat.le_of_ble_eq_true rfl, ?_⟩
    exact fin_same (pl_W false w) q
theorem w_ldone {d : Deed} (hN : NetOk N) (h : WdOk N n w) (hn : n < 10000) (hd : DeedOk N d) (q : Q (encW true (beh N w d)) s) : wp (m__law_done [tN N, encW true w, encD d] s) Q := by
  have hc8 := hN.c8
  have hp5 := hN.p5
  have hst := h.st
  have hse := h.se
  have hpr := h.pr
  unfold m__law_done
  refine w_run ?_
  show wo (mb__law_done [some (tN N), some (encW true w), some (encD d), none, none, none, none, none, none, none, none] s) _ _ _ _
  unfold mb__law_done
  refine o_seq (o_asg (w_var rfl ⟨_, _, rfl, ?_⟩))
  have flt : ∀ (c k : Nat) (env : En) (s : Sto) (Q : D → Sto → Prop) (fi : EM IterD) (fk : EM D), (rowOf w c).length ≤ n → (∀ s, wp (fi env s) fun it s' => it = ⟨(rowOf w c).map (encM true), []⟩ ∧ s' = s) → env.length = 11 → (∀ v s', wp (fk ((wipeE env [10]).set 10 v) s') fun d s'' => d = .int k ∧ s'' = s') →
      Q (encRow true ((rowOf w c).filter fun m => !decide (m.1 = k))) s → wp (m1 oTuple (mComp false fi [10] (.nm 10) (mT (mBin (oEq true) (mBin oIx (mVar 10) (mC (.int 0))) fk)) (mVar 10)) env s) Q := fun c k env s Q fi fk hl hi he hk q => by
    refine w_m1 ?_
    refine w_compF (rowOf w c) (encM true) (fun m => !decide (m.1 = k)) (encM true) (hi s) (by omega) ?_ (fun m _ => pl_M1 true m) q
    rintro ⟨k1, t1⟩ _
    have hv : ∀ x : D, ((wipeE env [10]).set 10 (some x))[10]? = some (some x) := fun x => List.getElem?_set_self (by simp [wipeE, he])
    refine ⟨_, rfl, fun s' => ?_⟩
    refine w_T (w_bin (w_bin (w_var (hv _) (w_c (m_ix (at0 _ _) ?_)))))
    refine w_mono (hk _ s') ?_
    rintro d s'' ⟨rfl, rfl⟩
    refine w_eqN ⟨_, rfl, rfl, rfl, fun _ => ?_⟩
    exact w_var (hv _) ⟨rfl, rfl⟩
  cases d with
  | lose c k =>
    obtain ⟨hc, hl⟩ := hd
    have hrow := row_at (w := w) (c := c) (by omega)
    have hrl := row_le h c
    refine o_seq (o_if (w_T (w_bin (w_bin (w_var rfl (w_c (w_ixT (at0 _ _) (w_c (w_eqS ⟨_, rfl, fun _ => ?_, fun h => (by cases h)⟩)))))))))
    refine o_seq (o_set ?_)
    refine flt c k _ s _ _ _ hrl (fun s => w_iSeq (w_bin (w_var rfl (w_bin (w_var rfl (w_c (w_ixT (at1 _ _ _) (m_ix (at_enc hrow) ⟨_, m_iter, rfl, rfl⟩)))))))) rfl (fun v s' => w_bin (w_var rfl (w_c (w_ixT (at2 _ _ _ _) ⟨rfl, rfl⟩)))) ?_
    refine o_ret (w_tup (w_cons (w_var rfl (w_cons (w_var rfl (w_cons (w_callN (w_cons (w_var rfl (w_cons (w_bin (w_var rfl (w_c (w_ixT (at1 _ _ _) (w_cons (w_var rfl (w_nil ⟨rfl, ?_⟩)))))))))))))))))
    refine w_lwP (v := (rowOf w c).filter fun m => !decide (m.1 = k)) (by omega) (by omega) ?_
    refine w_nil ⟨Nat.le_of_ble_eq_true rfl, ?_⟩
    exact fin_same (pl_W true (beh N w (.lose c k))) q
  | act r =>
    obtain ⟨ru, hr, ht⟩ := hd
    obtain ⟨hp, hcs⟩ := ru_ok hN hr
    simp only [beh, hr] at q
    refine o_seq (o_if (w_T (w_bin (w_bin (w_var rfl (w_c (w_ixT (at0 _ _) (w_c (w_eqS ⟨_, rfl, fun h => (by cases h), fun _ => ?_⟩)))))))))
    refine o_nil (o_seq (o_set (w_bin (w_bin (w_var rfl (w_c (w_ixT (at2 _ _ _ _) (w_bin (w_var rfl (w_c (w_ixT (at1 _ _ _) (w_ixT (at_enc hr) ?_))))))))))))
    refine o_seq (o_set (w_callN (w_cons (w_var rfl (w_cons (w_bin (w_var rfl (w_c (w_ixT (at0 _ _) (w_cons (w_bin (w_var rfl (w_c (w_ixT (at3 _ _ _ _ _) (w_nil ⟨rfl, ?_⟩)))))))))))))))
    refine w_lwN (by omega) (by omega) ?_
    cases ea : ru.a with
    | take c t => rw [ea] at ht; cases ht
    | go =>
      rw [ea] at q
      simp only at q
      refine o_seq (o_if (w_T (w_bin (w_bin (w_bin (w_var rfl (w_c (w_ixT (at2 _ _ _ _) ?_))))))))
      rw [ea]
      refine w_c (w_ixT (at0 _ _) (w_c (w_eqS ⟨_, rfl, fun _ => ?_, fun h => (by cases h)⟩)))
      refine o_ret (w_tup (w_cons (w_var rfl (w_cons (w_var rfl (w_cons (w_var rfl (w_nil ⟨Nat.le_of_ble_eq_true rfl, ?_⟩))))))))
      exact fin_same (pl_W true ⟨w.st.set ru.p ru.s2, w.se, w.pr⟩) q
    | send c t =>
      rw [ea] at q
      simp only at q
      have hc := hcs c t (.inl ea)
      obtain ⟨k, hk⟩ : ∃ k, w.se[c]? = some k := ⟨w.se[c]'(by omega), by simp⟩
      rw [hk] at q
      have hrow := row_at (w := w) (c := c) (by omega)
      have hrl := row_le h c
      refine o_seq (o_if (w_T (w_bin (w_bin (w_bin (w_var rfl (w_c (w_ixT (at2 _ _ _ _) ?_))))))))
      rw [ea]
      refine w_c (w_ixT (at0 _ _) (w_c (w_eqS ⟨_, rfl, fun h => (by cases h), fun _ => o_nil ?_⟩)))
      refine o_seq (o_set (w_bin (w_bin (w_var rfl (w_c (w_ixT (at2 _ _ _ _) ?_))))))
      rw [ea]
      refine w_c (w_ixT (at1 _ _ _) ?_)
      refine o_seq (o_if (w_T (w_bin (w_bin (w_bin (w_var rfl (w_c (w_ixT (at2 _ _ _ _) ?_))))))))
      rw [ea]
      refine w_c (w_ixT (at0 _ _) (w_c (w_eqS ⟨_, rfl, fun _ => ?_, fun h => (by cases h)⟩)))
      refine o_seq (o_set (w_bin (w_bin (w_var rfl (w_var rfl (m_ix (at_enc hrow) ?_))))))
      refine w_tup (w_cons (w_tup (w_cons (w_bin (w_var rfl (w_var rfl (m_ix (at_enc hk) (w_cons (w_bin (w_bin (w_var rfl (w_c (w_ixT (at2 _ _ _ _) ?_)))))))))))))
      rw [ea]
      refine w_c (w_ixT (at2 _ _ _ _) (w_nil ⟨Nat.le_of_ble_eq_true rfl, w_nil ⟨Nat.le_of_ble_eq_true rfl, ?_⟩⟩))
      refine w_addT (lim_of (by rw [List.length_map]; simp; omega)) ?_
      have er : (rowOf w c).map (encM true) ++ [D.tup [encI k, .int t]] = (rowOf w c ++ [(k, t)]).map (encM true) := by
        rw [List.map_append]
        rfl
      rw [er]
      refine o_ret (w_tup (w_cons (w_var rfl (w_cons (w_callN (w_cons (w_var rfl (w_cons (w_var rfl (w_cons (w_bin (w_bin (w_var rfl (w_var rfl (m_ix (at_enc hk) (w_c (w_add (w_nil ⟨rfl, ?_⟩))))))))))))))))))
      refine w_lwN (v := k + 1) (by omega) (by omega) ?_
      refine w_cons (w_callN (w_cons (w_var rfl (w_cons (w_var rfl (w_cons (w_var rfl (w_nil ⟨rfl, ?_⟩))))))))
      refine w_lwP (v := rowOf w c ++ [(k, t)]) (by omega) (by omega) ?_
      refine w_nil ⟨Nat.le_of_ble_eq_true rfl, ?_⟩
      exact fin_same (pl_W true ⟨w.st.set ru.p ru.s2, w.se.set c (k + 1), w.pr.set c (rowOf w c ++ [(k, t)])⟩) q
  | take r k =>
    obtain ⟨ru, hr, ht⟩ := hd
    obtain ⟨hp, hcs⟩ := ru_ok hN hr
    cases ea : ru.a with
    | go => rw [ea] at ht; cases ht
    | send c t => rw [ea] at ht; cases ht
    | take c t =>
      have hc := hcs c t (.inr ea)
      have hrow := row_at (w := w) (c := c) (by omega)
      have hrl := row_le h c
      simp only [beh, hr, ea] at q
      refine o_seq (o_if (w_T (w_bin (w_bin (w_var rfl (w_c (w_ixT (at0 _ _) (w_c (w_eqS ⟨_, rfl, fun h => (by cases h), fun _ => ?_⟩)))))))))
      refine o_nil (o_seq (o_set (w_bin (w_bin (w_var rfl (w_c (w_ixT (at2 _ _ _ _) (w_bin (w_var rfl (w_c (w_ixT (at1 _ _ _) (w_ixT (at_enc hr) ?_))))))))))))
      refine o_seq (o_set (w_callN (w_cons (w_var rfl (w_cons (w_bin (w_var rfl (w_c (w_ixT (at0 _ _) (w_cons (w_bin (w_var rfl (w_c (w_ixT (at3 _ _ _ _ _) (w_nil ⟨rfl, ?_⟩)))))))))))))))
      refine w_lwN (by omega) (by omega) ?_
      refine o_seq (o_if (w_T (w_bin (w_bin (w_bin (w_var rfl (w_c (w_ixT (at2 _ _ _ _) ?_))))))))
      rw [ea]
      refine w_c (w_ixT (at0 _ _) (w_c (w_eqS ⟨_, rfl, fun h => (by cases h), fun _ => o_nil ?_⟩)))
      refine o_seq (o_set (w_bin (w_bin (w_var rfl (w_c (w_ixT (at2 _ _ _ _) ?_))))))
      rw [ea]
      refine w_c (w_ixT (at1 _ _ _) ?_)
      refine o_seq (o_if (w_T (w_bin (w_bin (w_bin (w_var rfl (w_c (w_ixT (at2 _ _ _ _) ?_))))))))
      rw [ea]
      refine w_c (w_ixT (at0 _ _) (w_c (w_eqS ⟨_, rfl, fun h => (by cases h), fun _ => o_nil ?_⟩)))
      refine o_seq (o_set ?_)
      refine flt c k _ s _ _ _ hrl (fun s => w_iSeq (w_bin (w_var rfl (w_var rfl (m_ix (at_enc hrow) ⟨_, m_iter, rfl, rfl⟩))))) rfl (fun v s' => w_bin (w_var rfl (w_c (w_ixT (at2 _ _ _ _) ⟨rfl, rfl⟩)))) ?_
      refine o_ret (w_tup (w_cons (w_var rfl (w_cons (w_var rfl (w_cons (w_callN (w_cons (w_var rfl (w_cons (w_var rfl (w_cons (w_var rfl (w_nil ⟨rfl, ?_⟩))))))))))))))
      refine w_lwP (v := (rowOf w c).filter fun m => !decide (m.1 = k)) (by omega) (by omega) ?_
      refine w_nil ⟨Nat.le_of_ble_eq_true rfl, ?_⟩
      exact fin_same (pl_W true ⟨w.st.set ru.p ru.s2, w.se, w.pr.set c ((rowOf w c).filter fun m => !decide (m.1 = k))⟩) q
/-- a step drawn -/
theorem w_step {cs : List Int} {k : Nat} {S : Sto} (hB : Bx cs k S s) (hN : NetOk N) (h : WdOk N n w) (hn : n < 10000) (q0 : ∀ s', Bx cs k S s' → poss N w = [] → Q (.tup []) s') (q : ∀ s' d, Bx cs k S s' → d ∈ poss N w → Q (encD d) s') : wp (m__law_step [.ref k, tN N, encW true w] s) Q := by
  have hpl := poss_len hN h
  unfold m__law_step
  refine w_run ?_
  show wo (mb__law_step [some (.ref k), some (tN N), some (encW true w), none, none] s) _ _ _ _
  unfold mb__law_step
  refine o_seq (o_set ?_)
  repeat (first | (with_reducible apply w_bin) | (with_reducible apply w_m1) | (with_reducible apply w_un) | (with_reducible apply w_cons) | (with_reducible apply w_nil) | (with_reducible apply w_callN) | ((with_reducible apply w_var); exact rfl) | (with_reducible apply w_c) | (with_reducible apply w_T) | (with_reducible apply w_NotT) | (with_reducible apply w_AndT) | (with_reducible apply w_OrT) | (with_reducible apply w_And) | (with_reducible apply w_Or) | (with_reducible apply w_Not) | (with_reducible apply w_If) | (with_reducible apply w_tup) | (with_reducible apply w_lstF) | (with_reducible apply w_noP) | (with_reducible apply w_part) | (with_reducible apply w_slice) | (with_reducible apply w_isN) | (with_reducible apply w_add) | (with_reducible apply w_sub) | (with_reducible apply w_gt) | (with_reducible apply w_lt) | (with_reducible apply w_ge) | (with_reducible apply w_le) | (with_reducible apply w_eqI) | (with_reducible apply w_neI) | (with_reducible apply w_eqS) | (with_reducible apply w_neS) | ((with_reducible apply x_ixT); exact rfl; exact rfl) | ((with_reducible apply x_ixL); exact rfl; exact rfl) | ((with_reducible apply x_lenT); exact rfl) | ((with_reducible apply x_lenL); exact rfl) | (with_reducible apply w_intI) | (with_reducible apply w_intB) | (with_reducible apply w_tupT) | (with_reducible apply w_tupL) | (with_reducible apply w_slT) | (with_reducible apply w_slL) | (with_reducible apply w_iSeq) | (with_reducible apply w_iRg1) | (with_reducible apply ex_bl) | (with_reducible apply ex_int) | (with_reducible apply ex_neg) | (with_reducible refine And.intro (Nat.le_of_ble_eq_true rfl) ?_) | (with_reducible refine And.intro (rfl : List.length _ = _) ?_))
  refine w_lpossible hN h hn ?_
  refine o_seq (o_if (w_T (w_bin (w_m1 (w_var rfl (w_lenT (w_c (w_eqI ⟨_, rfl, fun he => ?_, fun he => o_nil ?_⟩))))))))
  · have he : poss N w = [] := by
      simpa using he
    refine o_ret (w_tup (w_nil ⟨Nat.zero_le _, ?_⟩))
    exact fin_bx0 hB hB rfl fun s1 hB1 => q0 s1 hB1 he
  · have he : 0 < (poss N w).length := by
      have : ¬ poss N w = [] := by simpa using he
      exact List.length_pos_iff.mpr this
    have pick : ∀ j : Nat, (j : Int) < ((poss N w).map encD).length → ∃ d, d ∈ poss N w ∧ L2.atI ((poss N w).map encD) j = some (encD d) := fun j hj => by
      rw [List.length_map] at hj
      refine ⟨(poss N w)[j]'(by omega), List.getElem_mem _, ?_⟩
      exact at_enc (by simp)
    refine o_seq (o_set (w_bin (w_var rfl ?_)))
    repeat (first | (with_reducible apply w_bin) | (with_reducible apply w_m1) | (with_reducible apply w_un) | (with_reducible apply w_cons) | (with_reducible apply w_nil) | (with_reducible apply w_callN) | ((with_reducible apply w_var); exact rfl) | (with_reducible apply w_c) | (with_reducible apply w_T) | (with_reducible apply w_NotT) | (with_reducible apply w_AndT) | (with_reducible apply w_OrT) | (with_reducible apply w_And) | (with_reducible apply w_Or) | (with_reducible apply w_Not) | (with_reducible apply w_If) | (with_reducible apply w_tup) | (with_reducible apply w_lstF) | (with_reducible apply w_noP) | (with_reducible apply w_part) | (with_reducible apply w_slice) | (with_reducible apply w_isN) | (with_reducible apply w_add) | (with_reducible apply w_sub) | (with_reducible apply w_gt) | (with_reducible apply w_lt) | (with_reducible apply w_ge) | (with_reducible apply w_le) | (with_reducible apply w_eqI) | (with_reducible apply w_neI) | (with_reducible apply w_eqS) | (with_reducible apply w_neS) | ((with_reducible apply x_ixT); exact rfl; exact rfl) | ((with_reducible apply x_ixL); exact rfl; exact rfl) | ((with_reducible apply x_lenT); exact rfl) | ((with_reducible apply x_lenL); exact rfl) | (with_reducible apply w_intI) | (with_reducible apply w_intB) | (with_reducible apply w_tupT) | (with_reducible apply w_tupL) | (with_reducible apply w_slT) | (with_reducible apply w_slL) | (with_reducible apply w_iSeq) | (with_reducible apply w_iRg1) | (with_reducible apply ex_bl) | (with_reducible apply ex_int) | (with_reducible apply ex_neg) | (with_reducible refine And.intro (Nat.le_of_ble_eq_true rfl) ?_) | (with_reducible refine And.intro (rfl : List.length _ = _) ?_))
    refine w_draw hB (by rw [List.length_map]; omega) (by rw [List.length_map]; omega) fun s1 j hB1 hj => ?_
    obtain ⟨d, hd, hat⟩ := pick j hj
    refine w_ixT hat ?_
    refine o_cut (fun e s' => ∃ d, e = [some (.ref k), some (tN N), some (encW true w), some (.tup ((poss N w).map encD)), some (encD d)] ∧ Bx cs k S s' ∧ d ∈ poss N w) ?_ ?_
    · refine o_if (w_AndT (w_T (w_bin (w_bin (w_var rfl (w_c ?_))))))
      have hst : ∃ z, L2.atI (match encD d with
        | .tup ds => ds
        | _ => []) 0 = some (.str z) := by cases d <;> exact ⟨_, rfl⟩
      obtain ⟨z, hz⟩ := hst
      have he : ∃ ds, encD d = .tup ds ∧ L2.atI ds 0 = some (.str z) := by
        cases d <;> exact ⟨_, rfl, hz⟩
      obtain ⟨ds, e1, e2⟩ := he
      have hQ : ∀ {Q : D → Sto → Prop}, Q (.str z) s1 → wp (lift (oIx (encD d) (.int 0) s1)) Q := fun q => by
        rw [e1]
        exact w_ixT e2 q
      refine hQ (w_c (w_eqS ⟨_, rfl, fun _ => ?_, fun _ => ⟨fun h => (by cases h), fun _ => o_nil ⟨d, rfl, hB1, hd⟩⟩⟩))
      repeat (first | (with_reducible apply w_bin) | (with_reducible apply w_m1) | (with_reducible apply w_un) | (with_reducible apply w_cons) | (with_reducible apply w_nil) | (with_reducible apply w_callN) | ((with_reducible apply w_var); exact rfl) | (with_reducible apply w_c) | (with_reducible apply w_T) | (with_reducible apply w_NotT) | (with_reducible apply w_AndT) | (with_reducible apply w_OrT) | (with_reducible apply w_And) | (with_reducible apply w_Or) | (with_reducible apply w_Not) | (with_reducible apply w_If) | (with_reducible apply w_tup) | (with_reducible apply w_lstF) | (with_reducible apply w_noP) | (with_reducible apply w_part) | (with_reducible apply w_slice) | (with_reducible apply w_isN) | (with_reducible apply w_add) | (with_reducible apply w_sub) | (with_reducible apply w_gt) | (with_reducible apply w_lt) | (with_reducible apply w_ge) | (with_reducible apply w_le) | (with_reducible apply w_eqI) | (with_reducible apply w_neI) | (with_reducible apply w_eqS) | (with_reducible apply w_neS) | ((with_reducible apply x_ixT); exact rfl; exact rfl) | ((with_reducible apply x_ixL); exact rfl; exact rfl) | ((with_reducible apply x_lenT); exact rfl) | ((with_reducible apply x_lenL); exact rfl) | (with_reducible apply w_intI) | (with_reducible apply w_intB) | (with_reducible apply w_tupT) | (with_reducible apply w_tupL) | (with_reducible apply w_slT) | (with_reducible apply w_slL) | (with_reducible apply w_iSeq) | (with_reducible apply w_iRg1) | (with_reducible apply ex_bl) | (with_reducible apply ex_int) | (with_reducible apply ex_neg) | (with_reducible refine And.intro (Nat.le_of_ble_eq_true rfl) ?_) | (with_reducible refine And.intro (rfl : List.length _ = _) ?_))
      refine w_draw hB1 (by decide) (by decide) fun s2 j2 hB2 _ => ?_
      repeat (first | (with_reducible apply w_bin) | (with_reducible apply w_m1) | (with_reducible apply w_un) | (with_reducible apply w_cons) | (with_reducible apply w_nil) | (with_reducible apply w_callN) | ((with_reducible apply w_var); exact rfl) | (with_reducible apply w_c) | (with_reducible apply w_T) | (with_reducible apply w_NotT) | (with_reducible apply w_AndT) | (with_reducible apply w_OrT) | (with_reducible apply w_And) | (with_reducible apply w_Or) | (with_reducible apply w_Not) | (with_reducible apply w_If) | (with_reducible apply w_tup) | (with_reducible apply w_lstF) | (with_reducible apply w_noP) | (with_reducible apply w_part) | (with_reducible apply w_slice) | (with_reducible apply w_isN) | (with_reducible apply w_add) | (with_reducible apply w_sub) | (with_reducible apply w_gt) | (with_reducible apply w_lt) | (with_reducible apply w_ge) | (with_reducible apply w_le) | (with_reducible apply w_eqI) | (with_reducible apply w_neI) | (with_reducible apply w_eqS) | (with_reducible apply w_neS) | ((with_reducible apply x_ixT); exact rfl; exact rfl) | ((with_reducible apply x_ixL); exact rfl; exact rfl) | ((with_reducible apply x_lenT); exact rfl) | ((with_reducible apply x_lenL); exact rfl) | (with_reducible apply w_intI) | (with_reducible apply w_intB) | (with_reducible apply w_tupT) | (with_reducible apply w_tupL) | (with_reducible apply w_slT) | (with_reducible apply w_slL) | (with_reducible apply w_iSeq) | (with_reducible apply w_iRg1) | (with_reducible apply ex_bl) | (with_reducible apply ex_int) | (with_reducible apply ex_neg) | (with_reducible refine And.intro (Nat.le_of_ble_eq_true rfl) ?_) | (with_reducible refine And.intro (rfl : List.length _ = _) ?_))
      refine ⟨fun _ => o_set (w_bin (w_var rfl ?_)), fun _ => o_nil ⟨d, rfl, hB2, hd⟩⟩
      repeat (first | (with_reducible apply w_bin) | (with_reducible apply w_m1) | (with_reducible apply w_un) | (with_reducible apply w_cons) | (with_reducible apply w_nil) | (with_reducible apply w_callN) | ((with_reducible apply w_var); exact rfl) | (with_reducible apply w_c) | (with_reducible apply w_T) | (with_reducible apply w_NotT) | (with_reducible apply w_AndT) | (with_reducible apply w_OrT) | (with_reducible apply w_And) | (with_reducible apply w_Or) | (with_reducible apply w_Not) | (with_reducible apply w_If) | (with_reducible apply w_tup) | (with_reducible apply w_lstF) | (with_reducible apply w_noP) | (with_reducible apply w_part) | (with_reducible apply w_slice) | (with_reducible apply w_isN) | (with_reducible apply w_add) | (with_reducible apply w_sub) | (with_reducible apply w_gt) | (with_reducible apply w_lt) | (with_reducible apply w_ge) | (with_reducible apply w_le) | (with_reducible apply w_eqI) | (with_reducible apply w_neI) | (with_reducible apply w_eqS) | (with_reducible apply w_neS) | ((with_reducible apply x_ixT); exact rfl; exact rfl) | ((with_reducible apply x_ixL); exact rfl; exact rfl) | ((with_reducible apply x_lenT); exact rfl) | ((with_reducible apply x_lenL); exact rfl) | (with_reducible apply w_intI) | (with_reducible apply w_intB) | (with_reducible apply w_tupT) | (with_reducible apply w_tupL) | (with_reducible apply w_slT) | (with_reducible apply w_slL) | (with_reducible apply w_iSeq) | (with_reducible apply w_iRg1) | (with_reducible apply ex_bl) | (with_reducible apply ex_int) | (with_reducible apply ex_neg) | (with_reducible refine And.intro (Nat.le_of_ble_eq_true rfl) ?_) | (with_reducible refine And.intro (rfl : List.length _ = _) ?_))
      refine w_draw hB2 (by rw [List.length_map]; omega) (by rw [List.length_map]; omega) fun s3 j3 hB3 hj3 => ?_
      obtain ⟨d3, hd3, hat3⟩ := pick j3 hj3
      exact w_ixT hat3 ⟨d3, rfl, hB3, hd3⟩
    · rintro e s' ⟨d, rfl, hB2, hd⟩
      refine o_ret (w_var rfl ?_)
      exact fin_bx0 hB hB2 (pl_D d) fun s3 hB3 => q s3 d hB3 hd
end
end K

namespace K
open PySem Cw
def pqr (j : Nat) : Str := match j with
  | 0 => "p"
  | 1 => "q"
  | _ => "r"
def cdef (j : Nat) : Str := match j with
  | 0 => "c"
  | 1 => "d"
  | 2 => "e"
  | _ => "f"
theorem pqr_ok : ∀ j, okName (pqr j) = true ∧ chars (pqr j) = true
  | 0 => by decide +kernel
  | 1 => by decide +kernel
  | _ + 2 => by
    show okName "r" = true ∧ chars "r" = true
    decide +kernel
theorem cdef_ok : ∀ j, okName (cdef j) = true ∧ chars (cdef j) = true
  | 0 => by decide +kernel
  | 1 => by decide +kernel
  | 2 => by decide +kernel
  | _ + 3 => by
    show okName "f" = true ∧ chars "f" = true
    decide +kernel
theorem pqr_inj : ∀ n, n ≤ 3 → ((List.range n).map pqr).Nodup
  | 0, _ => by decide
  | 1, _ => by decide
  | 2, _ => by decide
  | 3, _ => by decide
  | n + 4, h => by omega
theorem cdef_inj : ∀ n, n ≤ 4 → ((List.range n).map cdef).Nodup
  | 0, _ => by decide
  | 1, _ => by decide
  | 2, _ => by decide
  | 3, _ => by decide
  | 4, _ => by decide
  | n + 5, h => by omega
theorem w_pqr {j : Nat} {st : Sto} {Q : D → Sto → Prop} (h : j < 3) (q : Q (.str (pqr j)) st) : wp (lift (oIx (.str "pqr") (.int j) st)) Q := by
  match j, h with
  | 0, _ => exact w_lift rfl q
  | 1, _ => exact w_lift rfl q
  | 2, _ => exact w_lift rfl q
theorem w_cdef {j : Nat} {st : Sto} {Q : D → Sto → Prop} (h : j < 4) (q : Q (.str (cdef j)) st) : wp (lift (oIx (.str "cdef") (.int j) st)) Q := by
  match j, h with
  | 0, _ => exact w_lift rfl q
  | 1, _ => exact w_lift rfl q
  | 2, _ => exact w_lift rfl q
  | 3, _ => exact w_lift rfl q
theorem kinds_at {u : Nat} (h : u < 4) : L2.atI [D.str "order", .str "loose", .str "order lossy", .str "loose lossy"] u = some (.str (kindOf u)) := by
  have : u = 0 ∨ u = 1 ∨ u = 2 ∨ u = 3 := by omega
  rcases this with rfl | rfl | rfl | rfl <;> rfl
theorem taker_ok {g t m : Nat} (hm : 2 ≤ m) (hg : g < m) (ht : t < m - 1) : (((g : Int) + 1 + t) % m) = (((g + 1 + t) % m : Nat) : Int) ∧ (g + 1 + t) % m < m ∧ (g + 1 + t) % m ≠ g := by
  refine ⟨by simp, Nat.mod_lt _ (by omega), ?_⟩
  by_cases hx : g + 1 + t < m
  · rw [Nat.mod_eq_of_lt hx]
    omega
  · rw [Nat.mod_eq_sub_mod (by omega), Nat.mod_eq_of_lt (by omega)]
    omega
theorem w_lively {cs : List Int} {k : Nat} {S s : Sto} {Q : D → Sto → Prop} (h : Bx cs k S s) (q : ∀ (s' : Sto) (N : Net), Bx cs k S s' → NetOk N → Q (tN N) s') : wp (m__law_lively [.ref k] s) Q := by
  have hkS := h.1
  unfold m__law_lively
  refine w_run ?_
  show wo (mb__law_lively [some (.ref k), none, none, none, none, none, none, none, none, none, none, none] s) _ _ _ _
  unfold mb__law_lively
  refine o_seq (o_set ?_)
  repeat (first | (with_reducible apply w_bin) | (with_reducible apply w_m1) | (with_reducible apply w_un) | (with_reducible apply w_cons) | (with_reducible apply w_nil) | (with_reducible apply w_callN) | ((with_reducible apply w_var); exact rfl) | (with_reducible apply w_c) | (with_reducible apply w_T) | (with_reducible apply w_NotT) | (with_reducible apply w_AndT) | (with_reducible apply w_OrT) | (with_reducible apply w_And) | (with_reducible apply w_Or) | (with_reducible apply w_Not) | (with_reducible apply w_If) | (with_reducible apply w_tup) | (with_reducible apply w_lstF) | (with_reducible apply w_noP) | (with_reducible apply w_part) | (with_reducible apply w_slice) | (with_reducible apply w_isN) | (with_reducible apply w_add) | (with_reducible apply w_sub) | (with_reducible apply w_gt) | (with_reducible apply w_lt) | (with_reducible apply w_ge) | (with_reducible apply w_le) | (with_reducible apply w_eqI) | (with_reducible apply w_neI) | (with_reducible apply w_eqS) | (with_reducible apply w_neS) | ((with_reducible apply x_ixT); exact rfl; exact rfl) | ((with_reducible apply x_ixL); exact rfl; exact rfl) | ((with_reducible apply x_lenT); exact rfl) | ((with_reducible apply x_lenL); exact rfl) | (with_reducible apply w_intI) | (with_reducible apply w_intB) | (with_reducible apply w_tupT) | (with_reducible apply w_tupL) | (with_reducible apply w_slT) | (with_reducible apply w_slL) | (with_reducible apply w_iSeq) | (with_reducible apply w_iRg1) | (with_reducible apply ex_bl) | (with_reducible apply ex_int) | (with_reducible apply ex_neg) | (with_reducible refine And.intro (Nat.le_of_ble_eq_true rfl) ?_) | (with_reducible refine And.intro (rfl : List.length _ = _) ?_))
  refine w_draw h (by decide) (by decide) fun s1 m0 hB1 hm0 => ?_
  repeat (first | (with_reducible apply w_bin) | (with_reducible apply w_m1) | (with_reducible apply w_un) | (with_reducible apply w_cons) | (with_reducible apply w_nil) | (with_reducible apply w_callN) | ((with_reducible apply w_var); exact rfl) | (with_reducible apply w_c) | (with_reducible apply w_T) | (with_reducible apply w_NotT) | (with_reducible apply w_AndT) | (with_reducible apply w_OrT) | (with_reducible apply w_And) | (with_reducible apply w_Or) | (with_reducible apply w_Not) | (with_reducible apply w_If) | (with_reducible apply w_tup) | (with_reducible apply w_lstF) | (with_reducible apply w_noP) | (with_reducible apply w_part) | (with_reducible apply w_slice) | (with_reducible apply w_isN) | (with_reducible apply w_add) | (with_reducible apply w_sub) | (with_reducible apply w_gt) | (with_reducible apply w_lt) | (with_reducible apply w_ge) | (with_reducible apply w_le) | (with_reducible apply w_eqI) | (with_reducible apply w_neI) | (with_reducible apply w_eqS) | (with_reducible apply w_neS) | ((with_reducible apply x_ixT); exact rfl; exact rfl) | ((with_reducible apply x_ixL); exact rfl; exact rfl) | ((with_reducible apply x_lenT); exact rfl) | ((with_reducible apply x_lenL); exact rfl) | (with_reducible apply w_intI) | (with_reducible apply w_intB) | (with_reducible apply w_tupT) | (with_reducible apply w_tupL) | (with_reducible apply w_slT) | (with_reducible apply w_slL) | (with_reducible apply w_iSeq) | (with_reducible apply w_iRg1) | (with_reducible apply ex_bl) | (with_reducible apply ex_int) | (with_reducible apply ex_neg) | (with_reducible refine And.intro (Nat.le_of_ble_eq_true rfl) ?_) | (with_reducible refine And.intro (rfl : List.length _ = _) ?_))
  obtain ⟨m, hm, m2, m3⟩ : ∃ m : Nat, (2 : Int) + m0 = m ∧ 2 ≤ m ∧ m ≤ 3 := ⟨2 + m0, by omega, by omega, by omega⟩
  rw [hm]
  refine o_seq (o_set (w_comp (w_iRg1 (w_var rfl ⟨m, rfl, by omega, ?_⟩))))
  refine ⟨fun j acc s' => ∃ ps : List (Str × Nat), acc = ps.map encP ∧ ps.map (·.1) = (List.range j).map pqr ∧ Bx cs k S s' ∧ ∀ p ∈ ps, 1 ≤ p.2 ∧ p.2 ≤ 2, ?_, ⟨[], rfl, rfl, hB1, by simp⟩, ?_, ?_, ?_⟩
  · simp [rngD]
    show _ < 16777216
    omega
  · rintro j acc s' ⟨ps, rfl, p1, hB, p3⟩
    refine ⟨?_, by rw [hB.len, hB1.len], rfl⟩
    have := congrArg List.length p1
    simp at this
    rw [List.length_map]
    omega
  · rintro j x hx acc s' ⟨ps, rfl, p1, hB, p3⟩
    have hjl : j < m := by
      have := (List.getElem?_eq_some_iff.mp hx).1
      simpa [rngD] using this
    have hxx : x = .int j := by
      simp [rngD, hjl] at hx
      exact hx.symm
    subst hxx
    refine ⟨_, rfl, w_eq rfl ⟨fun _ => ?_, fun h => (by cases h)⟩⟩
    refine w_tup (w_cons (w_bin (w_c (w_var rfl (w_pqr (by omega) ?_)))))
    repeat (first | (with_reducible apply w_bin) | (with_reducible apply w_m1) | (with_reducible apply w_un) | (with_reducible apply w_cons) | (with_reducible apply w_nil) | (with_reducible apply w_callN) | ((with_reducible apply w_var); exact rfl) | (with_reducible apply w_c) | (with_reducible apply w_T) | (with_reducible apply w_NotT) | (with_reducible apply w_AndT) | (with_reducible apply w_OrT) | (with_reducible apply w_And) | (with_reducible apply w_Or) | (with_reducible apply w_Not) | (with_reducible apply w_If) | (with_reducible apply w_tup) | (with_reducible apply w_lstF) | (with_reducible apply w_noP) | (with_reducible apply w_part) | (with_reducible apply w_slice) | (with_reducible apply w_isN) | (with_reducible apply w_add) | (with_reducible apply w_sub) | (with_reducible apply w_gt) | (with_reducible apply w_lt) | (with_reducible apply w_ge) | (with_reducible apply w_le) | (with_reducible apply w_eqI) | (with_reducible apply w_neI) | (with_reducible apply w_eqS) | (with_reducible apply w_neS) | ((with_reducible apply x_ixT); exact rfl; exact rfl) | ((with_reducible apply x_ixL); exact rfl; exact rfl) | ((with_reducible apply x_lenT); exact rfl) | ((with_reducible apply x_lenL); exact rfl) | (with_reducible apply w_intI) | (with_reducible apply w_intB) | (with_reducible apply w_tupT) | (with_reducible apply w_tupL) | (with_reducible apply w_slT) | (with_reducible apply w_slL) | (with_reducible apply w_iSeq) | (with_reducible apply w_iRg1) | (with_reducible apply ex_bl) | (with_reducible apply ex_int) | (with_reducible apply ex_neg) | (with_reducible refine And.intro (Nat.le_of_ble_eq_true rfl) ?_) | (with_reducible refine And.intro (rfl : List.length _ = _) ?_))
    refine w_draw (hB.ext _) (by decide) (by decide) fun s2 r hB2 hr => ?_
    obtain ⟨s3, rfl, hB3⟩ := hB2.unext hkS
    repeat (first | (with_reducible apply w_bin) | (with_reducible apply w_m1) | (with_reducible apply w_un) | (with_reducible apply w_cons) | (with_reducible apply w_nil) | (with_reducible apply w_callN) | ((with_reducible apply w_var); exact rfl) | (with_reducible apply w_c) | (with_reducible apply w_T) | (with_reducible apply w_NotT) | (with_reducible apply w_AndT) | (with_reducible apply w_OrT) | (with_reducible apply w_And) | (with_reducible apply w_Or) | (with_reducible apply w_Not) | (with_reducible apply w_If) | (with_reducible apply w_tup) | (with_reducible apply w_lstF) | (with_reducible apply w_noP) | (with_reducible apply w_part) | (with_reducible apply w_slice) | (with_reducible apply w_isN) | (with_reducible apply w_add) | (with_reducible apply w_sub) | (with_reducible apply w_gt) | (with_reducible apply w_lt) | (with_reducible apply w_ge) | (with_reducible apply w_le) | (with_reducible apply w_eqI) | (with_reducible apply w_neI) | (with_reducible apply w_eqS) | (with_reducible apply w_neS) | ((with_reducible apply x_ixT); exact rfl; exact rfl) | ((with_reducible apply x_ixL); exact rfl; exact rfl) | ((with_reducible apply x_lenT); exact rfl) | ((with_reducible apply x_lenL); exact rfl) | (with_reducible apply w_intI) | (with_reducible apply w_intB) | (with_reducible apply w_tupT) | (with_reducible apply w_tupL) | (with_reducible apply w_slT) | (with_reducible apply w_slL) | (with_reducible apply w_iSeq) | (with_reducible apply w_iRg1) | (with_reducible apply ex_bl) | (with_reducible apply ex_int) | (with_reducible apply ex_neg) | (with_reducible refine And.intro (Nat.le_of_ble_eq_true rfl) ?_) | (with_reducible refine And.intro (rfl : List.length _ = _) ?_))
    refine ⟨s3, rfl, ps ++ [(pqr j, 1 + r)], ?_, ?_, hB3, ?_⟩
    · simp [encP]
    · rw [List.map_append, p1, List.range_succ, List.map_append]
      rfl
    · intro p hp
      rcases List.mem_append.mp hp with hp | hp
      · exact p3 p hp
      · rw [List.mem_singleton.mp hp]
        exact ⟨by show 1 ≤ 1 + r; omega, by show 1 + r ≤ 2; omega⟩
  rintro acc s2 ⟨ps, rfl, p1, hB2, p3⟩
  have hitem : (rngD 0 m).items.length = m := by simp [rngD]
  rw [hitem] at p1
  have pl1 : ps.length = m := by
    have := congrArg List.length p1
    simpa using this
  refine ⟨plL_map pl_P ps, ?_, ?_⟩
  · have := hB1.pop2 (ext := []) hB2
    rwa [List.append_nil] at this
  have hl2 := hB2.len
  refine o_seq (o_set (w_lstT (w_nil ⟨Nat.zero_le _, ?_⟩)))
  rw [hl2]
  have hB3 : Bx cs k (S ++ [.lst []]) (s2 ++ [.lst []]) := hB2.ext _
  have hget : ∀ l : List D, (S ++ [Cell.lst l])[S.length]? = some (.lst l) := fun l => by simp
  have hput : ∀ l m : List D, (S ++ [Cell.lst l]).set S.length (.lst m) = S ++ [.lst m] := fun l m => by simp
  have hne : S.length ≠ k := by omega
  refine o_cut (fun e s' => ∃ (chs : List Chan) (v4 v6 v7 : Option D), e = [some (.ref k), some (.int m), some (.lst (ps.map encP)), some (.ref S.length), v4, none, v6, v7, none, none, none, none] ∧ Bx cs k (S ++ [.lst (chs.map encC)]) s' ∧ 1 ≤ chs.length ∧ chs.length ≤ 4 ∧ chs.map (·.nm) = (List.range chs.length).map cdef ∧ ∀ c ∈ chs, c.giver < m ∧ c.taker < m ∧ c.giver ≠ c.taker) ?_ ?_
  · refine o_for (w_iRg1 ?_)
    repeat (first | (with_reducible apply w_bin) | (with_reducible apply w_m1) | (with_reducible apply w_un) | (with_reducible apply w_cons) | (with_reducible apply w_nil) | (with_reducible apply w_callN) | ((with_reducible apply w_var); exact rfl) | (with_reducible apply w_c) | (with_reducible apply w_T) | (with_reducible apply w_NotT) | (with_reducible apply w_AndT) | (with_reducible apply w_OrT) | (with_reducible apply w_And) | (with_reducible apply w_Or) | (with_reducible apply w_Not) | (with_reducible apply w_If) | (with_reducible apply w_tup) | (with_reducible apply w_lstF) | (with_reducible apply w_noP) | (with_reducible apply w_part) | (with_reducible apply w_slice) | (with_reducible apply w_isN) | (with_reducible apply w_add) | (with_reducible apply w_sub) | (with_reducible apply w_gt) | (with_reducible apply w_lt) | (with_reducible apply w_ge) | (with_reducible apply w_le) | (with_reducible apply w_eqI) | (with_reducible apply w_neI) | (with_reducible apply w_eqS) | (with_reducible apply w_neS) | ((with_reducible apply x_ixT); exact rfl; exact rfl) | ((with_reducible apply x_ixL); exact rfl; exact rfl) | ((with_reducible apply x_lenT); exact rfl) | ((with_reducible apply x_lenL); exact rfl) | (with_reducible apply w_intI) | (with_reducible apply w_intB) | (with_reducible apply w_tupT) | (with_reducible apply w_tupL) | (with_reducible apply w_slT) | (with_reducible apply w_slL) | (with_reducible apply w_iSeq) | (with_reducible apply w_iRg1) | (with_reducible apply ex_bl) | (with_reducible apply ex_int) | (with_reducible apply ex_neg) | (with_reducible refine And.intro (Nat.le_of_ble_eq_true rfl) ?_) | (with_reducible refine And.intro (rfl : List.length _ = _) ?_))
    refine w_draw hB3 (by decide) (by decide) fun s4 z hB4 hz => ?_
    refine w_add ⟨1 + z, by rw [Int.natCast_add]; rfl, by omega, ?_⟩
    refine ⟨fun j e s' => j ≤ 1 + z ∧ ∃ (chs : List Chan) (v4 v6 v7 : Option D), e = [some (.ref k), some (.int m), some (.lst (ps.map encP)), some (.ref S.length), v4, none, v6, v7, none, none, none, none] ∧ Bx cs k (S ++ [.lst (chs.map encC)]) s' ∧ chs.length = j ∧ chs.map (·.nm) = (List.range j).map cdef ∧ ∀ c ∈ chs, c.giver < m ∧ c.taker < m ∧ c.giver ≠ c.taker, ⟨Nat.zero_le _, [], none, none, none, rfl, hB4, rfl, rfl, by simp⟩, fun _ _ _ _ => rfl, ?_, ?_⟩
    · rintro j x hx e s' ⟨hj, chs, v4, v6, v7, rfl, hB, c1, c2, c3⟩
      have hjl : j < 1 + z := by
        have := (List.getElem?_eq_some_iff.mp hx).1
        simpa [rngD] using this
      have hxx : x = .int j := by
        simp [rngD, hjl] at hx
        exact hx.symm
      subst hxx
      refine ⟨_, _, rfl, ?_⟩
      refine o_seq (o_set ?_)
      repeat (first | (with_reducible apply w_bin) | (with_reducible apply w_m1) | (with_reducible apply w_un) | (with_reducible apply w_cons) | (with_reducible apply w_nil) | (with_reducible apply w_callN) | ((with_reducible apply w_var); exact rfl) | (with_reducible apply w_c) | (with_reducible apply w_T) | (with_reducible apply w_NotT) | (with_reducible apply w_AndT) | (with_reducible apply w_OrT) | (with_reducible apply w_And) | (with_reducible apply w_Or) | (with_reducible apply w_Not) | (with_reducible apply w_If) | (with_reducible apply w_tup) | (with_reducible apply w_lstF) | (with_reducible apply w_noP) | (with_reducible apply w_part) | (with_reducible apply w_slice) | (with_reducible apply w_isN) | (with_reducible apply w_add) | (with_reducible apply w_sub) | (with_reducible apply w_gt) | (with_reducible apply w_lt) | (with_reducible apply w_ge) | (with_reducible apply w_le) | (with_reducible apply w_eqI) | (with_reducible apply w_neI) | (with_reducible apply w_eqS) | (with_reducible apply w_neS) | ((with_reducible apply x_ixT); exact rfl; exact rfl) | ((with_reducible apply x_ixL); exact rfl; exact rfl) | ((with_reducible apply x_lenT); exact rfl) | ((with_reducible apply x_lenL); exact rfl) | (with_reducible apply w_intI) | (with_reducible apply w_intB) | (with_reducible apply w_tupT) | (with_reducible apply w_tupL) | (with_reducible apply w_slT) | (with_reducible apply w_slL) | (with_reducible apply w_iSeq) | (with_reducible apply w_iRg1) | (with_reducible apply ex_bl) | (with_reducible apply ex_int) | (with_reducible apply ex_neg) | (with_reducible refine And.intro (Nat.le_of_ble_eq_true rfl) ?_) | (with_reducible refine And.intro (rfl : List.length _ = _) ?_))
      refine w_draw hB (by omega) (by omega) fun s5 g hB5 hg => ?_
      refine o_seq (o_set ?_)
      repeat (first | (with_reducible apply w_bin) | (with_reducible apply w_m1) | (with_reducible apply w_un) | (with_reducible apply w_cons) | (with_reducible apply w_nil) | (with_reducible apply w_callN) | ((with_reducible apply w_var); exact rfl) | (with_reducible apply w_c) | (with_reducible apply w_T) | (with_reducible apply w_NotT) | (with_reducible apply w_AndT) | (with_reducible apply w_OrT) | (with_reducible apply w_And) | (with_reducible apply w_Or) | (with_reducible apply w_Not) | (with_reducible apply w_If) | (with_reducible apply w_tup) | (with_reducible apply w_lstF) | (with_reducible apply w_noP) | (with_reducible apply w_part) | (with_reducible apply w_slice) | (with_reducible apply w_isN) | (with_reducible apply w_add) | (with_reducible apply w_sub) | (with_reducible apply w_gt) | (with_reducible apply w_lt) | (with_reducible apply w_ge) | (with_reducible apply w_le) | (with_reducible apply w_eqI) | (with_reducible apply w_neI) | (with_reducible apply w_eqS) | (with_reducible apply w_neS) | ((with_reducible apply x_ixT); exact rfl; exact rfl) | ((with_reducible apply x_ixL); exact rfl; exact rfl) | ((with_reducible apply x_lenT); exact rfl) | ((with_reducible apply x_lenL); exact rfl) | (with_reducible apply w_intI) | (with_reducible apply w_intB) | (with_reducible apply w_tupT) | (with_reducible apply w_tupL) | (with_reducible apply w_slT) | (with_reducible apply w_slL) | (with_reducible apply w_iSeq) | (with_reducible apply w_iRg1) | (with_reducible apply ex_bl) | (with_reducible apply ex_int) | (with_reducible apply ex_neg) | (with_reducible refine And.intro (Nat.le_of_ble_eq_true rfl) ?_) | (with_reducible refine And.intro (rfl : List.length _ = _) ?_))
      refine w_draw hB5 (by omega) (by omega) fun s6 t hB6 ht => ?_
      repeat (first | (with_reducible apply w_bin) | (with_reducible apply w_m1) | (with_reducible apply w_un) | (with_reducible apply w_cons) | (with_reducible apply w_nil) | (with_reducible apply w_callN) | ((with_reducible apply w_var); exact rfl) | (with_reducible apply w_c) | (with_reducible apply w_T) | (with_reducible apply w_NotT) | (with_reducible apply w_AndT) | (with_reducible apply w_OrT) | (with_reducible apply w_And) | (with_reducible apply w_Or) | (with_reducible apply w_Not) | (with_reducible apply w_If) | (with_reducible apply w_tup) | (with_reducible apply w_lstF) | (with_reducible apply w_noP) | (with_reducible apply w_part) | (with_reducible apply w_slice) | (with_reducible apply w_isN) | (with_reducible apply w_add) | (with_reducible apply w_sub) | (with_reducible apply w_gt) | (with_reducible apply w_lt) | (with_reducible apply w_ge) | (with_reducible apply w_le) | (with_reducible apply w_eqI) | (with_reducible apply w_neI) | (with_reducible apply w_eqS) | (with_reducible apply w_neS) | ((with_reducible apply x_ixT); exact rfl; exact rfl) | ((with_reducible apply x_ixL); exact rfl; exact rfl) | ((with_reducible apply x_lenT); exact rfl) | ((with_reducible apply x_lenL); exact rfl) | (with_reducible apply w_intI) | (with_reducible apply w_intB) | (with_reducible apply w_tupT) | (with_reducible apply w_tupL) | (with_reducible apply w_slT) | (with_reducible apply w_slL) | (with_reducible apply w_iSeq) | (with_reducible apply w_iRg1) | (with_reducible apply ex_bl) | (with_reducible apply ex_int) | (with_reducible apply ex_neg) | (with_reducible refine And.intro (Nat.le_of_ble_eq_true rfl) ?_) | (with_reducible refine And.intro (rfl : List.length _ = _) ?_))
      refine w_mod (by omega) ?_
      obtain ⟨t1, t2, t3⟩ := taker_ok (g := g) (t := t) m2 (by omega) (by omega)
      rw [t1]
      refine o_expr (w_meth (w_var rfl ⟨by simp [tyM, (hB6.get hne).trans (hget _)], ?_⟩))
      refine w_cons (w_tup (w_cons (w_bin (w_c (w_var rfl (w_cdef (by omega) ?_))))))
      repeat (first | (with_reducible apply w_bin) | (with_reducible apply w_m1) | (with_reducible apply w_un) | (with_reducible apply w_cons) | (with_reducible apply w_nil) | (with_reducible apply w_callN) | ((with_reducible apply w_var); exact rfl) | (with_reducible apply w_c) | (with_reducible apply w_T) | (with_reducible apply w_NotT) | (with_reducible apply w_AndT) | (with_reducible apply w_OrT) | (with_reducible apply w_And) | (with_reducible apply w_Or) | (with_reducible apply w_Not) | (with_reducible apply w_If) | (with_reducible apply w_tup) | (with_reducible apply w_lstF) | (with_reducible apply w_noP) | (with_reducible apply w_part) | (with_reducible apply w_slice) | (with_reducible apply w_isN) | (with_reducible apply w_add) | (with_reducible apply w_sub) | (with_reducible apply w_gt) | (with_reducible apply w_lt) | (with_reducible apply w_ge) | (with_reducible apply w_le) | (with_reducible apply w_eqI) | (with_reducible apply w_neI) | (with_reducible apply w_eqS) | (with_reducible apply w_neS) | ((with_reducible apply x_ixT); exact rfl; exact rfl) | ((with_reducible apply x_ixL); exact rfl; exact rfl) | ((with_reducible apply x_lenT); exact rfl) | ((with_reducible apply x_lenL); exact rfl) | (with_reducible apply w_intI) | (with_reducible apply w_intB) | (with_reducible apply w_tupT) | (with_reducible apply w_tupL) | (with_reducible apply w_slT) | (with_reducible apply w_slL) | (with_reducible apply w_iSeq) | (with_reducible apply w_iRg1) | (with_reducible apply ex_bl) | (with_reducible apply ex_int) | (with_reducible apply ex_neg) | (with_reducible refine And.intro (Nat.le_of_ble_eq_true rfl) ?_) | (with_reducible refine And.intro (rfl : List.length _ = _) ?_))
      refine w_draw hB6 (by decide) (by decide) fun s7 u hB7 hu => ?_
      refine w_ixL (kinds_at (by omega)) ?_
      repeat (first | (with_reducible apply w_bin) | (with_reducible apply w_m1) | (with_reducible apply w_un) | (with_reducible apply w_cons) | (with_reducible apply w_nil) | (with_reducible apply w_callN) | ((with_reducible apply w_var); exact rfl) | (with_reducible apply w_c) | (with_reducible apply w_T) | (with_reducible apply w_NotT) | (with_reducible apply w_AndT) | (with_reducible apply w_OrT) | (with_reducible apply w_And) | (with_reducible apply w_Or) | (with_reducible apply w_Not) | (with_reducible apply w_If) | (with_reducible apply w_tup) | (with_reducible apply w_lstF) | (with_reducible apply w_noP) | (with_reducible apply w_part) | (with_reducible apply w_slice) | (with_reducible apply w_isN) | (with_reducible apply w_add) | (with_reducible apply w_sub) | (with_reducible apply w_gt) | (with_reducible apply w_lt) | (with_reducible apply w_ge) | (with_reducible apply w_le) | (with_reducible apply w_eqI) | (with_reducible apply w_neI) | (with_reducible apply w_eqS) | (with_reducible apply w_neS) | ((with_reducible apply x_ixT); exact rfl; exact rfl) | ((with_reducible apply x_ixL); exact rfl; exact rfl) | ((with_reducible apply x_lenT); exact rfl) | ((with_reducible apply x_lenL); exact rfl) | (with_reducible apply w_intI) | (with_reducible apply w_intB) | (with_reducible apply w_tupT) | (with_reducible apply w_tupL) | (with_reducible apply w_slT) | (with_reducible apply w_slL) | (with_reducible apply w_iSeq) | (with_reducible apply w_iRg1) | (with_reducible apply ex_bl) | (with_reducible apply ex_int) | (with_reducible apply ex_neg) | (with_reducible refine And.intro (Nat.le_of_ble_eq_true rfl) ?_) | (with_reducible refine And.intro (rfl : List.length _ = _) ?_))
      refine w_app ((hB7.get hne).trans (hget _)) (lim_lt (by rw [List.length_map]; omega)) ?_
      refine ⟨hjl, chs ++ [⟨cdef j, g, (g + 1 + t) % m, u⟩], _, _, _, rfl, ?_, ?_, ?_, ?_⟩
      · have := hB7.put (c := .lst ((chs ++ [Chan.mk (cdef j) g ((g + 1 + t) % m) u]).map encC)) hne
        rw [hput] at this
        rw [List.map_append] at this ⊢
        exact this
      · simp [c1]
      · rw [List.map_append, c2, List.range_succ, List.map_append]
        rfl
      · intro c hc
        rcases List.mem_append.mp hc with hc | hc
        · exact c3 c hc
        · rw [List.mem_singleton.mp hc]
          exact ⟨by show g < m; omega, t2, fun e => t3 e.symm⟩
    · rintro e s' ⟨_, chs, v4, v6, v7, rfl, hB, c1, c2, c3⟩
      have : (rngD 0 (1 + z)).items.length = 1 + z := by simp [rngD]
      rw [this] at c1 c2
      exact ⟨chs, v4, v6, v7, rfl, hB, by omega, by omega, by rw [c1]; exact c2, c3⟩
  rintro e s4 ⟨chs, v4, v6, v7, rfl, hB4, c1, c4, c2, c3⟩
  have hl4 := hB4.len
  rw [List.length_append] at hl4
  have hl4 : s4.length = S.length + 1 := hl4
  refine o_seq (o_set (w_lstT (w_nil ⟨Nat.zero_le _, ?_⟩)))
  rw [hl4]
  have hB5 : Bx cs k (S ++ [.lst (chs.map encC)] ++ [.lst []]) (s4 ++ [.lst []]) := hB4.ext _
  have hget1 : ∀ l : List D, (S ++ [Cell.lst (chs.map encC)] ++ [Cell.lst l])[S.length]? = some (.lst (chs.map encC)) := fun l => by simp
  have hget2 : ∀ l : List D, (S ++ [Cell.lst (chs.map encC)] ++ [Cell.lst l])[S.length + 1]? = some (.lst l) := fun l => by simp
  have hput2 : ∀ l m : List D, (S ++ [Cell.lst (chs.map encC)] ++ [Cell.lst l]).set (S.length + 1) (.lst m) = S ++ [Cell.lst (chs.map encC)] ++ [Cell.lst m] := fun l m => by simp
  have hne2 : S.length + 1 ≠ k := by omega
  refine o_cut (fun e s' => ∃ (rs : List Rule) (v4 v6 v7 v8 v9 v10 v11 : Option D), e = [some (.ref k), some (.int m), some (.lst (ps.map encP)), some (.ref S.length), v4, some (.ref (S.length + 1)), v6, v7, v8, v9, v10, v11] ∧ Bx cs k (S ++ [.lst (chs.map encC)] ++ [.lst (rs.map encR)]) s' ∧ rs.length ≤ 40 ∧ ∀ r ∈ rs, ruleOk ps chs r) ?_ ?_
  · refine o_for (w_iRg1 ?_)
    repeat (first | (with_reducible apply w_bin) | (with_reducible apply w_m1) | (with_reducible apply w_un) | (with_reducible apply w_cons) | (with_reducible apply w_nil) | (with_reducible apply w_callN) | ((with_reducible apply w_var); exact rfl) | (with_reducible apply w_c) | (with_reducible apply w_T) | (with_reducible apply w_NotT) | (with_reducible apply w_AndT) | (with_reducible apply w_OrT) | (with_reducible apply w_And) | (with_reducible apply w_Or) | (with_reducible apply w_Not) | (with_reducible apply w_If) | (with_reducible apply w_tup) | (with_reducible apply w_lstF) | (with_reducible apply w_noP) | (with_reducible apply w_part) | (with_reducible apply w_slice) | (with_reducible apply w_isN) | (with_reducible apply w_add) | (with_reducible apply w_sub) | (with_reducible apply w_gt) | (with_reducible apply w_lt) | (with_reducible apply w_ge) | (with_reducible apply w_le) | (with_reducible apply w_eqI) | (with_reducible apply w_neI) | (with_reducible apply w_eqS) | (with_reducible apply w_neS) | ((with_reducible apply x_ixT); exact rfl; exact rfl) | ((with_reducible apply x_ixL); exact rfl; exact rfl) | ((with_reducible apply x_lenT); exact rfl) | ((with_reducible apply x_lenL); exact rfl) | (with_reducible apply w_intI) | (with_reducible apply w_intB) | (with_reducible apply w_tupT) | (with_reducible apply w_tupL) | (with_reducible apply w_slT) | (with_reducible apply w_slL) | (with_reducible apply w_iSeq) | (with_reducible apply w_iRg1) | (with_reducible apply ex_bl) | (with_reducible apply ex_int) | (with_reducible apply ex_neg) | (with_reducible refine And.intro (Nat.le_of_ble_eq_true rfl) ?_) | (with_reducible refine And.intro (rfl : List.length _ = _) ?_))
    refine w_draw hB5 (by decide) (by decide) fun s6 z hB6 hz => ?_
    refine w_add ⟨6 + z, by rw [Int.natCast_add]; rfl, by omega, ?_⟩
    refine ⟨fun j e s' => j ≤ 6 + z ∧ ∃ (rs : List Rule) (v4 v6 v7 v8 v9 v10 v11 : Option D), e = [some (.ref k), some (.int m), some (.lst (ps.map encP)), some (.ref S.length), v4, some (.ref (S.length + 1)), v6, v7, v8, v9, v10, v11] ∧ Bx cs k (S ++ [.lst (chs.map encC)] ++ [.lst (rs.map encR)]) s' ∧ rs.length = j ∧ ∀ r ∈ rs, ruleOk ps chs r, ⟨Nat.zero_le _, [], v4, v6, v7, none, none, none, none, rfl, hB6, rfl, by simp⟩, fun _ _ _ _ => rfl, ?_, ?_⟩
    · rintro j x hx e s' ⟨hj, rs, v4, v6, v7, v8, v9, v10, v11, rfl, hB, r1, r2⟩
      have hjl : j < 6 + z := by
        have := (List.getElem?_eq_some_iff.mp hx).1
        simpa [rngD] using this
      refine ⟨_, _, rfl, ?_⟩
      refine o_seq (o_set (w_callN (w_cons (w_var rfl (w_cons (w_m1 (w_var rfl (w_lenR ((hB.get hne).trans (hget1 _)) (w_nil ⟨rfl, ?_⟩)))))))))
      refine w_draw hB (by rw [List.length_map]; omega) (by rw [List.length_map]; omega) fun s7 c hB7 hc => ?_
      rw [List.length_map] at hc
      obtain ⟨ch, hch⟩ : ∃ ch, chs[c]? = some ch := ⟨chs[c]'(by omega), by simp⟩
      obtain ⟨g1, g2, g3⟩ := c3 ch (List.mem_of_getElem? hch)
      refine o_cut (fun e s' => ∃ (a : Act) (tk : Nat) (v11 : Option D), e = [some (.ref k), some (.int m), some (.lst (ps.map encP)), some (.ref S.length), some x, some (.ref (S.length + 1)), v6, v7, some (.int c), some (encA a), v10, v11] ∧ Bx cs k (S ++ [.lst (chs.map encC)] ++ [.lst (rs.map encR)]) s' ∧ tk < 10 ∧ (a = .send c tk ∨ a = .take c tk)) ?_ ?_
      · refine o_set ?_
        repeat (first | (with_reducible apply w_bin) | (with_reducible apply w_m1) | (with_reducible apply w_un) | (with_reducible apply w_cons) | (with_reducible apply w_nil) | (with_reducible apply w_callN) | ((with_reducible apply w_var); exact rfl) | (with_reducible apply w_c) | (with_reducible apply w_T) | (with_reducible apply w_NotT) | (with_reducible apply w_AndT) | (with_reducible apply w_OrT) | (with_reducible apply w_And) | (with_reducible apply w_Or) | (with_reducible apply w_Not) | (with_reducible apply w_If) | (with_reducible apply w_tup) | (with_reducible apply w_lstF) | (with_reducible apply w_noP) | (with_reducible apply w_part) | (with_reducible apply w_slice) | (with_reducible apply w_isN) | (with_reducible apply w_add) | (with_reducible apply w_sub) | (with_reducible apply w_gt) | (with_reducible apply w_lt) | (with_reducible apply w_ge) | (with_reducible apply w_le) | (with_reducible apply w_eqI) | (with_reducible apply w_neI) | (with_reducible apply w_eqS) | (with_reducible apply w_neS) | ((with_reducible apply x_ixT); exact rfl; exact rfl) | ((with_reducible apply x_ixL); exact rfl; exact rfl) | ((with_reducible apply x_lenT); exact rfl) | ((with_reducible apply x_lenL); exact rfl) | (with_reducible apply w_intI) | (with_reducible apply w_intB) | (with_reducible apply w_tupT) | (with_reducible apply w_tupL) | (with_reducible apply w_slT) | (with_reducible apply w_slL) | (with_reducible apply w_iSeq) | (with_reducible apply w_iRg1) | (with_reducible apply ex_bl) | (with_reducible apply ex_int) | (with_reducible apply ex_neg) | (with_reducible refine And.intro (Nat.le_of_ble_eq_true rfl) ?_) | (with_reducible refine And.intro (rfl : List.length _ = _) ?_))
        refine w_draw hB7 (by decide) (by decide) fun s8 t1 hB8 ht1 => ?_
        repeat (first | (with_reducible apply w_bin) | (with_reducible apply w_m1) | (with_reducible apply w_un) | (with_reducible apply w_cons) | (with_reducible apply w_nil) | (with_reducible apply w_callN) | ((with_reducible apply w_var); exact rfl) | (with_reducible apply w_c) | (with_reducible apply w_T) | (with_reducible apply w_NotT) | (with_reducible apply w_AndT) | (with_reducible apply w_OrT) | (with_reducible apply w_And) | (with_reducible apply w_Or) | (with_reducible apply w_Not) | (with_reducible apply w_If) | (with_reducible apply w_tup) | (with_reducible apply w_lstF) | (with_reducible apply w_noP) | (with_reducible apply w_part) | (with_reducible apply w_slice) | (with_reducible apply w_isN) | (with_reducible apply w_add) | (with_reducible apply w_sub) | (with_reducible apply w_gt) | (with_reducible apply w_lt) | (with_reducible apply w_ge) | (with_reducible apply w_le) | (with_reducible apply w_eqI) | (with_reducible apply w_neI) | (with_reducible apply w_eqS) | (with_reducible apply w_neS) | ((with_reducible apply x_ixT); exact rfl; exact rfl) | ((with_reducible apply x_ixL); exact rfl; exact rfl) | ((with_reducible apply x_lenT); exact rfl) | ((with_reducible apply x_lenL); exact rfl) | (with_reducible apply w_intI) | (with_reducible apply w_intB) | (with_reducible apply w_tupT) | (with_reducible apply w_tupL) | (with_reducible apply w_slT) | (with_reducible apply w_slL) | (with_reducible apply w_iSeq) | (with_reducible apply w_iRg1) | (with_reducible apply ex_bl) | (with_reducible apply ex_int) | (with_reducible apply ex_neg) | (with_reducible refine And.intro (Nat.le_of_ble_eq_true rfl) ?_) | (with_reducible refine And.intro (rfl : List.length _ = _) ?_))
        refine w_draw hB8 (by decide) (by decide) fun s9 t2 hB9 ht2 => ?_
        repeat (first | (with_reducible apply w_bin) | (with_reducible apply w_m1) | (with_reducible apply w_un) | (with_reducible apply w_cons) | (with_reducible apply w_nil) | (with_reducible apply w_callN) | ((with_reducible apply w_var); exact rfl) | (with_reducible apply w_c) | (with_reducible apply w_T) | (with_reducible apply w_NotT) | (with_reducible apply w_AndT) | (with_reducible apply w_OrT) | (with_reducible apply w_And) | (with_reducible apply w_Or) | (with_reducible apply w_Not) | (with_reducible apply w_If) | (with_reducible apply w_tup) | (with_reducible apply w_lstF) | (with_reducible apply w_noP) | (with_reducible apply w_part) | (with_reducible apply w_slice) | (with_reducible apply w_isN) | (with_reducible apply w_add) | (with_reducible apply w_sub) | (with_reducible apply w_gt) | (with_reducible apply w_lt) | (with_reducible apply w_ge) | (with_reducible apply w_le) | (with_reducible apply w_eqI) | (with_reducible apply w_neI) | (with_reducible apply w_eqS) | (with_reducible apply w_neS) | ((with_reducible apply x_ixT); exact rfl; exact rfl) | ((with_reducible apply x_ixL); exact rfl; exact rfl) | ((with_reducible apply x_lenT); exact rfl) | ((with_reducible apply x_lenL); exact rfl) | (with_reducible apply w_intI) | (with_reducible apply w_intB) | (with_reducible apply w_tupT) | (with_reducible apply w_tupL) | (with_reducible apply w_slT) | (with_reducible apply w_slL) | (with_reducible apply w_iSeq) | (with_reducible apply w_iRg1) | (with_reducible apply ex_bl) | (with_reducible apply ex_int) | (with_reducible apply ex_neg) | (with_reducible refine And.intro (Nat.le_of_ble_eq_true rfl) ?_) | (with_reducible refine And.intro (rfl : List.length _ = _) ?_))
        refine w_draw hB9 (by decide) (by decide) fun s10 u hB10 hu => ?_
        have : u = 0 ∨ u = 1 := by omega
        rcases this with rfl | rfl
        · exact w_ixL (at0 _ _) ⟨.send c t1, t1, _, rfl, hB10, by omega, .inl rfl⟩
        · exact w_ixL (at1 _ _ _) ⟨.take c t2, t2, _, rfl, hB10, by omega, .inr rfl⟩
      rintro e s8 ⟨a, tk, v11, rfl, hB8, htk, ha⟩
      have hends : ∃ p, p < m ∧ L2.atI [D.str ch.nm, .int ch.giver, .int ch.taker, .str (kindOf ch.kind)] (1 + (if (decide ((match ha with | _ => if isTake a = true then ("take" : Str) else "send") = ("take" : Str))) = true then 1 else 0)) = some (.int p) ∧ actOk chs p a := by
        rcases ha with rfl | rfl
        · exact ⟨ch.giver, g1, rfl, ⟨ch, hch, rfl⟩, htk⟩
        · exact ⟨ch.taker, g2, rfl, ⟨ch, hch, rfl⟩, htk⟩
      obtain ⟨p, hp, hat, hact⟩ := hends
      obtain ⟨pp, hpp⟩ : ∃ pp, ps[p]? = some pp := ⟨ps[p]'(by omega), by simp⟩
      obtain ⟨pp1, pp2⟩ := p3 pp (List.mem_of_getElem? hpp)
      refine o_seq (o_set (w_bin (w_bin (w_var rfl (w_var rfl (w_ixR ((hB8.get hne).trans (hget1 _)) (at_enc hch) ?_))))))
      refine w_bin (w_c (w_m1 (w_bin (w_bin (w_var rfl (w_c ?_))))))
      have hfirst : ∀ {Q : D → Sto → Prop}, Q (.str (if isTake a = true then ("take" : Str) else "send")) s8 → wp (lift (oIx (encA a) (.int 0) s8)) Q := fun q => by
        rcases ha with rfl | rfl
        · exact w_ixT (at0 _ _) q
        · exact w_ixT (at0 _ _) q
      refine hfirst (w_c (w_eqS (w_intB (w_add ?_))))
      refine w_ixT hat ?_
      refine o_seq (o_set (w_bin (w_bin (w_var rfl (w_var rfl (w_ixL (at_enc hpp) (w_c (w_ixT (at1 _ _ _) ?_)))))))  )
      refine o_expr (w_meth (w_var rfl ⟨by simp [tyM, (hB8.get hne2).trans (hget2 _)], ?_⟩))
      repeat (first | (with_reducible apply w_bin) | (with_reducible apply w_m1) | (with_reducible apply w_un) | (with_reducible apply w_cons) | (with_reducible apply w_nil) | (with_reducible apply w_callN) | ((with_reducible apply w_var); exact rfl) | (with_reducible apply w_c) | (with_reducible apply w_T) | (with_reducible apply w_NotT) | (with_reducible apply w_AndT) | (with_reducible apply w_OrT) | (with_reducible apply w_And) | (with_reducible apply w_Or) | (with_reducible apply w_Not) | (with_reducible apply w_If) | (with_reducible apply w_tup) | (with_reducible apply w_lstF) | (with_reducible apply w_noP) | (with_reducible apply w_part) | (with_reducible apply w_slice) | (with_reducible apply w_isN) | (with_reducible apply w_add) | (with_reducible apply w_sub) | (with_reducible apply w_gt) | (with_reducible apply w_lt) | (with_reducible apply w_ge) | (with_reducible apply w_le) | (with_reducible apply w_eqI) | (with_reducible apply w_neI) | (with_reducible apply w_eqS) | (with_reducible apply w_neS) | ((with_reducible apply x_ixT); exact rfl; exact rfl) | ((with_reducible apply x_ixL); exact rfl; exact rfl) | ((with_reducible apply x_lenT); exact rfl) | ((with_reducible apply x_lenL); exact rfl) | (with_reducible apply w_intI) | (with_reducible apply w_intB) | (with_reducible apply w_tupT) | (with_reducible apply w_tupL) | (with_reducible apply w_slT) | (with_reducible apply w_slL) | (with_reducible apply w_iSeq) | (with_reducible apply w_iRg1) | (with_reducible apply ex_bl) | (with_reducible apply ex_int) | (with_reducible apply ex_neg) | (with_reducible refine And.intro (Nat.le_of_ble_eq_true rfl) ?_) | (with_reducible refine And.intro (rfl : List.length _ = _) ?_))
      refine w_draw hB8 (by omega) (by omega) fun s9 st1 hB9 h9 => ?_
      repeat (first | (with_reducible apply w_bin) | (with_reducible apply w_m1) | (with_reducible apply w_un) | (with_reducible apply w_cons) | (with_reducible apply w_nil) | (with_reducible apply w_callN) | ((with_reducible apply w_var); exact rfl) | (with_reducible apply w_c) | (with_reducible apply w_T) | (with_reducible apply w_NotT) | (with_reducible apply w_AndT) | (with_reducible apply w_OrT) | (with_reducible apply w_And) | (with_reducible apply w_Or) | (with_reducible apply w_Not) | (with_reducible apply w_If) | (with_reducible apply w_tup) | (with_reducible apply w_lstF) | (with_reducible apply w_noP) | (with_reducible apply w_part) | (with_reducible apply w_slice) | (with_reducible apply w_isN) | (with_reducible apply w_add) | (with_reducible apply w_sub) | (with_reducible apply w_gt) | (with_reducible apply w_lt) | (with_reducible apply w_ge) | (with_reducible apply w_le) | (with_reducible apply w_eqI) | (with_reducible apply w_neI) | (with_reducible apply w_eqS) | (with_reducible apply w_neS) | ((with_reducible apply x_ixT); exact rfl; exact rfl) | ((with_reducible apply x_ixL); exact rfl; exact rfl) | ((with_reducible apply x_lenT); exact rfl) | ((with_reducible apply x_lenL); exact rfl) | (with_reducible apply w_intI) | (with_reducible apply w_intB) | (with_reducible apply w_tupT) | (with_reducible apply w_tupL) | (with_reducible apply w_slT) | (with_reducible apply w_slL) | (with_reducible apply w_iSeq) | (with_reducible apply w_iRg1) | (with_reducible apply ex_bl) | (with_reducible apply ex_int) | (with_reducible apply ex_neg) | (with_reducible refine And.intro (Nat.le_of_ble_eq_true rfl) ?_) | (with_reducible refine And.intro (rfl : List.length _ = _) ?_))
      refine w_draw hB9 (by omega) (by omega) fun s10 st2 hB10 h10 => ?_
      repeat (first | (with_reducible apply w_bin) | (with_reducible apply w_m1) | (with_reducible apply w_un) | (with_reducible apply w_cons) | (with_reducible apply w_nil) | (with_reducible apply w_callN) | ((with_reducible apply w_var); exact rfl) | (with_reducible apply w_c) | (with_reducible apply w_T) | (with_reducible apply w_NotT) | (with_reducible apply w_AndT) | (with_reducible apply w_OrT) | (with_reducible apply w_And) | (with_reducible apply w_Or) | (with_reducible apply w_Not) | (with_reducible apply w_If) | (with_reducible apply w_tup) | (with_reducible apply w_lstF) | (with_reducible apply w_noP) | (with_reducible apply w_part) | (with_reducible apply w_slice) | (with_reducible apply w_isN) | (with_reducible apply w_add) | (with_reducible apply w_sub) | (with_reducible apply w_gt) | (with_reducible apply w_lt) | (with_reducible apply w_ge) | (with_reducible apply w_le) | (with_reducible apply w_eqI) | (with_reducible apply w_neI) | (with_reducible apply w_eqS) | (with_reducible apply w_neS) | ((with_reducible apply x_ixT); exact rfl; exact rfl) | ((with_reducible apply x_ixL); exact rfl; exact rfl) | ((with_reducible apply x_lenT); exact rfl) | ((with_reducible apply x_lenL); exact rfl) | (with_reducible apply w_intI) | (with_reducible apply w_intB) | (with_reducible apply w_tupT) | (with_reducible apply w_tupL) | (with_reducible apply w_slT) | (with_reducible apply w_slL) | (with_reducible apply w_iSeq) | (with_reducible apply w_iRg1) | (with_reducible apply ex_bl) | (with_reducible apply ex_int) | (with_reducible apply ex_neg) | (with_reducible refine And.intro (Nat.le_of_ble_eq_true rfl) ?_) | (with_reducible refine And.intro (rfl : List.length _ = _) ?_))
      refine w_app ((hB10.get hne2).trans (hget2 _)) (lim_lt (by rw [List.length_map]; omega)) ?_
      refine ⟨hjl, rs ++ [⟨p, st1, a, st2⟩], _, _, _, _, _, _, _, rfl, ?_, by simp [r1], fun r hr => ?_⟩
      · have := hB10.put (c := .lst ((rs ++ [Rule.mk p st1 a st2]).map encR)) hne2
        rw [hput2] at this
        rw [List.map_append] at this ⊢
        exact this
      · rcases List.mem_append.mp hr with hr | hr
        · exact r2 r hr
        · rw [List.mem_singleton.mp hr]
          exact ⟨⟨pp, hpp, by show st1 < pp.2; omega, by show st2 < pp.2; omega⟩, hact⟩
    · rintro e s' ⟨hj, rs, v4, v6, v7, v8, v9, v10, v11, rfl, hB, r1, r2⟩
      exact ⟨rs, v4, v6, v7, v8, v9, v10, v11, rfl, hB, by omega, r2⟩
  rintro e s6 ⟨rs, v4, v6, v7, v8, v9, v10, v11, rfl, hB6, r1, r2⟩
  refine o_ret (w_tup (w_cons (w_m1 (w_var rfl (w_tupL (w_cons (w_m1 (w_var rfl (w_tupR ((hB6.get hne).trans (hget1 _)) (w_cons (w_m1 (w_var rfl (w_tupR ((hB6.get hne2).trans (hget2 _)) (w_nil ⟨Nat.le_of_ble_eq_true rfl, ?_⟩))))))))))))))
  rw [List.append_assoc] at hB6
  refine fin_bx (d := tN ⟨ps, chs, rs⟩) h hB6 (pl_N _) fun s9 hB9 => q s9 ⟨ps, chs, rs⟩ hB9 ?_
  exact { p1 := by show 1 ≤ ps.length; omega
          p5 := by show ps.length ≤ 5; omega
          pn := fun p hp => by
            have hm : p.1 ∈ (List.range m).map pqr := by
              rw [← p1]
              exact List.mem_map_of_mem hp
            obtain ⟨j, _, e⟩ := List.mem_map.mp hm
            have h3 := p3 p hp
            rw [← e]
            exact ⟨(pqr_ok j).1, (pqr_ok j).2, h3.1, by omega⟩
          pd := by
            show (ps.map (·.1)).Nodup
            rw [p1]
            exact pqr_inj m m3
          c8 := by show chs.length ≤ 8; omega
          cn := fun c hc => by
            have hm : c.nm ∈ (List.range chs.length).map cdef := by
              rw [← c2]
              exact List.mem_map_of_mem hc
            obtain ⟨j, _, e⟩ := List.mem_map.mp hm
            have h3 := c3 c hc
            rw [← e]
            exact ⟨(cdef_ok j).1, (cdef_ok j).2, by show c.giver < ps.length; omega, by show c.taker < ps.length; omega, h3.2.2⟩
          cd := by
            show (chs.map (·.nm)).Nodup
            rw [c2]
            exact cdef_inj _ c4
          r40 := r1
          rn := r2 }
end K

namespace K
open PySem Cw
theorem lay_s (s : Str) (h : chars s = true) : PyData.canLay0 (.str s) = true := h
theorem eq_none (d : Deed) (st : Sto) : oEq false (encD d) (.tup []) st = some (.bl false, st) := by
  have c1 : PyData.canLay0 (.str ("act" : Str)) = true := by decide +kernel
  have c2 : PyData.canLay0 (.str ("take" : Str)) = true := by decide +kernel
  have c3 : PyData.canLay0 (.str ("lose" : Str)) = true := by decide +kernel
  have p2 : pyOf st (.tup []) = some (.tuple []) := by
    show toPy _ = _
    simp [toPy, toPyL]
  have s2 : SeqAt.shaped (.tuple []) = true := by simp [SeqAt.shaped, PyData.canLay0, PyData.canLayAll0, PyData.depth, PyData.depthAll]
  have go : ∀ (z : Str) (r : List PyData), PyData.canLay0 (.str z) = true → PyData.canLayAll0 r = true → PyData.depthAll r ≤ 1 → toPy (encD d) = some (.tuple (.str z :: r)) → oEq false (encD d) (.tup []) st = some (.bl false, st) := fun z r h1 h2 h3 h4 => by
    have p1 : pyOf st (encD d) = some (.tuple (.str z :: r)) := by
      rw [← h4]
      cases d <;> rfl
    have s1 : SeqAt.shaped (.tuple (.str z :: r)) = true := by
      have q1 : PyData.canLay0 (.tuple (.str z :: r)) = true := by
        simp only [PyData.canLay0, PyData.canLayAll0, h2, Bool.and_true]
        exact h1
      unfold SeqAt.shaped
      rw [q1, Bool.true_and, decide_eq_true_eq]
      simp only [PyData.depth, PyData.depthAll]
      omega
    have e : eqD st (encD d) (.tup []) = some false := by
      have : eqD st (encD d) (.tup []) = (match pyOf st (encD d), pyOf st (.tup []) with
        | some p, some q => if (SeqAt.shaped p && SeqAt.shaped q) = true then some (PyData.eqv p q) else none
        | _, _ => none) := by cases d <;> rfl
      rw [this, p1, p2]
      simp only [s1, s2, Bool.and_self, if_true]
      simp [PyData.eqv, PyData.eqvAll]
    unfold oEq
    rw [e]
    rfl
  cases d with
  | act r => exact go "act" [.int r] c1 (by simp [PyData.canLayAll0, PyData.canLay0]) (by simp [PyData.depth, PyData.depthAll]) (by simp [encD, toPy, toPyL])
  | take r k => exact go "take" [.int r, .int k] c2 (by simp [PyData.canLayAll0, PyData.canLay0]) (by simp [PyData.depth, PyData.depthAll]) (by simp [encD, toPy, toPyL])
  | lose c k => exact go "lose" [.int c, .int k] c3 (by simp [PyData.canLayAll0, PyData.canLay0]) (by simp [PyData.depth, PyData.depthAll]) (by simp [encD, toPy, toPyL])
theorem eq_none0 (st : Sto) : oEq false (.tup []) (.tup []) st = some (.bl true, st) := by
  have p2 : pyOf st (.tup []) = some (.tuple []) := by
    show toPy _ = _
    simp [toPy, toPyL]
  have s2 : SeqAt.shaped (.tuple []) = true := by simp [SeqAt.shaped, PyData.canLay0, PyData.canLayAll0, PyData.depth, PyData.depthAll]
  have e : eqD st (.tup []) (.tup []) = some true := by
    have : eqD st (.tup []) (.tup []) = (match pyOf st (.tup []), pyOf st (.tup []) with
      | some p, some q => if (SeqAt.shaped p && SeqAt.shaped q) = true then some (PyData.eqv p q) else none
      | _, _ => none) := rfl
    rw [this, p2]
    simp only [s2, Bool.and_self, if_true]
    simp [PyData.eqv, PyData.eqvAll]
  unfold oEq
  rw [e]
  rfl
section
variable {N : Net} {n : Nat} {w : Wd} {b : Bool} {s : Sto} {Q : D → Sto → Prop}
theorem w_walked {cs : List Int} {k turns : Nat} {S : Sto} (hB : Bx cs k S s) (hN : NetOk N) (ht : turns < 100) (q : ∀ s', Bx cs k S s' → Q (.bl true) s') : wp (m__law_walked [.ref k, tN N, .int turns] s) Q := by
  unfold m__law_walked
  refine w_run ?_
  show wo (mb__law_walked [some (.ref k), some (tN N), some (.int turns), none, none, none, none, none, none, none] s) _ _ _ _
  unfold mb__law_walked
  refine o_seq (o_set (w_eq (l_make N hN s _ _ rfl) ?_))
  refine o_seq (o_set ?_)
  repeat (first | (with_reducible apply w_bin) | (with_reducible apply w_m1) | (with_reducible apply w_un) | (with_reducible apply w_cons) | (with_reducible apply w_nil) | (with_reducible apply w_callN) | ((with_reducible apply w_var); exact rfl) | (with_reducible apply w_c) | (with_reducible apply w_T) | (with_reducible apply w_NotT) | (with_reducible apply w_AndT) | (with_reducible apply w_OrT) | (with_reducible apply w_And) | (with_reducible apply w_Or) | (with_reducible apply w_Not) | (with_reducible apply w_If) | (with_reducible apply w_tup) | (with_reducible apply w_lstF) | (with_reducible apply w_noP) | (with_reducible apply w_part) | (with_reducible apply w_slice) | (with_reducible apply w_isN) | (with_reducible apply w_add) | (with_reducible apply w_sub) | (with_reducible apply w_gt) | (with_reducible apply w_lt) | (with_reducible apply w_ge) | (with_reducible apply w_le) | (with_reducible apply w_eqI) | (with_reducible apply w_neI) | (with_reducible apply w_eqS) | (with_reducible apply w_neS) | ((with_reducible apply x_ixT); exact rfl; exact rfl) | ((with_reducible apply x_ixL); exact rfl; exact rfl) | ((with_reducible apply x_lenT); exact rfl) | ((with_reducible apply x_lenL); exact rfl) | (with_reducible apply w_intI) | (with_reducible apply w_intB) | (with_reducible apply w_tupT) | (with_reducible apply w_tupL) | (with_reducible apply w_slT) | (with_reducible apply w_slL) | (with_reducible apply w_iSeq) | (with_reducible apply w_iRg1) | (with_reducible apply ex_bl) | (with_reducible apply ex_int) | (with_reducible apply ex_neg) | (with_reducible refine And.intro (Nat.le_of_ble_eq_true rfl) ?_) | (with_reducible refine And.intro (rfl : List.length _ = _) ?_))
  refine w_lstart hN ?_
  refine o_seq (o_if ?_)
  repeat (first | (with_reducible apply w_bin) | (with_reducible apply w_m1) | (with_reducible apply w_un) | (with_reducible apply w_cons) | (with_reducible apply w_nil) | (with_reducible apply w_callN) | ((with_reducible apply w_var); exact rfl) | (with_reducible apply w_c) | (with_reducible apply w_T) | (with_reducible apply w_NotT) | (with_reducible apply w_AndT) | (with_reducible apply w_OrT) | (with_reducible apply w_And) | (with_reducible apply w_Or) | (with_reducible apply w_Not) | (with_reducible apply w_If) | (with_reducible apply w_tup) | (with_reducible apply w_lstF) | (with_reducible apply w_noP) | (with_reducible apply w_part) | (with_reducible apply w_slice) | (with_reducible apply w_isN) | (with_reducible apply w_add) | (with_reducible apply w_sub) | (with_reducible apply w_gt) | (with_reducible apply w_lt) | (with_reducible apply w_ge) | (with_reducible apply w_le) | (with_reducible apply w_eqI) | (with_reducible apply w_neI) | (with_reducible apply w_eqS) | (with_reducible apply w_neS) | ((with_reducible apply x_ixT); exact rfl; exact rfl) | ((with_reducible apply x_ixL); exact rfl; exact rfl) | ((with_reducible apply x_lenT); exact rfl) | ((with_reducible apply x_lenL); exact rfl) | (with_reducible apply w_intI) | (with_reducible apply w_intB) | (with_reducible apply w_tupT) | (with_reducible apply w_tupL) | (with_reducible apply w_slT) | (with_reducible apply w_slL) | (with_reducible apply w_iSeq) | (with_reducible apply w_iRg1) | (with_reducible apply ex_bl) | (with_reducible apply ex_int) | (with_reducible apply ex_neg) | (with_reducible refine And.intro (Nat.le_of_ble_eq_true rfl) ?_) | (with_reducible refine And.intro (rfl : List.length _ = _) ?_))
  refine w_start hN ?_
  rw [start_enc]
  repeat (first | (with_reducible apply w_bin) | (with_reducible apply w_m1) | (with_reducible apply w_un) | (with_reducible apply w_cons) | (with_reducible apply w_nil) | (with_reducible apply w_callN) | ((with_reducible apply w_var); exact rfl) | (with_reducible apply w_c) | (with_reducible apply w_T) | (with_reducible apply w_NotT) | (with_reducible apply w_AndT) | (with_reducible apply w_OrT) | (with_reducible apply w_And) | (with_reducible apply w_Or) | (with_reducible apply w_Not) | (with_reducible apply w_If) | (with_reducible apply w_tup) | (with_reducible apply w_lstF) | (with_reducible apply w_noP) | (with_reducible apply w_part) | (with_reducible apply w_slice) | (with_reducible apply w_isN) | (with_reducible apply w_add) | (with_reducible apply w_sub) | (with_reducible apply w_gt) | (with_reducible apply w_lt) | (with_reducible apply w_ge) | (with_reducible apply w_le) | (with_reducible apply w_eqI) | (with_reducible apply w_neI) | (with_reducible apply w_eqS) | (with_reducible apply w_neS) | ((with_reducible apply x_ixT); exact rfl; exact rfl) | ((with_reducible apply x_ixL); exact rfl; exact rfl) | ((with_reducible apply x_lenT); exact rfl) | ((with_reducible apply x_lenL); exact rfl) | (with_reducible apply w_intI) | (with_reducible apply w_intB) | (with_reducible apply w_tupT) | (with_reducible apply w_tupL) | (with_reducible apply w_slT) | (with_reducible apply w_slL) | (with_reducible apply w_iSeq) | (with_reducible apply w_iRg1) | (with_reducible apply ex_bl) | (with_reducible apply ex_int) | (with_reducible apply ex_neg) | (with_reducible refine And.intro (Nat.le_of_ble_eq_true rfl) ?_) | (with_reducible refine And.intro (rfl : List.length _ = _) ?_))
  refine w_same (dm_W hN (w0_ok N) (by decide) true) (by decide) ⟨_, rfl, fun h => (by cases h), fun _ => o_nil ?_⟩
  have doneW : ∀ {w : Wd} {j : Nat} {s' : Sto}, WdOk N j w → j < 200 → dm 4 (encW true w) = true := fun h hj => dm_W hN h (by omega) true
  have doneP : ∀ {w : Wd} {j : Nat}, WdOk N j w → j < 200 → dm 2 (.tup ((poss N w).map encD)) = true := fun h hj => dm_poss (by have := poss_len hN h; omega)
  refine o_cut (fun e s' => ∃ (w : Wd) (v5 v6 v7 v8 v9 : Option D), e = [some (.ref k), some (tN N), some (.int turns), some (netD N), some (encW true w), v5, v6, v7, v8, v9] ∧ Bx cs k S s' ∧ WdOk N turns w) ?_ ?_
  · refine o_for (w_iRg1 (w_var rfl ⟨turns, rfl, by omega, ?_⟩))
    refine ⟨fun j e s' => j ≤ turns ∧ ∃ (w : Wd) (v5 v6 v7 v8 v9 : Option D), e = [some (.ref k), some (tN N), some (.int turns), some (netD N), some (encW true w), v5, v6, v7, v8, v9] ∧ Bx cs k S s' ∧ WdOk N j w, ⟨Nat.zero_le _, w0 N, none, none, none, none, none, rfl, hB, w0_ok N⟩, fun _ _ _ _ => rfl, ?_, ?_⟩
    · rintro j x hx e s' ⟨hj, w, v5, v6, v7, v8, v9, rfl, hB1, hw⟩
      have hjl : j < turns := by
        have := (List.getElem?_eq_some_iff.mp hx).1
        simpa [rngD] using this
      refine ⟨_, _, rfl, ?_⟩
      refine o_seq (o_set ?_)
      repeat (first | (with_reducible apply w_bin) | (with_reducible apply w_m1) | (with_reducible apply w_un) | (with_reducible apply w_cons) | (with_reducible apply w_nil) | (with_reducible apply w_callN) | ((with_reducible apply w_var); exact rfl) | (with_reducible apply w_c) | (with_reducible apply w_T) | (with_reducible apply w_NotT) | (with_reducible apply w_AndT) | (with_reducible apply w_OrT) | (with_reducible apply w_And) | (with_reducible apply w_Or) | (with_reducible apply w_Not) | (with_reducible apply w_If) | (with_reducible apply w_tup) | (with_reducible apply w_lstF) | (with_reducible apply w_noP) | (with_reducible apply w_part) | (with_reducible apply w_slice) | (with_reducible apply w_isN) | (with_reducible apply w_add) | (with_reducible apply w_sub) | (with_reducible apply w_gt) | (with_reducible apply w_lt) | (with_reducible apply w_ge) | (with_reducible apply w_le) | (with_reducible apply w_eqI) | (with_reducible apply w_neI) | (with_reducible apply w_eqS) | (with_reducible apply w_neS) | ((with_reducible apply x_ixT); exact rfl; exact rfl) | ((with_reducible apply x_ixL); exact rfl; exact rfl) | ((with_reducible apply x_lenT); exact rfl) | ((with_reducible apply x_lenL); exact rfl) | (with_reducible apply w_intI) | (with_reducible apply w_intB) | (with_reducible apply w_tupT) | (with_reducible apply w_tupL) | (with_reducible apply w_slT) | (with_reducible apply w_slL) | (with_reducible apply w_iSeq) | (with_reducible apply w_iRg1) | (with_reducible apply ex_bl) | (with_reducible apply ex_int) | (with_reducible apply ex_neg) | (with_reducible refine And.intro (Nat.le_of_ble_eq_true rfl) ?_) | (with_reducible refine And.intro (rfl : List.length _ = _) ?_))
      refine w_lpossible hN hw (by omega) ?_
      refine o_cut (fun e s'' => s'' = s' ∧ e = [some (.ref k), some (tN N), some (.int turns), some (netD N), some (encW true w), some x, some (.tup ((poss N w).map encD)), v7, v8, v9]) ?_ ?_
      · refine o_if ?_
        repeat (first | (with_reducible apply w_bin) | (with_reducible apply w_m1) | (with_reducible apply w_un) | (with_reducible apply w_cons) | (with_reducible apply w_nil) | (with_reducible apply w_callN) | ((with_reducible apply w_var); exact rfl) | (with_reducible apply w_c) | (with_reducible apply w_T) | (with_reducible apply w_NotT) | (with_reducible apply w_AndT) | (with_reducible apply w_OrT) | (with_reducible apply w_And) | (with_reducible apply w_Or) | (with_reducible apply w_Not) | (with_reducible apply w_If) | (with_reducible apply w_tup) | (with_reducible apply w_lstF) | (with_reducible apply w_noP) | (with_reducible apply w_part) | (with_reducible apply w_slice) | (with_reducible apply w_isN) | (with_reducible apply w_add) | (with_reducible apply w_sub) | (with_reducible apply w_gt) | (with_reducible apply w_lt) | (with_reducible apply w_ge) | (with_reducible apply w_le) | (with_reducible apply w_eqI) | (with_reducible apply w_neI) | (with_reducible apply w_eqS) | (with_reducible apply w_neS) | ((with_reducible apply x_ixT); exact rfl; exact rfl) | ((with_reducible apply x_ixL); exact rfl; exact rfl) | ((with_reducible apply x_lenT); exact rfl) | ((with_reducible apply x_lenL); exact rfl) | (with_reducible apply w_intI) | (with_reducible apply w_intB) | (with_reducible apply w_tupT) | (with_reducible apply w_tupL) | (with_reducible apply w_slT) | (with_reducible apply w_slL) | (with_reducible apply w_iSeq) | (with_reducible apply w_iRg1) | (with_reducible apply ex_bl) | (with_reducible apply ex_int) | (with_reducible apply ex_neg) | (with_reducible refine And.intro (Nat.le_of_ble_eq_true rfl) ?_) | (with_reducible refine And.intro (rfl : List.length _ = _) ?_))
        refine w_possible hN hw (by omega) ?_
        repeat (first | (with_reducible apply w_bin) | (with_reducible apply w_m1) | (with_reducible apply w_un) | (with_reducible apply w_cons) | (with_reducible apply w_nil) | (with_reducible apply w_callN) | ((with_reducible apply w_var); exact rfl) | (with_reducible apply w_c) | (with_reducible apply w_T) | (with_reducible apply w_NotT) | (with_reducible apply w_AndT) | (with_reducible apply w_OrT) | (with_reducible apply w_And) | (with_reducible apply w_Or) | (with_reducible apply w_Not) | (with_reducible apply w_If) | (with_reducible apply w_tup) | (with_reducible apply w_lstF) | (with_reducible apply w_noP) | (with_reducible apply w_part) | (with_reducible apply w_slice) | (with_reducible apply w_isN) | (with_reducible apply w_add) | (with_reducible apply w_sub) | (with_reducible apply w_gt) | (with_reducible apply w_lt) | (with_reducible apply w_ge) | (with_reducible apply w_le) | (with_reducible apply w_eqI) | (with_reducible apply w_neI) | (with_reducible apply w_eqS) | (with_reducible apply w_neS) | ((with_reducible apply x_ixT); exact rfl; exact rfl) | ((with_reducible apply x_ixL); exact rfl; exact rfl) | ((with_reducible apply x_lenT); exact rfl) | ((with_reducible apply x_lenL); exact rfl) | (with_reducible apply w_intI) | (with_reducible apply w_intB) | (with_reducible apply w_tupT) | (with_reducible apply w_tupL) | (with_reducible apply w_slT) | (with_reducible apply w_slL) | (with_reducible apply w_iSeq) | (with_reducible apply w_iRg1) | (with_reducible apply ex_bl) | (with_reducible apply ex_int) | (with_reducible apply ex_neg) | (with_reducible refine And.intro (Nat.le_of_ble_eq_true rfl) ?_) | (with_reducible refine And.intro (rfl : List.length _ = _) ?_))
        refine w_same (doneP hw (by omega)) (by decide) ⟨_, rfl, fun h => (by cases h), fun _ => ?_⟩
        repeat (first | (with_reducible apply w_bin) | (with_reducible apply w_m1) | (with_reducible apply w_un) | (with_reducible apply w_cons) | (with_reducible apply w_nil) | (with_reducible apply w_callN) | ((with_reducible apply w_var); exact rfl) | (with_reducible apply w_c) | (with_reducible apply w_T) | (with_reducible apply w_NotT) | (with_reducible apply w_AndT) | (with_reducible apply w_OrT) | (with_reducible apply w_And) | (with_reducible apply w_Or) | (with_reducible apply w_Not) | (with_reducible apply w_If) | (with_reducible apply w_tup) | (with_reducible apply w_lstF) | (with_reducible apply w_noP) | (with_reducible apply w_part) | (with_reducible apply w_slice) | (with_reducible apply w_isN) | (with_reducible apply w_add) | (with_reducible apply w_sub) | (with_reducible apply w_gt) | (with_reducible apply w_lt) | (with_reducible apply w_ge) | (with_reducible apply w_le) | (with_reducible apply w_eqI) | (with_reducible apply w_neI) | (with_reducible apply w_eqS) | (with_reducible apply w_neS) | ((with_reducible apply x_ixT); exact rfl; exact rfl) | ((with_reducible apply x_ixL); exact rfl; exact rfl) | ((with_reducible apply x_lenT); exact rfl) | ((with_reducible apply x_lenL); exact rfl) | (with_reducible apply w_intI) | (with_reducible apply w_intB) | (with_reducible apply w_tupT) | (with_reducible apply w_tupL) | (with_reducible apply w_slT) | (with_reducible apply w_slL) | (with_reducible apply w_iSeq) | (with_reducible apply w_iRg1) | (with_reducible apply ex_bl) | (with_reducible apply ex_int) | (with_reducible apply ex_neg) | (with_reducible refine And.intro (Nat.le_of_ble_eq_true rfl) ?_) | (with_reducible refine And.intro (rfl : List.length _ = _) ?_))
        refine w_callK ?_
        repeat (first | (with_reducible apply w_bin) | (with_reducible apply w_m1) | (with_reducible apply w_un) | (with_reducible apply w_cons) | (with_reducible apply w_nil) | (with_reducible apply w_callN) | ((with_reducible apply w_var); exact rfl) | (with_reducible apply w_c) | (with_reducible apply w_T) | (with_reducible apply w_NotT) | (with_reducible apply w_AndT) | (with_reducible apply w_OrT) | (with_reducible apply w_And) | (with_reducible apply w_Or) | (with_reducible apply w_Not) | (with_reducible apply w_If) | (with_reducible apply w_tup) | (with_reducible apply w_lstF) | (with_reducible apply w_noP) | (with_reducible apply w_part) | (with_reducible apply w_slice) | (with_reducible apply w_isN) | (with_reducible apply w_add) | (with_reducible apply w_sub) | (with_reducible apply w_gt) | (with_reducible apply w_lt) | (with_reducible apply w_ge) | (with_reducible apply w_le) | (with_reducible apply w_eqI) | (with_reducible apply w_neI) | (with_reducible apply w_eqS) | (with_reducible apply w_neS) | ((with_reducible apply x_ixT); exact rfl; exact rfl) | ((with_reducible apply x_ixL); exact rfl; exact rfl) | ((with_reducible apply x_lenT); exact rfl) | ((with_reducible apply x_lenL); exact rfl) | (with_reducible apply w_intI) | (with_reducible apply w_intB) | (with_reducible apply w_tupT) | (with_reducible apply w_tupL) | (with_reducible apply w_slT) | (with_reducible apply w_slL) | (with_reducible apply w_iSeq) | (with_reducible apply w_iRg1) | (with_reducible apply ex_bl) | (with_reducible apply ex_int) | (with_reducible apply ex_neg) | (with_reducible refine And.intro (Nat.le_of_ble_eq_true rfl) ?_) | (with_reducible refine And.intro (rfl : List.length _ = _) ?_))
        refine ⟨_, rfl, rfl, rfl, w_possible hN hw (by omega) ?_⟩
        repeat (first | (with_reducible apply w_bin) | (with_reducible apply w_m1) | (with_reducible apply w_un) | (with_reducible apply w_cons) | (with_reducible apply w_nil) | (with_reducible apply w_callN) | ((with_reducible apply w_var); exact rfl) | (with_reducible apply w_c) | (with_reducible apply w_T) | (with_reducible apply w_NotT) | (with_reducible apply w_AndT) | (with_reducible apply w_OrT) | (with_reducible apply w_And) | (with_reducible apply w_Or) | (with_reducible apply w_Not) | (with_reducible apply w_If) | (with_reducible apply w_tup) | (with_reducible apply w_lstF) | (with_reducible apply w_noP) | (with_reducible apply w_part) | (with_reducible apply w_slice) | (with_reducible apply w_isN) | (with_reducible apply w_add) | (with_reducible apply w_sub) | (with_reducible apply w_gt) | (with_reducible apply w_lt) | (with_reducible apply w_ge) | (with_reducible apply w_le) | (with_reducible apply w_eqI) | (with_reducible apply w_neI) | (with_reducible apply w_eqS) | (with_reducible apply w_neS) | ((with_reducible apply x_ixT); exact rfl; exact rfl) | ((with_reducible apply x_ixL); exact rfl; exact rfl) | ((with_reducible apply x_lenT); exact rfl) | ((with_reducible apply x_lenL); exact rfl) | (with_reducible apply w_intI) | (with_reducible apply w_intB) | (with_reducible apply w_tupT) | (with_reducible apply w_tupL) | (with_reducible apply w_slT) | (with_reducible apply w_slL) | (with_reducible apply w_iSeq) | (with_reducible apply w_iRg1) | (with_reducible apply ex_bl) | (with_reducible apply ex_int) | (with_reducible apply ex_neg) | (with_reducible refine And.intro (Nat.le_of_ble_eq_true rfl) ?_) | (with_reducible refine And.intro (rfl : List.length _ = _) ?_))
        exact w_same (doneP hw (by omega)) (by decide) ⟨_, rfl, fun h => (by cases h), fun _ => o_nil ⟨rfl, rfl⟩⟩
      rintro e s'' ⟨rfl, rfl⟩
      refine o_seq (o_set ?_)
      repeat (first | (with_reducible apply w_bin) | (with_reducible apply w_m1) | (with_reducible apply w_un) | (with_reducible apply w_cons) | (with_reducible apply w_nil) | (with_reducible apply w_callN) | ((with_reducible apply w_var); exact rfl) | (with_reducible apply w_c) | (with_reducible apply w_T) | (with_reducible apply w_NotT) | (with_reducible apply w_AndT) | (with_reducible apply w_OrT) | (with_reducible apply w_And) | (with_reducible apply w_Or) | (with_reducible apply w_Not) | (with_reducible apply w_If) | (with_reducible apply w_tup) | (with_reducible apply w_lstF) | (with_reducible apply w_noP) | (with_reducible apply w_part) | (with_reducible apply w_slice) | (with_reducible apply w_isN) | (with_reducible apply w_add) | (with_reducible apply w_sub) | (with_reducible apply w_gt) | (with_reducible apply w_lt) | (with_reducible apply w_ge) | (with_reducible apply w_le) | (with_reducible apply w_eqI) | (with_reducible apply w_neI) | (with_reducible apply w_eqS) | (with_reducible apply w_neS) | ((with_reducible apply x_ixT); exact rfl; exact rfl) | ((with_reducible apply x_ixL); exact rfl; exact rfl) | ((with_reducible apply x_lenT); exact rfl) | ((with_reducible apply x_lenL); exact rfl) | (with_reducible apply w_intI) | (with_reducible apply w_intB) | (with_reducible apply w_tupT) | (with_reducible apply w_tupL) | (with_reducible apply w_slT) | (with_reducible apply w_slL) | (with_reducible apply w_iSeq) | (with_reducible apply w_iRg1) | (with_reducible apply ex_bl) | (with_reducible apply ex_int) | (with_reducible apply ex_neg) | (with_reducible refine And.intro (Nat.le_of_ble_eq_true rfl) ?_) | (with_reducible refine And.intro (rfl : List.length _ = _) ?_))
      refine w_step hB1 hN hw (by omega) (fun s2 hB2 _ => ?_) (fun s2 d hB2 hd => ?_)
      · refine o_seq (o_if ?_)
        repeat (first | (with_reducible apply w_bin) | (with_reducible apply w_m1) | (with_reducible apply w_un) | (with_reducible apply w_cons) | (with_reducible apply w_nil) | (with_reducible apply w_callN) | ((with_reducible apply w_var); exact rfl) | (with_reducible apply w_c) | (with_reducible apply w_T) | (with_reducible apply w_NotT) | (with_reducible apply w_AndT) | (with_reducible apply w_OrT) | (with_reducible apply w_And) | (with_reducible apply w_Or) | (with_reducible apply w_Not) | (with_reducible apply w_If) | (with_reducible apply w_tup) | (with_reducible apply w_lstF) | (with_reducible apply w_noP) | (with_reducible apply w_part) | (with_reducible apply w_slice) | (with_reducible apply w_isN) | (with_reducible apply w_add) | (with_reducible apply w_sub) | (with_reducible apply w_gt) | (with_reducible apply w_lt) | (with_reducible apply w_ge) | (with_reducible apply w_le) | (with_reducible apply w_eqI) | (with_reducible apply w_neI) | (with_reducible apply w_eqS) | (with_reducible apply w_neS) | ((with_reducible apply x_ixT); exact rfl; exact rfl) | ((with_reducible apply x_ixL); exact rfl; exact rfl) | ((with_reducible apply x_lenT); exact rfl) | ((with_reducible apply x_lenL); exact rfl) | (with_reducible apply w_intI) | (with_reducible apply w_intB) | (with_reducible apply w_tupT) | (with_reducible apply w_tupL) | (with_reducible apply w_slT) | (with_reducible apply w_slL) | (with_reducible apply w_iSeq) | (with_reducible apply w_iRg1) | (with_reducible apply ex_bl) | (with_reducible apply ex_int) | (with_reducible apply ex_neg) | (with_reducible refine And.intro (Nat.le_of_ble_eq_true rfl) ?_) | (with_reducible refine And.intro (rfl : List.length _ = _) ?_))
        refine w_lift (eq_none0 _) ⟨_, rfl, fun _ => ?_, fun h => (by cases h)⟩
        exact o_ret (w_c (fin_bx0 hB hB2 rfl q))
      · obtain ⟨hd1, hd2⟩ := poss_ok hd
        refine o_seq (o_if ?_)
        repeat (first | (with_reducible apply w_bin) | (with_reducible apply w_m1) | (with_reducible apply w_un) | (with_reducible apply w_cons) | (with_reducible apply w_nil) | (with_reducible apply w_callN) | ((with_reducible apply w_var); exact rfl) | (with_reducible apply w_c) | (with_reducible apply w_T) | (with_reducible apply w_NotT) | (with_reducible apply w_AndT) | (with_reducible apply w_OrT) | (with_reducible apply w_And) | (with_reducible apply w_Or) | (with_reducible apply w_Not) | (with_reducible apply w_If) | (with_reducible apply w_tup) | (with_reducible apply w_lstF) | (with_reducible apply w_noP) | (with_reducible apply w_part) | (with_reducible apply w_slice) | (with_reducible apply w_isN) | (with_reducible apply w_add) | (with_reducible apply w_sub) | (with_reducible apply w_gt) | (with_reducible apply w_lt) | (with_reducible apply w_ge) | (with_reducible apply w_le) | (with_reducible apply w_eqI) | (with_reducible apply w_neI) | (with_reducible apply w_eqS) | (with_reducible apply w_neS) | ((with_reducible apply x_ixT); exact rfl; exact rfl) | ((with_reducible apply x_ixL); exact rfl; exact rfl) | ((with_reducible apply x_lenT); exact rfl) | ((with_reducible apply x_lenL); exact rfl) | (with_reducible apply w_intI) | (with_reducible apply w_intB) | (with_reducible apply w_tupT) | (with_reducible apply w_tupL) | (with_reducible apply w_slT) | (with_reducible apply w_slL) | (with_reducible apply w_iSeq) | (with_reducible apply w_iRg1) | (with_reducible apply ex_bl) | (with_reducible apply ex_int) | (with_reducible apply ex_neg) | (with_reducible refine And.intro (Nat.le_of_ble_eq_true rfl) ?_) | (with_reducible refine And.intro (rfl : List.length _ = _) ?_))
        refine w_lift (eq_none d _) ⟨_, rfl, fun h => (by cases h), fun _ => o_nil ?_⟩
        refine o_cut (fun e s'' => Bx cs k S s'' ∧ ∃ b, e = [some (.ref k), some (tN N), some (.int turns), some (netD N), some (encW true w), some x, some (.tup ((poss N w).map encD)), some (encD d), some (encW b w), v9]) ?_ ?_
        · refine o_set ?_
          refine w_bin (w_lstF (w_cons (w_var rfl (w_cons ?_))))
          repeat (first | (with_reducible apply w_bin) | (with_reducible apply w_m1) | (with_reducible apply w_un) | (with_reducible apply w_cons) | (with_reducible apply w_nil) | (with_reducible apply w_callN) | ((with_reducible apply w_var); exact rfl) | (with_reducible apply w_c) | (with_reducible apply w_T) | (with_reducible apply w_NotT) | (with_reducible apply w_AndT) | (with_reducible apply w_OrT) | (with_reducible apply w_And) | (with_reducible apply w_Or) | (with_reducible apply w_Not) | (with_reducible apply w_If) | (with_reducible apply w_tup) | (with_reducible apply w_lstF) | (with_reducible apply w_noP) | (with_reducible apply w_part) | (with_reducible apply w_slice) | (with_reducible apply w_isN) | (with_reducible apply w_add) | (with_reducible apply w_sub) | (with_reducible apply w_gt) | (with_reducible apply w_lt) | (with_reducible apply w_ge) | (with_reducible apply w_le) | (with_reducible apply w_eqI) | (with_reducible apply w_neI) | (with_reducible apply w_eqS) | (with_reducible apply w_neS) | ((with_reducible apply x_ixT); exact rfl; exact rfl) | ((with_reducible apply x_ixL); exact rfl; exact rfl) | ((with_reducible apply x_lenT); exact rfl) | ((with_reducible apply x_lenL); exact rfl) | (with_reducible apply w_intI) | (with_reducible apply w_intB) | (with_reducible apply w_tupT) | (with_reducible apply w_tupL) | (with_reducible apply w_slT) | (with_reducible apply w_slL) | (with_reducible apply w_iSeq) | (with_reducible apply w_iRg1) | (with_reducible apply ex_bl) | (with_reducible apply ex_int) | (with_reducible apply ex_neg) | (with_reducible refine And.intro (Nat.le_of_ble_eq_true rfl) ?_) | (with_reducible refine And.intro (rfl : List.length _ = _) ?_))
          refine w_listed hN hw (by omega) ?_
          repeat (first | (with_reducible apply w_bin) | (with_reducible apply w_m1) | (with_reducible apply w_un) | (with_reducible apply w_cons) | (with_reducible apply w_nil) | (with_reducible apply w_callN) | ((with_reducible apply w_var); exact rfl) | (with_reducible apply w_c) | (with_reducible apply w_T) | (with_reducible apply w_NotT) | (with_reducible apply w_AndT) | (with_reducible apply w_OrT) | (with_reducible apply w_And) | (with_reducible apply w_Or) | (with_reducible apply w_Not) | (with_reducible apply w_If) | (with_reducible apply w_tup) | (with_reducible apply w_lstF) | (with_reducible apply w_noP) | (with_reducible apply w_part) | (with_reducible apply w_slice) | (with_reducible apply w_isN) | (with_reducible apply w_add) | (with_reducible apply w_sub) | (with_reducible apply w_gt) | (with_reducible apply w_lt) | (with_reducible apply w_ge) | (with_reducible apply w_le) | (with_reducible apply w_eqI) | (with_reducible apply w_neI) | (with_reducible apply w_eqS) | (with_reducible apply w_neS) | ((with_reducible apply x_ixT); exact rfl; exact rfl) | ((with_reducible apply x_ixL); exact rfl; exact rfl) | ((with_reducible apply x_lenT); exact rfl) | ((with_reducible apply x_lenL); exact rfl) | (with_reducible apply w_intI) | (with_reducible apply w_intB) | (with_reducible apply w_tupT) | (with_reducible apply w_tupL) | (with_reducible apply w_slT) | (with_reducible apply w_slL) | (with_reducible apply w_iSeq) | (with_reducible apply w_iRg1) | (with_reducible apply ex_bl) | (with_reducible apply ex_int) | (with_reducible apply ex_neg) | (with_reducible refine And.intro (Nat.le_of_ble_eq_true rfl) ?_) | (with_reducible refine And.intro (rfl : List.length _ = _) ?_))
          refine w_draw hB2 (by decide) (by decide) fun s3 u hB3 hu => ?_
          have : u = 0 ∨ u = 1 := by omega
          rcases this with rfl | rfl
          · exact w_ixL (at0 _ _) ⟨hB3, true, rfl⟩
          · exact w_ixL (at1 _ _ _) ⟨hB3, false, rfl⟩
        rintro e s3 ⟨hB3, b, rfl⟩
        refine o_seq (o_if ?_)
        repeat (first | (with_reducible apply w_bin) | (with_reducible apply w_m1) | (with_reducible apply w_un) | (with_reducible apply w_cons) | (with_reducible apply w_nil) | (with_reducible apply w_callN) | ((with_reducible apply w_var); exact rfl) | (with_reducible apply w_c) | (with_reducible apply w_T) | (with_reducible apply w_NotT) | (with_reducible apply w_AndT) | (with_reducible apply w_OrT) | (with_reducible apply w_And) | (with_reducible apply w_Or) | (with_reducible apply w_Not) | (with_reducible apply w_If) | (with_reducible apply w_tup) | (with_reducible apply w_lstF) | (with_reducible apply w_noP) | (with_reducible apply w_part) | (with_reducible apply w_slice) | (with_reducible apply w_isN) | (with_reducible apply w_add) | (with_reducible apply w_sub) | (with_reducible apply w_gt) | (with_reducible apply w_lt) | (with_reducible apply w_ge) | (with_reducible apply w_le) | (with_reducible apply w_eqI) | (with_reducible apply w_neI) | (with_reducible apply w_eqS) | (with_reducible apply w_neS) | ((with_reducible apply x_ixT); exact rfl; exact rfl) | ((with_reducible apply x_ixL); exact rfl; exact rfl) | ((with_reducible apply x_lenT); exact rfl) | ((with_reducible apply x_lenL); exact rfl) | (with_reducible apply w_intI) | (with_reducible apply w_intB) | (with_reducible apply w_tupT) | (with_reducible apply w_tupL) | (with_reducible apply w_slT) | (with_reducible apply w_slL) | (with_reducible apply w_iSeq) | (with_reducible apply w_iRg1) | (with_reducible apply ex_bl) | (with_reducible apply ex_int) | (with_reducible apply ex_neg) | (with_reducible refine And.intro (Nat.le_of_ble_eq_true rfl) ?_) | (with_reducible refine And.intro (rfl : List.length _ = _) ?_))
        refine w_possible hN hw (by omega) ?_
        repeat (first | (with_reducible apply w_bin) | (with_reducible apply w_m1) | (with_reducible apply w_un) | (with_reducible apply w_cons) | (with_reducible apply w_nil) | (with_reducible apply w_callN) | ((with_reducible apply w_var); exact rfl) | (with_reducible apply w_c) | (with_reducible apply w_T) | (with_reducible apply w_NotT) | (with_reducible apply w_AndT) | (with_reducible apply w_OrT) | (with_reducible apply w_And) | (with_reducible apply w_Or) | (with_reducible apply w_Not) | (with_reducible apply w_If) | (with_reducible apply w_tup) | (with_reducible apply w_lstF) | (with_reducible apply w_noP) | (with_reducible apply w_part) | (with_reducible apply w_slice) | (with_reducible apply w_isN) | (with_reducible apply w_add) | (with_reducible apply w_sub) | (with_reducible apply w_gt) | (with_reducible apply w_lt) | (with_reducible apply w_ge) | (with_reducible apply w_le) | (with_reducible apply w_eqI) | (with_reducible apply w_neI) | (with_reducible apply w_eqS) | (with_reducible apply w_neS) | ((with_reducible apply x_ixT); exact rfl; exact rfl) | ((with_reducible apply x_ixL); exact rfl; exact rfl) | ((with_reducible apply x_lenT); exact rfl) | ((with_reducible apply x_lenL); exact rfl) | (with_reducible apply w_intI) | (with_reducible apply w_intB) | (with_reducible apply w_tupT) | (with_reducible apply w_tupL) | (with_reducible apply w_slT) | (with_reducible apply w_slL) | (with_reducible apply w_iSeq) | (with_reducible apply w_iRg1) | (with_reducible apply ex_bl) | (with_reducible apply ex_int) | (with_reducible apply ex_neg) | (with_reducible refine And.intro (Nat.le_of_ble_eq_true rfl) ?_) | (with_reducible refine And.intro (rfl : List.length _ = _) ?_))
        refine w_same (doneP hw (by omega)) (by decide) ⟨_, rfl, fun h => (by cases h), fun _ => o_nil ?_⟩
        refine o_seq (o_set ?_)
        repeat (first | (with_reducible apply w_bin) | (with_reducible apply w_m1) | (with_reducible apply w_un) | (with_reducible apply w_cons) | (with_reducible apply w_nil) | (with_reducible apply w_callN) | ((with_reducible apply w_var); exact rfl) | (with_reducible apply w_c) | (with_reducible apply w_T) | (with_reducible apply w_NotT) | (with_reducible apply w_AndT) | (with_reducible apply w_OrT) | (with_reducible apply w_And) | (with_reducible apply w_Or) | (with_reducible apply w_Not) | (with_reducible apply w_If) | (with_reducible apply w_tup) | (with_reducible apply w_lstF) | (with_reducible apply w_noP) | (with_reducible apply w_part) | (with_reducible apply w_slice) | (with_reducible apply w_isN) | (with_reducible apply w_add) | (with_reducible apply w_sub) | (with_reducible apply w_gt) | (with_reducible apply w_lt) | (with_reducible apply w_ge) | (with_reducible apply w_le) | (with_reducible apply w_eqI) | (with_reducible apply w_neI) | (with_reducible apply w_eqS) | (with_reducible apply w_neS) | ((with_reducible apply x_ixT); exact rfl; exact rfl) | ((with_reducible apply x_ixL); exact rfl; exact rfl) | ((with_reducible apply x_lenT); exact rfl) | ((with_reducible apply x_lenL); exact rfl) | (with_reducible apply w_intI) | (with_reducible apply w_intB) | (with_reducible apply w_tupT) | (with_reducible apply w_tupL) | (with_reducible apply w_slT) | (with_reducible apply w_slL) | (with_reducible apply w_iSeq) | (with_reducible apply w_iRg1) | (with_reducible apply ex_bl) | (with_reducible apply ex_int) | (with_reducible apply ex_neg) | (with_reducible refine And.intro (Nat.le_of_ble_eq_true rfl) ?_) | (with_reducible refine And.intro (rfl : List.length _ = _) ?_))
        refine w_done hN hw (by omega) hd1 hd2 ?_
        refine o_seq (o_set ?_)
        repeat (first | (with_reducible apply w_bin) | (with_reducible apply w_m1) | (with_reducible apply w_un) | (with_reducible apply w_cons) | (with_reducible apply w_nil) | (with_reducible apply w_callN) | ((with_reducible apply w_var); exact rfl) | (with_reducible apply w_c) | (with_reducible apply w_T) | (with_reducible apply w_NotT) | (with_reducible apply w_AndT) | (with_reducible apply w_OrT) | (with_reducible apply w_And) | (with_reducible apply w_Or) | (with_reducible apply w_Not) | (with_reducible apply w_If) | (with_reducible apply w_tup) | (with_reducible apply w_lstF) | (with_reducible apply w_noP) | (with_reducible apply w_part) | (with_reducible apply w_slice) | (with_reducible apply w_isN) | (with_reducible apply w_add) | (with_reducible apply w_sub) | (with_reducible apply w_gt) | (with_reducible apply w_lt) | (with_reducible apply w_ge) | (with_reducible apply w_le) | (with_reducible apply w_eqI) | (with_reducible apply w_neI) | (with_reducible apply w_eqS) | (with_reducible apply w_neS) | ((with_reducible apply x_ixT); exact rfl; exact rfl) | ((with_reducible apply x_ixL); exact rfl; exact rfl) | ((with_reducible apply x_lenT); exact rfl) | ((with_reducible apply x_lenL); exact rfl) | (with_reducible apply w_intI) | (with_reducible apply w_intB) | (with_reducible apply w_tupT) | (with_reducible apply w_tupL) | (with_reducible apply w_slT) | (with_reducible apply w_slL) | (with_reducible apply w_iSeq) | (with_reducible apply w_iRg1) | (with_reducible apply ex_bl) | (with_reducible apply ex_int) | (with_reducible apply ex_neg) | (with_reducible refine And.intro (Nat.le_of_ble_eq_true rfl) ?_) | (with_reducible refine And.intro (rfl : List.length _ = _) ?_))
        refine w_ldone hN hw (by omega) hd1 ?_
        have hw2 := beh_ok hN hw d hd1
        refine o_if ?_
        repeat (first | (with_reducible apply w_bin) | (with_reducible apply w_m1) | (with_reducible apply w_un) | (with_reducible apply w_cons) | (with_reducible apply w_nil) | (with_reducible apply w_callN) | ((with_reducible apply w_var); exact rfl) | (with_reducible apply w_c) | (with_reducible apply w_T) | (with_reducible apply w_NotT) | (with_reducible apply w_AndT) | (with_reducible apply w_OrT) | (with_reducible apply w_And) | (with_reducible apply w_Or) | (with_reducible apply w_Not) | (with_reducible apply w_If) | (with_reducible apply w_tup) | (with_reducible apply w_lstF) | (with_reducible apply w_noP) | (with_reducible apply w_part) | (with_reducible apply w_slice) | (with_reducible apply w_isN) | (with_reducible apply w_add) | (with_reducible apply w_sub) | (with_reducible apply w_gt) | (with_reducible apply w_lt) | (with_reducible apply w_ge) | (with_reducible apply w_le) | (with_reducible apply w_eqI) | (with_reducible apply w_neI) | (with_reducible apply w_eqS) | (with_reducible apply w_neS) | ((with_reducible apply x_ixT); exact rfl; exact rfl) | ((with_reducible apply x_ixL); exact rfl; exact rfl) | ((with_reducible apply x_lenT); exact rfl) | ((with_reducible apply x_lenL); exact rfl) | (with_reducible apply w_intI) | (with_reducible apply w_intB) | (with_reducible apply w_tupT) | (with_reducible apply w_tupL) | (with_reducible apply w_slT) | (with_reducible apply w_slL) | (with_reducible apply w_iSeq) | (with_reducible apply w_iRg1) | (with_reducible apply ex_bl) | (with_reducible apply ex_int) | (with_reducible apply ex_neg) | (with_reducible refine And.intro (Nat.le_of_ble_eq_true rfl) ?_) | (with_reducible refine And.intro (rfl : List.length _ = _) ?_))
        refine w_same (dm_W hN hw2 (by omega) true) (by decide) ⟨_, rfl, fun h => (by cases h), fun _ => o_nil ?_⟩
        exact ⟨hjl, beh N w d, _, _, _, _, _, rfl, hB3, hw2⟩
    · rintro e s' ⟨hj, w, v5, v6, v7, v8, v9, rfl, hB1, hw⟩
      exact ⟨w, v5, v6, v7, v8, v9, rfl, hB1, hw.up (by simp [rngD])⟩
  rintro e s' ⟨w, v5, v6, v7, v8, v9, rfl, hB1, hw⟩
  refine o_ret ?_
  repeat (first | (with_reducible apply w_bin) | (with_reducible apply w_m1) | (with_reducible apply w_un) | (with_reducible apply w_cons) | (with_reducible apply w_nil) | (with_reducible apply w_callN) | ((with_reducible apply w_var); exact rfl) | (with_reducible apply w_c) | (with_reducible apply w_T) | (with_reducible apply w_NotT) | (with_reducible apply w_AndT) | (with_reducible apply w_OrT) | (with_reducible apply w_And) | (with_reducible apply w_Or) | (with_reducible apply w_Not) | (with_reducible apply w_If) | (with_reducible apply w_tup) | (with_reducible apply w_lstF) | (with_reducible apply w_noP) | (with_reducible apply w_part) | (with_reducible apply w_slice) | (with_reducible apply w_isN) | (with_reducible apply w_add) | (with_reducible apply w_sub) | (with_reducible apply w_gt) | (with_reducible apply w_lt) | (with_reducible apply w_ge) | (with_reducible apply w_le) | (with_reducible apply w_eqI) | (with_reducible apply w_neI) | (with_reducible apply w_eqS) | (with_reducible apply w_neS) | ((with_reducible apply x_ixT); exact rfl; exact rfl) | ((with_reducible apply x_ixL); exact rfl; exact rfl) | ((with_reducible apply x_lenT); exact rfl) | ((with_reducible apply x_lenL); exact rfl) | (with_reducible apply w_intI) | (with_reducible apply w_intB) | (with_reducible apply w_tupT) | (with_reducible apply w_tupL) | (with_reducible apply w_slT) | (with_reducible apply w_slL) | (with_reducible apply w_iSeq) | (with_reducible apply w_iRg1) | (with_reducible apply ex_bl) | (with_reducible apply ex_int) | (with_reducible apply ex_neg) | (with_reducible refine And.intro (Nat.le_of_ble_eq_true rfl) ?_) | (with_reducible refine And.intro (rfl : List.length _ = _) ?_))
  refine w_possible hN hw (by omega) ?_
  repeat (first | (with_reducible apply w_bin) | (with_reducible apply w_m1) | (with_reducible apply w_un) | (with_reducible apply w_cons) | (with_reducible apply w_nil) | (with_reducible apply w_callN) | ((with_reducible apply w_var); exact rfl) | (with_reducible apply w_c) | (with_reducible apply w_T) | (with_reducible apply w_NotT) | (with_reducible apply w_AndT) | (with_reducible apply w_OrT) | (with_reducible apply w_And) | (with_reducible apply w_Or) | (with_reducible apply w_Not) | (with_reducible apply w_If) | (with_reducible apply w_tup) | (with_reducible apply w_lstF) | (with_reducible apply w_noP) | (with_reducible apply w_part) | (with_reducible apply w_slice) | (with_reducible apply w_isN) | (with_reducible apply w_add) | (with_reducible apply w_sub) | (with_reducible apply w_gt) | (with_reducible apply w_lt) | (with_reducible apply w_ge) | (with_reducible apply w_le) | (with_reducible apply w_eqI) | (with_reducible apply w_neI) | (with_reducible apply w_eqS) | (with_reducible apply w_neS) | ((with_reducible apply x_ixT); exact rfl; exact rfl) | ((with_reducible apply x_ixL); exact rfl; exact rfl) | ((with_reducible apply x_lenT); exact rfl) | ((with_reducible apply x_lenL); exact rfl) | (with_reducible apply w_intI) | (with_reducible apply w_intB) | (with_reducible apply w_tupT) | (with_reducible apply w_tupL) | (with_reducible apply w_slT) | (with_reducible apply w_slL) | (with_reducible apply w_iSeq) | (with_reducible apply w_iRg1) | (with_reducible apply ex_bl) | (with_reducible apply ex_int) | (with_reducible apply ex_neg) | (with_reducible refine And.intro (Nat.le_of_ble_eq_true rfl) ?_) | (with_reducible refine And.intro (rfl : List.length _ = _) ?_))
  refine w_lpossible hN hw (by omega) ?_
  repeat (first | (with_reducible apply w_bin) | (with_reducible apply w_m1) | (with_reducible apply w_un) | (with_reducible apply w_cons) | (with_reducible apply w_nil) | (with_reducible apply w_callN) | ((with_reducible apply w_var); exact rfl) | (with_reducible apply w_c) | (with_reducible apply w_T) | (with_reducible apply w_NotT) | (with_reducible apply w_AndT) | (with_reducible apply w_OrT) | (with_reducible apply w_And) | (with_reducible apply w_Or) | (with_reducible apply w_Not) | (with_reducible apply w_If) | (with_reducible apply w_tup) | (with_reducible apply w_lstF) | (with_reducible apply w_noP) | (with_reducible apply w_part) | (with_reducible apply w_slice) | (with_reducible apply w_isN) | (with_reducible apply w_add) | (with_reducible apply w_sub) | (with_reducible apply w_gt) | (with_reducible apply w_lt) | (with_reducible apply w_ge) | (with_reducible apply w_le) | (with_reducible apply w_eqI) | (with_reducible apply w_neI) | (with_reducible apply w_eqS) | (with_reducible apply w_neS) | ((with_reducible apply x_ixT); exact rfl; exact rfl) | ((with_reducible apply x_ixL); exact rfl; exact rfl) | ((with_reducible apply x_lenT); exact rfl) | ((with_reducible apply x_lenL); exact rfl) | (with_reducible apply w_intI) | (with_reducible apply w_intB) | (with_reducible apply w_tupT) | (with_reducible apply w_tupL) | (with_reducible apply w_slT) | (with_reducible apply w_slL) | (with_reducible apply w_iSeq) | (with_reducible apply w_iRg1) | (with_reducible apply ex_bl) | (with_reducible apply ex_int) | (with_reducible apply ex_neg) | (with_reducible refine And.intro (Nat.le_of_ble_eq_true rfl) ?_) | (with_reducible refine And.intro (rfl : List.length _ = _) ?_))
  exact w_same (doneP hw (by omega)) (by decide) (fin_bx0 hB hB1 rfl q)
end
theorem law_true : ∀ ns : List Int, ns.length ≤ 63 → ∃ st', m_law [.scr ns] [] = .ok (.bl true) st' := fun ns hns => by
  suffices hw : wp (m_law [.scr ns] []) fun d _ => d = .bl true by
    obtain ⟨d, st', e, rfl⟩ := w_out hw
    exact ⟨st', e⟩
  unfold m_law
  refine w_run ?_
  show wo (mb_law [some (.scr ns), none, none, none] []) _ _ _ _
  unfold mb_law
  refine o_seq (o_set ?_)
  repeat (first | (with_reducible apply w_bin) | (with_reducible apply w_m1) | (with_reducible apply w_un) | (with_reducible apply w_cons) | (with_reducible apply w_nil) | (with_reducible apply w_callN) | ((with_reducible apply w_var); exact rfl) | (with_reducible apply w_c) | (with_reducible apply w_T) | (with_reducible apply w_NotT) | (with_reducible apply w_AndT) | (with_reducible apply w_OrT) | (with_reducible apply w_And) | (with_reducible apply w_Or) | (with_reducible apply w_Not) | (with_reducible apply w_If) | (with_reducible apply w_tup) | (with_reducible apply w_lstF) | (with_reducible apply w_noP) | (with_reducible apply w_part) | (with_reducible apply w_slice) | (with_reducible apply w_isN) | (with_reducible apply w_add) | (with_reducible apply w_sub) | (with_reducible apply w_gt) | (with_reducible apply w_lt) | (with_reducible apply w_ge) | (with_reducible apply w_le) | (with_reducible apply w_eqI) | (with_reducible apply w_neI) | (with_reducible apply w_eqS) | (with_reducible apply w_neS) | ((with_reducible apply x_ixT); exact rfl; exact rfl) | ((with_reducible apply x_ixL); exact rfl; exact rfl) | ((with_reducible apply x_lenT); exact rfl) | ((with_reducible apply x_lenL); exact rfl) | (with_reducible apply w_intI) | (with_reducible apply w_intB) | (with_reducible apply w_tupT) | (with_reducible apply w_tupL) | (with_reducible apply w_slT) | (with_reducible apply w_slL) | (with_reducible apply w_iSeq) | (with_reducible apply w_iRg1) | (with_reducible apply ex_bl) | (with_reducible apply ex_int) | (with_reducible apply ex_neg) | (with_reducible refine And.intro (Nat.le_of_ble_eq_true rfl) ?_) | (with_reducible refine And.intro (rfl : List.length _ = _) ?_))
  refine w_box hns ?_
  have hB0 : Bx ns 0 ([] ++ [.lst (boxL 0 0 0 0 0 ns)]) ([] ++ [.lst (boxL 0 0 0 0 0 ns)]) := Bx.refl (a := 0) (b := 0) (c := 0) (d := 0) (e := 0) rfl (by decide) (by decide)
  refine o_seq (o_set ?_)
  repeat (first | (with_reducible apply w_bin) | (with_reducible apply w_m1) | (with_reducible apply w_un) | (with_reducible apply w_cons) | (with_reducible apply w_nil) | (with_reducible apply w_callN) | ((with_reducible apply w_var); exact rfl) | (with_reducible apply w_c) | (with_reducible apply w_T) | (with_reducible apply w_NotT) | (with_reducible apply w_AndT) | (with_reducible apply w_OrT) | (with_reducible apply w_And) | (with_reducible apply w_Or) | (with_reducible apply w_Not) | (with_reducible apply w_If) | (with_reducible apply w_tup) | (with_reducible apply w_lstF) | (with_reducible apply w_noP) | (with_reducible apply w_part) | (with_reducible apply w_slice) | (with_reducible apply w_isN) | (with_reducible apply w_add) | (with_reducible apply w_sub) | (with_reducible apply w_gt) | (with_reducible apply w_lt) | (with_reducible apply w_ge) | (with_reducible apply w_le) | (with_reducible apply w_eqI) | (with_reducible apply w_neI) | (with_reducible apply w_eqS) | (with_reducible apply w_neS) | ((with_reducible apply x_ixT); exact rfl; exact rfl) | ((with_reducible apply x_ixL); exact rfl; exact rfl) | ((with_reducible apply x_lenT); exact rfl) | ((with_reducible apply x_lenL); exact rfl) | (with_reducible apply w_intI) | (with_reducible apply w_intB) | (with_reducible apply w_tupT) | (with_reducible apply w_tupL) | (with_reducible apply w_slT) | (with_reducible apply w_slL) | (with_reducible apply w_iSeq) | (with_reducible apply w_iRg1) | (with_reducible apply ex_bl) | (with_reducible apply ex_int) | (with_reducible apply ex_neg) | (with_reducible refine And.intro (Nat.le_of_ble_eq_true rfl) ?_) | (with_reducible refine And.intro (rfl : List.length _ = _) ?_))
  refine w_net hB0 (by simp) fun s1 N hB1 hN => ?_
  have hl1 := hB1.len
  have hl1 : s1.length = 1 := hl1
  refine o_seq (o_set ?_)
  repeat (first | (with_reducible apply w_bin) | (with_reducible apply w_m1) | (with_reducible apply w_un) | (with_reducible apply w_cons) | (with_reducible apply w_nil) | (with_reducible apply w_callN) | ((with_reducible apply w_var); exact rfl) | (with_reducible apply w_c) | (with_reducible apply w_T) | (with_reducible apply w_NotT) | (with_reducible apply w_AndT) | (with_reducible apply w_OrT) | (with_reducible apply w_And) | (with_reducible apply w_Or) | (with_reducible apply w_Not) | (with_reducible apply w_If) | (with_reducible apply w_tup) | (with_reducible apply w_lstF) | (with_reducible apply w_noP) | (with_reducible apply w_part) | (with_reducible apply w_slice) | (with_reducible apply w_isN) | (with_reducible apply w_add) | (with_reducible apply w_sub) | (with_reducible apply w_gt) | (with_reducible apply w_lt) | (with_reducible apply w_ge) | (with_reducible apply w_le) | (with_reducible apply w_eqI) | (with_reducible apply w_neI) | (with_reducible apply w_eqS) | (with_reducible apply w_neS) | ((with_reducible apply x_ixT); exact rfl; exact rfl) | ((with_reducible apply x_ixL); exact rfl; exact rfl) | ((with_reducible apply x_lenT); exact rfl) | ((with_reducible apply x_lenL); exact rfl) | (with_reducible apply w_intI) | (with_reducible apply w_intB) | (with_reducible apply w_tupT) | (with_reducible apply w_tupL) | (with_reducible apply w_slT) | (with_reducible apply w_slL) | (with_reducible apply w_iSeq) | (with_reducible apply w_iRg1) | (with_reducible apply ex_bl) | (with_reducible apply ex_int) | (with_reducible apply ex_neg) | (with_reducible refine And.intro (Nat.le_of_ble_eq_true rfl) ?_) | (with_reducible refine And.intro (rfl : List.length _ = _) ?_))
  refine w_box hns ?_
  rw [hl1]
  refine o_ret (w_And ?_)
  repeat (first | (with_reducible apply w_bin) | (with_reducible apply w_m1) | (with_reducible apply w_un) | (with_reducible apply w_cons) | (with_reducible apply w_nil) | (with_reducible apply w_callN) | ((with_reducible apply w_var); exact rfl) | (with_reducible apply w_c) | (with_reducible apply w_T) | (with_reducible apply w_NotT) | (with_reducible apply w_AndT) | (with_reducible apply w_OrT) | (with_reducible apply w_And) | (with_reducible apply w_Or) | (with_reducible apply w_Not) | (with_reducible apply w_If) | (with_reducible apply w_tup) | (with_reducible apply w_lstF) | (with_reducible apply w_noP) | (with_reducible apply w_part) | (with_reducible apply w_slice) | (with_reducible apply w_isN) | (with_reducible apply w_add) | (with_reducible apply w_sub) | (with_reducible apply w_gt) | (with_reducible apply w_lt) | (with_reducible apply w_ge) | (with_reducible apply w_le) | (with_reducible apply w_eqI) | (with_reducible apply w_neI) | (with_reducible apply w_eqS) | (with_reducible apply w_neS) | ((with_reducible apply x_ixT); exact rfl; exact rfl) | ((with_reducible apply x_ixL); exact rfl; exact rfl) | ((with_reducible apply x_lenT); exact rfl) | ((with_reducible apply x_lenL); exact rfl) | (with_reducible apply w_intI) | (with_reducible apply w_intB) | (with_reducible apply w_tupT) | (with_reducible apply w_tupL) | (with_reducible apply w_slT) | (with_reducible apply w_slL) | (with_reducible apply w_iSeq) | (with_reducible apply w_iRg1) | (with_reducible apply ex_bl) | (with_reducible apply ex_int) | (with_reducible apply ex_neg) | (with_reducible refine And.intro (Nat.le_of_ble_eq_true rfl) ?_) | (with_reducible refine And.intro (rfl : List.length _ = _) ?_))
  refine w_walked (turns := 8) (hB1.ext [.lst (boxL 0 0 1 0 1 ns)]) hN (by decide) fun s2 hB2 => ?_
  obtain ⟨s3, rfl, hB3⟩ := hB2.unext hB1.1
  have hl3 : s3.length = 1 := hB3.len
  have hB4 : Bx ns 1 (s3 ++ [.lst (boxL 0 0 1 0 1 ns)]) (s3 ++ [.lst (boxL 0 0 1 0 1 ns)]) := Bx.refl (a := 0) (b := 0) (c := 1) (d := 0) (e := 1) (by rw [List.getElem?_append_right (by omega), hl3]; rfl) (by decide) (by decide)
  refine ⟨_, rfl, fun _ => ?_, fun h => (by cases h)⟩
  repeat (first | (with_reducible apply w_bin) | (with_reducible apply w_m1) | (with_reducible apply w_un) | (with_reducible apply w_cons) | (with_reducible apply w_nil) | (with_reducible apply w_callN) | ((with_reducible apply w_var); exact rfl) | (with_reducible apply w_c) | (with_reducible apply w_T) | (with_reducible apply w_NotT) | (with_reducible apply w_AndT) | (with_reducible apply w_OrT) | (with_reducible apply w_And) | (with_reducible apply w_Or) | (with_reducible apply w_Not) | (with_reducible apply w_If) | (with_reducible apply w_tup) | (with_reducible apply w_lstF) | (with_reducible apply w_noP) | (with_reducible apply w_part) | (with_reducible apply w_slice) | (with_reducible apply w_isN) | (with_reducible apply w_add) | (with_reducible apply w_sub) | (with_reducible apply w_gt) | (with_reducible apply w_lt) | (with_reducible apply w_ge) | (with_reducible apply w_le) | (with_reducible apply w_eqI) | (with_reducible apply w_neI) | (with_reducible apply w_eqS) | (with_reducible apply w_neS) | ((with_reducible apply x_ixT); exact rfl; exact rfl) | ((with_reducible apply x_ixL); exact rfl; exact rfl) | ((with_reducible apply x_lenT); exact rfl) | ((with_reducible apply x_lenL); exact rfl) | (with_reducible apply w_intI) | (with_reducible apply w_intB) | (with_reducible apply w_tupT) | (with_reducible apply w_tupL) | (with_reducible apply w_slT) | (with_reducible apply w_slL) | (with_reducible apply w_iSeq) | (with_reducible apply w_iRg1) | (with_reducible apply ex_bl) | (with_reducible apply ex_int) | (with_reducible apply ex_neg) | (with_reducible refine And.intro (Nat.le_of_ble_eq_true rfl) ?_) | (with_reducible refine And.intro (rfl : List.length _ = _) ?_))
  refine w_lively hB4 fun s5 M hB5 hM => ?_
  repeat (first | (with_reducible apply w_bin) | (with_reducible apply w_m1) | (with_reducible apply w_un) | (with_reducible apply w_cons) | (with_reducible apply w_nil) | (with_reducible apply w_callN) | ((with_reducible apply w_var); exact rfl) | (with_reducible apply w_c) | (with_reducible apply w_T) | (with_reducible apply w_NotT) | (with_reducible apply w_AndT) | (with_reducible apply w_OrT) | (with_reducible apply w_And) | (with_reducible apply w_Or) | (with_reducible apply w_Not) | (with_reducible apply w_If) | (with_reducible apply w_tup) | (with_reducible apply w_lstF) | (with_reducible apply w_noP) | (with_reducible apply w_part) | (with_reducible apply w_slice) | (with_reducible apply w_isN) | (with_reducible apply w_add) | (with_reducible apply w_sub) | (with_reducible apply w_gt) | (with_reducible apply w_lt) | (with_reducible apply w_ge) | (with_reducible apply w_le) | (with_reducible apply w_eqI) | (with_reducible apply w_neI) | (with_reducible apply w_eqS) | (with_reducible apply w_neS) | ((with_reducible apply x_ixT); exact rfl; exact rfl) | ((with_reducible apply x_ixL); exact rfl; exact rfl) | ((with_reducible apply x_lenT); exact rfl) | ((with_reducible apply x_lenL); exact rfl) | (with_reducible apply w_intI) | (with_reducible apply w_intB) | (with_reducible apply w_tupT) | (with_reducible apply w_tupL) | (with_reducible apply w_slT) | (with_reducible apply w_slL) | (with_reducible apply w_iSeq) | (with_reducible apply w_iRg1) | (with_reducible apply ex_bl) | (with_reducible apply ex_int) | (with_reducible apply ex_neg) | (with_reducible refine And.intro (Nat.le_of_ble_eq_true rfl) ?_) | (with_reducible refine And.intro (rfl : List.length _ = _) ?_))
  refine w_draw hB5 (by decide) (by decide) fun s6 r hB6 hr => ?_
  repeat (first | (with_reducible apply w_bin) | (with_reducible apply w_m1) | (with_reducible apply w_un) | (with_reducible apply w_cons) | (with_reducible apply w_nil) | (with_reducible apply w_callN) | ((with_reducible apply w_var); exact rfl) | (with_reducible apply w_c) | (with_reducible apply w_T) | (with_reducible apply w_NotT) | (with_reducible apply w_AndT) | (with_reducible apply w_OrT) | (with_reducible apply w_And) | (with_reducible apply w_Or) | (with_reducible apply w_Not) | (with_reducible apply w_If) | (with_reducible apply w_tup) | (with_reducible apply w_lstF) | (with_reducible apply w_noP) | (with_reducible apply w_part) | (with_reducible apply w_slice) | (with_reducible apply w_isN) | (with_reducible apply w_add) | (with_reducible apply w_sub) | (with_reducible apply w_gt) | (with_reducible apply w_lt) | (with_reducible apply w_ge) | (with_reducible apply w_le) | (with_reducible apply w_eqI) | (with_reducible apply w_neI) | (with_reducible apply w_eqS) | (with_reducible apply w_neS) | ((with_reducible apply x_ixT); exact rfl; exact rfl) | ((with_reducible apply x_ixL); exact rfl; exact rfl) | ((with_reducible apply x_lenT); exact rfl) | ((with_reducible apply x_lenL); exact rfl) | (with_reducible apply w_intI) | (with_reducible apply w_intB) | (with_reducible apply w_tupT) | (with_reducible apply w_tupL) | (with_reducible apply w_slT) | (with_reducible apply w_slL) | (with_reducible apply w_iSeq) | (with_reducible apply w_iRg1) | (with_reducible apply ex_bl) | (with_reducible apply ex_int) | (with_reducible apply ex_neg) | (with_reducible refine And.intro (Nat.le_of_ble_eq_true rfl) ?_) | (with_reducible refine And.intro (rfl : List.length _ = _) ?_))
  have e8 : (8 : Int) + r = ((8 + r : Nat) : Int) := by omega
  rw [e8]
  refine w_walked hB6 hM (by omega) fun s7 hB7 => ?_
  exact ⟨.bl true, rfl, by simp [popB], rfl⟩
end K

namespace K
open PySem L2 PyProof.Rows Cw
def mkTx {P : Program} {K : PySem.W.Frag} {h : Heap} {mg : Str → Option Value} {C_CutError N_CutError : Addr} {n_CutError q_CutError : Str} {bs_CutError sub_CutError : List Value} {sn_CutError : List Str} {ab_CutError : Bool} {col_CutError : Option Bool} {dd_CutError : Option Addr} {m0_CutError m1_CutError m2_CutError m3_CutError m5_CutError : Option Value} {C_BadValue N_BadValue I_BadValue cda_BadValue cc_BadValue : Addr} {n_BadValue q_BadValue ql_BadValue tx_BadValue fl_BadValue : Str} {bs_BadValue sub_BadValue : List Value} {sn_BadValue : List Str} {ab_BadValue : Bool} {col_BadValue : Option Bool} {dd_BadValue od_BadValue an_BadValue cdd_BadValue cld_BadValue : Option Addr} {m0_BadValue m1_BadValue m2_BadValue m3_BadValue m5_BadValue : Option Value} {oc_BadValue dc_BadValue pm_BadValue ct_BadValue ccl_BadValue cl_BadValue : Value} {osl_BadValue ccs_BadValue csl_BadValue : Array (Option Value)} {vs_BadValue : Array Value} {tf_BadValue : Tok} {k_BadValue : Nat} {a1_BadValue a2_BadValue p1_BadValue p2_BadValue p3_BadValue p4_BadValue p5_BadValue p6_BadValue q1_BadValue q2_BadValue q3_BadValue q4_BadValue : Pos} {C_BadStep N_BadStep I_BadStep cda_BadStep cc_BadStep : Addr} {n_BadStep q_BadStep ql_BadStep tx_BadStep fl_BadStep : Str} {bs_BadStep sub_BadStep : List Value} {sn_BadStep : List Str} {ab_BadStep : Bool} {col_BadStep : Option Bool} {dd_BadStep od_BadStep an_BadStep cdd_BadStep cld_BadStep : Option Addr} {m0_BadStep m1_BadStep m2_BadStep m3_BadStep m5_BadStep : Option Value} {oc_BadStep dc_BadStep pm_BadStep ct_BadStep ccl_BadStep cl_BadStep : Value} {osl_BadStep ccs_BadStep csl_BadStep : Array (Option Value)} {vs_BadStep : Array Value} {tf_BadStep : Tok} {k_BadStep : Nat} {a1_BadStep a2_BadStep p1_BadStep p2_BadStep p3_BadStep p4_BadStep p5_BadStep p6_BadStep q1_BadStep q2_BadStep q3_BadStep q4_BadStep : Pos} {C_Net : Addr} {f_is_whole : Addr} {od_is_whole an_is_whole : Option Addr} {sl_is_whole : Array (Option Value)} {oc_is_whole kV_is_whole dc_is_whole pm_is_whole cd_is_whole ct_is_whole : Value} {f_is_below : Addr} {od_is_below an_is_below : Option Addr} {sl_is_below : Array (Option Value)} {oc_is_below kV_is_below dc_is_below pm_is_below cd_is_below ct_is_below : Value} {f_is_name : Addr} {od_is_name an_is_name : Option Addr} {sl_is_name : Array (Option Value)} {oc_is_name kV_is_name dc_is_name pm_is_name cd_is_name ct_is_name : Value} {f_is_process : Addr} {od_is_process an_is_process : Option Addr} {sl_is_process : Array (Option Value)} {oc_is_process kV_is_process dc_is_process pm_is_process cd_is_process ct_is_process : Value} {f_is_channel : Addr} {od_is_channel an_is_channel : Option Addr} {sl_is_channel : Array (Option Value)} {oc_is_channel kV_is_channel dc_is_channel pm_is_channel cd_is_channel ct_is_channel : Value} {f_is_act : Addr} {od_is_act an_is_act : Option Addr} {sl_is_act : Array (Option Value)} {oc_is_act kV_is_act dc_is_act pm_is_act cd_is_act ct_is_act : Value} {f_is_rule : Addr} {od_is_rule an_is_rule : Option Addr} {sl_is_rule : Array (Option Value)} {oc_is_rule kV_is_rule dc_is_rule pm_is_rule cd_is_rule ct_is_rule : Value} {f__frozen : Addr} {od__frozen an__frozen : Option Addr} {sl__frozen : Array (Option Value)} {oc__frozen kV__frozen dc__frozen pm__frozen cd__frozen ct__frozen : Value} {f__rows : Addr} {od__rows an__rows : Option Addr} {sl__rows : Array (Option Value)} {oc__rows kV__rows dc__rows pm__rows cd__rows ct__rows : Value} {f_Net_init : Addr} {od_Net_init an_Net_init : Option Addr} {sl_Net_init : Array (Option Value)} {oc_Net_init kV_Net_init dc_Net_init pm_Net_init cd_Net_init ct_Net_init : Value} {f_start : Addr} {od_start an_start : Option Addr} {sl_start : Array (Option Value)} {oc_start kV_start dc_start pm_start cd_start ct_start : Value} {f_is_lossy : Addr} {od_is_lossy an_is_lossy : Option Addr} {sl_is_lossy : Array (Option Value)} {oc_is_lossy kV_is_lossy dc_is_lossy pm_is_lossy cd_is_lossy ct_is_lossy : Value} {f_is_ordered : Addr} {od_is_ordered an_is_ordered : Option Addr} {sl_is_ordered : Array (Option Value)} {oc_is_ordered kV_is_ordered dc_is_ordered pm_is_ordered cd_is_ordered ct_is_ordered : Value} {f_as_deed : Addr} {od_as_deed an_as_deed : Option Addr} {sl_as_deed : Array (Option Value)} {oc_as_deed kV_as_deed dc_as_deed pm_as_deed cd_as_deed ct_as_deed : Value} {f_open_messages_of : Addr} {od_open_messages_of an_open_messages_of : Option Addr} {sl_open_messages_of : Array (Option Value)} {oc_open_messages_of kV_open_messages_of dc_open_messages_of pm_open_messages_of cd_open_messages_of ct_open_messages_of : Value} {f_can_do : Addr} {od_can_do an_can_do : Option Addr} {sl_can_do : Array (Option Value)} {oc_can_do kV_can_do dc_can_do pm_can_do cd_can_do ct_can_do : Value} {f_possible : Addr} {od_possible an_possible : Option Addr} {sl_possible : Array (Option Value)} {oc_possible kV_possible dc_possible pm_possible cd_possible ct_possible : Value} {f__with_part : Addr} {od__with_part an__with_part : Option Addr} {sl__with_part : Array (Option Value)} {oc__with_part kV__with_part dc__with_part pm__with_part cd__with_part ct__with_part : Value} {f__without_message : Addr} {od__without_message an__without_message : Option Addr} {sl__without_message : Array (Option Value)} {oc__without_message kV__without_message dc__without_message pm__without_message cd__without_message ct__without_message : Value} {f_behind : Addr} {od_behind an_behind : Option Addr} {sl_behind : Array (Option Value)} {oc_behind kV_behind dc_behind pm_behind cd_behind ct_behind : Value} {f_done : Addr} {od_done an_done : Option Addr} {sl_done : Array (Option Value)} {oc_done kV_done dc_done pm_done cd_done ct_done : Value} {f__law_mix : Addr} {od__law_mix an__law_mix : Option Addr} {sl__law_mix : Array (Option Value)} {oc__law_mix kV__law_mix dc__law_mix pm__law_mix cd__law_mix ct__law_mix : Value} {f__law_box : Addr} {od__law_box an__law_box : Option Addr} {sl__law_box : Array (Option Value)} {oc__law_box kV__law_box dc__law_box pm__law_box cd__law_box ct__law_box : Value} {f__law_draw : Addr} {od__law_draw an__law_draw : Option Addr} {sl__law_draw : Array (Option Value)} {oc__law_draw kV__law_draw dc__law_draw pm__law_draw cd__law_draw ct__law_draw : Value} {f__law_alike : Addr} {od__law_alike an__law_alike : Option Addr} {sl__law_alike : Array (Option Value)} {oc__law_alike kV__law_alike dc__law_alike pm__law_alike cd__law_alike ct__law_alike : Value} {f__law_names : Addr} {od__law_names an__law_names : Option Addr} {sl__law_names : Array (Option Value)} {oc__law_names kV__law_names dc__law_names pm__law_names cd__law_names ct__law_names : Value} {f__law_channels : Addr} {od__law_channels an__law_channels : Option Addr} {sl__law_channels : Array (Option Value)} {oc__law_channels kV__law_channels dc__law_channels pm__law_channels cd__law_channels ct__law_channels : Value} {f__law_rule : Addr} {od__law_rule an__law_rule : Option Addr} {sl__law_rule : Array (Option Value)} {oc__law_rule kV__law_rule dc__law_rule pm__law_rule cd__law_rule ct__law_rule : Value} {f__law_net : Addr} {od__law_net an__law_net : Option Addr} {sl__law_net : Array (Option Value)} {oc__law_net kV__law_net dc__law_net pm__law_net cd__law_net ct__law_net : Value} {f__law_start : Addr} {od__law_start an__law_start : Option Addr} {sl__law_start : Array (Option Value)} {oc__law_start kV__law_start dc__law_start pm__law_start cd__law_start ct__law_start : Value} {f__law_takes : Addr} {od__law_takes an__law_takes : Option Addr} {sl__law_takes : Array (Option Value)} {oc__law_takes kV__law_takes dc__law_takes pm__law_takes cd__law_takes ct__law_takes : Value} {f__law_possible : Addr} {od__law_possible an__law_possible : Option Addr} {sl__law_possible : Array (Option Value)} {oc__law_possible kV__law_possible dc__law_possible pm__law_possible cd__law_possible ct__law_possible : Value} {f__law_with : Addr} {od__law_with an__law_with : Option Addr} {sl__law_with : Array (Option Value)} {oc__law_with kV__law_with dc__law_with pm__law_with cd__law_with ct__law_with : Value} {f__law_done : Addr} {od__law_done an__law_done : Option Addr} {sl__law_done : Array (Option Value)} {oc__law_done kV__law_done dc__law_done pm__law_done cd__law_done ct__law_done : Value} {f__law_step : Addr} {od__law_step an__law_step : Option Addr} {sl__law_step : Array (Option Value)} {oc__law_step kV__law_step dc__law_step pm__law_step cd__law_step ct__law_step : Value} {f__law_lively : Addr} {od__law_lively an__law_lively : Option Addr} {sl__law_lively : Array (Option Value)} {oc__law_lively kV__law_lively dc__law_lively pm__law_lively cd__law_lively ct__law_lively : Value} {f__law_listed : Addr} {od__law_listed an__law_listed : Option Addr} {sl__law_listed : Array (Option Value)} {oc__law_listed kV__law_listed dc__law_listed pm__law_listed cd__law_listed ct__law_listed : Value} {f__law_walked : Addr} {od__law_walked an__law_walked : Option Addr} {sl__law_walked : Array (Option Value)} {oc__law_walked kV__law_walked dc__law_walked pm__law_walked cd__law_walked ct__law_walked : Value} {f_law : Addr} {od_law an_law : Option Addr} {sl_law : Array (Option Value)} {oc_law kV_law dc_law pm_law cd_law ct_law : Value} {ga_KINDS : Addr} {gd_KINDS : Option Addr} {gi_KINDS : Array Value} {gn_KINDS : Nat} {gs_KINDS : Array (Option Value)} {t_LETTERS : Tok} {t_MOST_CHANNELS : Tok} {t_MOST_LETTERS : Tok} {t_MOST_PROCESSES : Tok} {t_MOST_RULES : Tok} {t_MOST_STATES : Tok} {t_TOKENS : Tok} (X : K.In h) (G : h.Ns mainGlobals mg)
    (aC_CutError : PySem.W.nsIn K mainGlobals "CutError" = some (some (.ref C_CutError)))
    (xC_CutError : K.lookup C_CutError = some (excClassObj n_CutError q_CutError C_CutError N_CutError bs_CutError ESX.exTail true sn_CutError sub_CutError ab_CutError col_CutError dd_CutError m0_CutError m1_CutError m2_CutError m3_CutError m5_CutError "Exception.__new__"))
    (bi_CutError : PySem.W.findIn K (.ref C_CutError) "__init__" = some (some (.builtin "Exception.__init__")))
    (eC_CutError : PySem.W.subIn K (.ref C_CutError) (.type "BaseException") = some true)
    (hd_CutError : PySem.W.hasDictIn K C_CutError = true)
    (ty_CutError : PySem.W.typeIn K (.ref C_CutError) = some (.type "type"))
    (opq : PySem.W.nsIn K cStatics "thirdparty.any" = some none)
    (sup : PySem.W.nsIn K mainGlobals "super" = some none)
    (htop : (P.main.scope.names.lookup ("super" : Str)).isSome = false)
    (aC_BadValue : PySem.W.nsIn K mainGlobals "BadValue" = some (some (.ref C_BadValue)))
    (xC_BadValue : K.lookup C_BadValue = some (excClassObj n_BadValue q_BadValue C_BadValue N_BadValue bs_BadValue (.ref C_CutError :: ESX.exTail) true sn_BadValue sub_BadValue ab_BadValue col_BadValue dd_BadValue m0_BadValue m1_BadValue m2_BadValue m3_BadValue m5_BadValue "Exception.__new__"))
    (sa_BadValue : PySem.W.findIn K (.ref C_BadValue) "__setattr__" = some (some (.builtin "object.__setattr__")))
    (ga_BadValue : PySem.W.findIn K (.ref C_BadValue) "__getattribute__" = some (some (.builtin "BaseException.__getattribute__")))
    (gg_BadValue : PySem.W.findIn K (.ref C_BadValue) "__getattr__" = some none)
    (no_BadValue : PySem.W.findIn K (.ref C_BadValue) ("at" : Str) = some none)
    (iC_BadValue : PySem.W.findIn K (.ref C_BadValue) "__init__" = some (some (.ref I_BadValue)))
    (tI_BadValue : PySem.W.typeIn K (.ref I_BadValue) = some (.type "function"))
    (kC_BadValue : PySem.W.keepIn K (.ref C_BadValue) = true)
    (eC_BadValue : PySem.W.subIn K (.ref C_BadValue) (.type "BaseException") = some true)
    (ty_BadValue : PySem.W.typeIn K (.ref C_BadValue) = some (.type "type"))
    (hd_BadValue : PySem.W.hasDictIn K C_BadValue = true)
    (lI_BadValue : K.lookup I_BadValue = some ⟨oc_BadValue, od_BadValue, .func (PySem.W.ksFn "__init__" ql_BadValue (E_at.iA a1_BadValue a2_BadValue) (E_at.iB tx_BadValue k_BadValue p1_BadValue p2_BadValue p3_BadValue p4_BadValue p5_BadValue p6_BadValue q1_BadValue q2_BadValue q3_BadValue q4_BadValue) E_at.iS .none .none dc_BadValue pm_BadValue an_BadValue (.ref cda_BadValue) ct_BadValue cc_BadValue), osl_BadValue⟩)
    (cI_BadValue : PySem.W.codeIn K (.ref cda_BadValue) ql_BadValue = true)
    (lc_BadValue : K.lookup cda_BadValue = some ⟨ccl_BadValue, cdd_BadValue, .fields vs_BadValue, ccs_BadValue⟩)
    (v2_BadValue : vs_BadValue[2]? = some (.str fl_BadValue tf_BadValue))
    (fi_BadValue : ((P.main.file : Str) == fl_BadValue) = true)
    (le_BadValue : K.lookup cc_BadValue = some ⟨cl_BadValue, cld_BadValue, .cell (some (.ref C_BadValue)), csl_BadValue⟩)
    (hl_BadValue : (p3_BadValue.endLine == p5_BadValue.line) = true)
    (aC_BadStep : PySem.W.nsIn K mainGlobals "BadStep" = some (some (.ref C_BadStep)))
    (xC_BadStep : K.lookup C_BadStep = some (excClassObj n_BadStep q_BadStep C_BadStep N_BadStep bs_BadStep (.ref C_CutError :: ESX.exTail) true sn_BadStep sub_BadStep ab_BadStep col_BadStep dd_BadStep m0_BadStep m1_BadStep m2_BadStep m3_BadStep m5_BadStep "Exception.__new__"))
    (sa_BadStep : PySem.W.findIn K (.ref C_BadStep) "__setattr__" = some (some (.builtin "object.__setattr__")))
    (ga_BadStep : PySem.W.findIn K (.ref C_BadStep) "__getattribute__" = some (some (.builtin "BaseException.__getattribute__")))
    (gg_BadStep : PySem.W.findIn K (.ref C_BadStep) "__getattr__" = some none)
    (no_BadStep : PySem.W.findIn K (.ref C_BadStep) ("at" : Str) = some none)
    (iC_BadStep : PySem.W.findIn K (.ref C_BadStep) "__init__" = some (some (.ref I_BadStep)))
    (tI_BadStep : PySem.W.typeIn K (.ref I_BadStep) = some (.type "function"))
    (kC_BadStep : PySem.W.keepIn K (.ref C_BadStep) = true)
    (eC_BadStep : PySem.W.subIn K (.ref C_BadStep) (.type "BaseException") = some true)
    (ty_BadStep : PySem.W.typeIn K (.ref C_BadStep) = some (.type "type"))
    (hd_BadStep : PySem.W.hasDictIn K C_BadStep = true)
    (lI_BadStep : K.lookup I_BadStep = some ⟨oc_BadStep, od_BadStep, .func (PySem.W.ksFn "__init__" ql_BadStep (E_at.iA a1_BadStep a2_BadStep) (E_at.iB tx_BadStep k_BadStep p1_BadStep p2_BadStep p3_BadStep p4_BadStep p5_BadStep p6_BadStep q1_BadStep q2_BadStep q3_BadStep q4_BadStep) E_at.iS .none .none dc_BadStep pm_BadStep an_BadStep (.ref cda_BadStep) ct_BadStep cc_BadStep), osl_BadStep⟩)
    (cI_BadStep : PySem.W.codeIn K (.ref cda_BadStep) ql_BadStep = true)
    (lc_BadStep : K.lookup cda_BadStep = some ⟨ccl_BadStep, cdd_BadStep, .fields vs_BadStep, ccs_BadStep⟩)
    (v2_BadStep : vs_BadStep[2]? = some (.str fl_BadStep tf_BadStep))
    (fi_BadStep : ((P.main.file : Str) == fl_BadStep) = true)
    (le_BadStep : K.lookup cc_BadStep = some ⟨cl_BadStep, cld_BadStep, .cell (some (.ref C_BadStep)), csl_BadStep⟩)
    (hl_BadStep : (p3_BadStep.endLine == p5_BadStep.line) = true)
    (aC_Net : PySem.W.nsIn K mainGlobals "Net" = some (some (.ref C_Net)))
    (pg_Net : PySem.W.plainGet K C_Net Str.empty = true)
    (hd_Net : PySem.W.hasDictIn K C_Net = true)
    (po_Net : PySem.W.plainOver K C_Net = true)
    (sa_Net : PySem.W.findIn K (.ref C_Net) "__setattr__" = some (some (.builtin "object.__setattr__")))
    (mk_Net : PySem.W.makesIn K C_Net = true)
    (kc_Net : PySem.W.keepIn K (.ref C_Net) = true)
    (na_Net_channels : PySem.W.findIn K (.ref C_Net) ("channels" : Str) = some none)
    (na_Net_processes : PySem.W.findIn K (.ref C_Net) ("processes" : Str) = some none)
    (na_Net_rules : PySem.W.findIn K (.ref C_Net) ("rules" : Str) = some none)
    (a_is_whole : PySem.W.nsIn K mainGlobals "is_whole" = some (some (.ref f_is_whole)))
    (l_is_whole : K.lookup f_is_whole = some ⟨oc_is_whole, od_is_whole, .func (PySem.W.fnOf "is_whole" "is_whole" (defArgs s_is_whole) (defBody s_is_whole) (defScope s_is_whole) .none kV_is_whole dc_is_whole pm_is_whole an_is_whole cd_is_whole ct_is_whole), sl_is_whole⟩)
    (c_is_whole : PySem.W.codeIn K cd_is_whole "is_whole" = true)
    (k_is_whole : PySem.W.keepIn K (.ref f_is_whole) = true)
    (a_is_below : PySem.W.nsIn K mainGlobals "is_below" = some (some (.ref f_is_below)))
    (l_is_below : K.lookup f_is_below = some ⟨oc_is_below, od_is_below, .func (PySem.W.fnOf "is_below" "is_below" (defArgs s_is_below) (defBody s_is_below) (defScope s_is_below) .none kV_is_below dc_is_below pm_is_below an_is_below cd_is_below ct_is_below), sl_is_below⟩)
    (c_is_below : PySem.W.codeIn K cd_is_below "is_below" = true)
    (k_is_below : PySem.W.keepIn K (.ref f_is_below) = true)
    (a_is_name : PySem.W.nsIn K mainGlobals "is_name" = some (some (.ref f_is_name)))
    (l_is_name : K.lookup f_is_name = some ⟨oc_is_name, od_is_name, .func (PySem.W.fnOf "is_name" "is_name" (defArgs s_is_name) (defBody s_is_name) (defScope s_is_name) .none kV_is_name dc_is_name pm_is_name an_is_name cd_is_name ct_is_name), sl_is_name⟩)
    (c_is_name : PySem.W.codeIn K cd_is_name "is_name" = true)
    (k_is_name : PySem.W.keepIn K (.ref f_is_name) = true)
    (a_is_process : PySem.W.nsIn K mainGlobals "is_process" = some (some (.ref f_is_process)))
    (l_is_process : K.lookup f_is_process = some ⟨oc_is_process, od_is_process, .func (PySem.W.fnOf "is_process" "is_process" (defArgs s_is_process) (defBody s_is_process) (defScope s_is_process) .none kV_is_process dc_is_process pm_is_process an_is_process cd_is_process ct_is_process), sl_is_process⟩)
    (c_is_process : PySem.W.codeIn K cd_is_process "is_process" = true)
    (k_is_process : PySem.W.keepIn K (.ref f_is_process) = true)
    (a_is_channel : PySem.W.nsIn K mainGlobals "is_channel" = some (some (.ref f_is_channel)))
    (l_is_channel : K.lookup f_is_channel = some ⟨oc_is_channel, od_is_channel, .func (PySem.W.fnOf "is_channel" "is_channel" (defArgs s_is_channel) (defBody s_is_channel) (defScope s_is_channel) .none kV_is_channel dc_is_channel pm_is_channel an_is_channel cd_is_channel ct_is_channel), sl_is_channel⟩)
    (c_is_channel : PySem.W.codeIn K cd_is_channel "is_channel" = true)
    (k_is_channel : PySem.W.keepIn K (.ref f_is_channel) = true)
    (a_is_act : PySem.W.nsIn K mainGlobals "is_act" = some (some (.ref f_is_act)))
    (l_is_act : K.lookup f_is_act = some ⟨oc_is_act, od_is_act, .func (PySem.W.fnOf "is_act" "is_act" (defArgs s_is_act) (defBody s_is_act) (defScope s_is_act) .none kV_is_act dc_is_act pm_is_act an_is_act cd_is_act ct_is_act), sl_is_act⟩)
    (c_is_act : PySem.W.codeIn K cd_is_act "is_act" = true)
    (k_is_act : PySem.W.keepIn K (.ref f_is_act) = true)
    (a_is_rule : PySem.W.nsIn K mainGlobals "is_rule" = some (some (.ref f_is_rule)))
    (l_is_rule : K.lookup f_is_rule = some ⟨oc_is_rule, od_is_rule, .func (PySem.W.fnOf "is_rule" "is_rule" (defArgs s_is_rule) (defBody s_is_rule) (defScope s_is_rule) .none kV_is_rule dc_is_rule pm_is_rule an_is_rule cd_is_rule ct_is_rule), sl_is_rule⟩)
    (c_is_rule : PySem.W.codeIn K cd_is_rule "is_rule" = true)
    (k_is_rule : PySem.W.keepIn K (.ref f_is_rule) = true)
    (a__frozen : PySem.W.nsIn K mainGlobals "_frozen" = some (some (.ref f__frozen)))
    (l__frozen : K.lookup f__frozen = some ⟨oc__frozen, od__frozen, .func (PySem.W.fnOf "_frozen" "_frozen" (defArgs s__frozen) (defBody s__frozen) (defScope s__frozen) .none kV__frozen dc__frozen pm__frozen an__frozen cd__frozen ct__frozen), sl__frozen⟩)
    (c__frozen : PySem.W.codeIn K cd__frozen "_frozen" = true)
    (k__frozen : PySem.W.keepIn K (.ref f__frozen) = true)
    (a__rows : PySem.W.nsIn K mainGlobals "_rows" = some (some (.ref f__rows)))
    (l__rows : K.lookup f__rows = some ⟨oc__rows, od__rows, .func (PySem.W.fnOf "_rows" "_rows" (defArgs s__rows) (defBody s__rows) (defScope s__rows) .none kV__rows dc__rows pm__rows an__rows cd__rows ct__rows), sl__rows⟩)
    (c__rows : PySem.W.codeIn K cd__rows "_rows" = true)
    (k__rows : PySem.W.keepIn K (.ref f__rows) = true)
    (a_Net_init : PySem.W.findIn K (.ref C_Net) "__init__" = some (some (.ref f_Net_init)))
    (if_Net_init : PySem.W.isFn K (.ref f_Net_init) = true)
    (l_Net_init : K.lookup f_Net_init = some ⟨oc_Net_init, od_Net_init, .func (PySem.W.fnOf "__init__" "Net.__init__" (defArgs s_Net_init) (defBody s_Net_init) (defScope s_Net_init) .none kV_Net_init dc_Net_init pm_Net_init an_Net_init cd_Net_init ct_Net_init), sl_Net_init⟩)
    (c_Net_init : PySem.W.codeIn K cd_Net_init "Net.__init__" = true)
    (k_Net_init : PySem.W.keepIn K (.ref f_Net_init) = true)
    (a_start : PySem.W.nsIn K mainGlobals "start" = some (some (.ref f_start)))
    (l_start : K.lookup f_start = some ⟨oc_start, od_start, .func (PySem.W.fnOf "start" "start" (defArgs s_start) (defBody s_start) (defScope s_start) .none kV_start dc_start pm_start an_start cd_start ct_start), sl_start⟩)
    (c_start : PySem.W.codeIn K cd_start "start" = true)
    (k_start : PySem.W.keepIn K (.ref f_start) = true)
    (a_is_lossy : PySem.W.nsIn K mainGlobals "is_lossy" = some (some (.ref f_is_lossy)))
    (l_is_lossy : K.lookup f_is_lossy = some ⟨oc_is_lossy, od_is_lossy, .func (PySem.W.fnOf "is_lossy" "is_lossy" (defArgs s_is_lossy) (defBody s_is_lossy) (defScope s_is_lossy) .none kV_is_lossy dc_is_lossy pm_is_lossy an_is_lossy cd_is_lossy ct_is_lossy), sl_is_lossy⟩)
    (c_is_lossy : PySem.W.codeIn K cd_is_lossy "is_lossy" = true)
    (k_is_lossy : PySem.W.keepIn K (.ref f_is_lossy) = true)
    (a_is_ordered : PySem.W.nsIn K mainGlobals "is_ordered" = some (some (.ref f_is_ordered)))
    (l_is_ordered : K.lookup f_is_ordered = some ⟨oc_is_ordered, od_is_ordered, .func (PySem.W.fnOf "is_ordered" "is_ordered" (defArgs s_is_ordered) (defBody s_is_ordered) (defScope s_is_ordered) .none kV_is_ordered dc_is_ordered pm_is_ordered an_is_ordered cd_is_ordered ct_is_ordered), sl_is_ordered⟩)
    (c_is_ordered : PySem.W.codeIn K cd_is_ordered "is_ordered" = true)
    (k_is_ordered : PySem.W.keepIn K (.ref f_is_ordered) = true)
    (a_as_deed : PySem.W.nsIn K mainGlobals "as_deed" = some (some (.ref f_as_deed)))
    (l_as_deed : K.lookup f_as_deed = some ⟨oc_as_deed, od_as_deed, .func (PySem.W.fnOf "as_deed" "as_deed" (defArgs s_as_deed) (defBody s_as_deed) (defScope s_as_deed) .none kV_as_deed dc_as_deed pm_as_deed an_as_deed cd_as_deed ct_as_deed), sl_as_deed⟩)
    (c_as_deed : PySem.W.codeIn K cd_as_deed "as_deed" = true)
    (k_as_deed : PySem.W.keepIn K (.ref f_as_deed) = true)
    (a_open_messages_of : PySem.W.nsIn K mainGlobals "open_messages_of" = some (some (.ref f_open_messages_of)))
    (l_open_messages_of : K.lookup f_open_messages_of = some ⟨oc_open_messages_of, od_open_messages_of, .func (PySem.W.fnOf "open_messages_of" "open_messages_of" (defArgs s_open_messages_of) (defBody s_open_messages_of) (defScope s_open_messages_of) .none kV_open_messages_of dc_open_messages_of pm_open_messages_of an_open_messages_of cd_open_messages_of ct_open_messages_of), sl_open_messages_of⟩)
    (c_open_messages_of : PySem.W.codeIn K cd_open_messages_of "open_messages_of" = true)
    (k_open_messages_of : PySem.W.keepIn K (.ref f_open_messages_of) = true)
    (a_can_do : PySem.W.nsIn K mainGlobals "can_do" = some (some (.ref f_can_do)))
    (l_can_do : K.lookup f_can_do = some ⟨oc_can_do, od_can_do, .func (PySem.W.fnOf "can_do" "can_do" (defArgs s_can_do) (defBody s_can_do) (defScope s_can_do) .none kV_can_do dc_can_do pm_can_do an_can_do cd_can_do ct_can_do), sl_can_do⟩)
    (c_can_do : PySem.W.codeIn K cd_can_do "can_do" = true)
    (k_can_do : PySem.W.keepIn K (.ref f_can_do) = true)
    (a_possible : PySem.W.nsIn K mainGlobals "possible" = some (some (.ref f_possible)))
    (l_possible : K.lookup f_possible = some ⟨oc_possible, od_possible, .func (PySem.W.fnOf "possible" "possible" (defArgs s_possible) (defBody s_possible) (defScope s_possible) .none kV_possible dc_possible pm_possible an_possible cd_possible ct_possible), sl_possible⟩)
    (c_possible : PySem.W.codeIn K cd_possible "possible" = true)
    (k_possible : PySem.W.keepIn K (.ref f_possible) = true)
    (a__with_part : PySem.W.nsIn K mainGlobals "_with_part" = some (some (.ref f__with_part)))
    (l__with_part : K.lookup f__with_part = some ⟨oc__with_part, od__with_part, .func (PySem.W.fnOf "_with_part" "_with_part" (defArgs s__with_part) (defBody s__with_part) (defScope s__with_part) .none kV__with_part dc__with_part pm__with_part an__with_part cd__with_part ct__with_part), sl__with_part⟩)
    (c__with_part : PySem.W.codeIn K cd__with_part "_with_part" = true)
    (k__with_part : PySem.W.keepIn K (.ref f__with_part) = true)
    (a__without_message : PySem.W.nsIn K mainGlobals "_without_message" = some (some (.ref f__without_message)))
    (l__without_message : K.lookup f__without_message = some ⟨oc__without_message, od__without_message, .func (PySem.W.fnOf "_without_message" "_without_message" (defArgs s__without_message) (defBody s__without_message) (defScope s__without_message) .none kV__without_message dc__without_message pm__without_message an__without_message cd__without_message ct__without_message), sl__without_message⟩)
    (c__without_message : PySem.W.codeIn K cd__without_message "_without_message" = true)
    (k__without_message : PySem.W.keepIn K (.ref f__without_message) = true)
    (a_behind : PySem.W.nsIn K mainGlobals "behind" = some (some (.ref f_behind)))
    (l_behind : K.lookup f_behind = some ⟨oc_behind, od_behind, .func (PySem.W.fnOf "behind" "behind" (defArgs s_behind) (defBody s_behind) (defScope s_behind) .none kV_behind dc_behind pm_behind an_behind cd_behind ct_behind), sl_behind⟩)
    (c_behind : PySem.W.codeIn K cd_behind "behind" = true)
    (k_behind : PySem.W.keepIn K (.ref f_behind) = true)
    (a_done : PySem.W.nsIn K mainGlobals "done" = some (some (.ref f_done)))
    (l_done : K.lookup f_done = some ⟨oc_done, od_done, .func (PySem.W.fnOf "done" "done" (defArgs s_done) (defBody s_done) (defScope s_done) .none kV_done dc_done pm_done an_done cd_done ct_done), sl_done⟩)
    (c_done : PySem.W.codeIn K cd_done "done" = true)
    (k_done : PySem.W.keepIn K (.ref f_done) = true)
    (a__law_mix : PySem.W.nsIn K mainGlobals "_law_mix" = some (some (.ref f__law_mix)))
    (l__law_mix : K.lookup f__law_mix = some ⟨oc__law_mix, od__law_mix, .func (PySem.W.fnOf "_law_mix" "_law_mix" (defArgs s__law_mix) (defBody s__law_mix) (defScope s__law_mix) .none kV__law_mix dc__law_mix pm__law_mix an__law_mix cd__law_mix ct__law_mix), sl__law_mix⟩)
    (c__law_mix : PySem.W.codeIn K cd__law_mix "_law_mix" = true)
    (k__law_mix : PySem.W.keepIn K (.ref f__law_mix) = true)
    (a__law_box : PySem.W.nsIn K mainGlobals "_law_box" = some (some (.ref f__law_box)))
    (l__law_box : K.lookup f__law_box = some ⟨oc__law_box, od__law_box, .func (PySem.W.fnOf "_law_box" "_law_box" (defArgs s__law_box) (defBody s__law_box) (defScope s__law_box) .none kV__law_box dc__law_box pm__law_box an__law_box cd__law_box ct__law_box), sl__law_box⟩)
    (c__law_box : PySem.W.codeIn K cd__law_box "_law_box" = true)
    (k__law_box : PySem.W.keepIn K (.ref f__law_box) = true)
    (a__law_draw : PySem.W.nsIn K mainGlobals "_law_draw" = some (some (.ref f__law_draw)))
    (l__law_draw : K.lookup f__law_draw = some ⟨oc__law_draw, od__law_draw, .func (PySem.W.fnOf "_law_draw" "_law_draw" (defArgs s__law_draw) (defBody s__law_draw) (defScope s__law_draw) .none kV__law_draw dc__law_draw pm__law_draw an__law_draw cd__law_draw ct__law_draw), sl__law_draw⟩)
    (c__law_draw : PySem.W.codeIn K cd__law_draw "_law_draw" = true)
    (k__law_draw : PySem.W.keepIn K (.ref f__law_draw) = true)
    (a__law_alike : PySem.W.nsIn K mainGlobals "_law_alike" = some (some (.ref f__law_alike)))
    (l__law_alike : K.lookup f__law_alike = some ⟨oc__law_alike, od__law_alike, .func (PySem.W.fnOf "_law_alike" "_law_alike" (defArgs s__law_alike) (defBody s__law_alike) (defScope s__law_alike) .none kV__law_alike dc__law_alike pm__law_alike an__law_alike cd__law_alike ct__law_alike), sl__law_alike⟩)
    (c__law_alike : PySem.W.codeIn K cd__law_alike "_law_alike" = true)
    (k__law_alike : PySem.W.keepIn K (.ref f__law_alike) = true)
    (a__law_names : PySem.W.nsIn K mainGlobals "_law_names" = some (some (.ref f__law_names)))
    (l__law_names : K.lookup f__law_names = some ⟨oc__law_names, od__law_names, .func (PySem.W.fnOf "_law_names" "_law_names" (defArgs s__law_names) (defBody s__law_names) (defScope s__law_names) .none kV__law_names dc__law_names pm__law_names an__law_names cd__law_names ct__law_names), sl__law_names⟩)
    (c__law_names : PySem.W.codeIn K cd__law_names "_law_names" = true)
    (k__law_names : PySem.W.keepIn K (.ref f__law_names) = true)
    (a__law_channels : PySem.W.nsIn K mainGlobals "_law_channels" = some (some (.ref f__law_channels)))
    (l__law_channels : K.lookup f__law_channels = some ⟨oc__law_channels, od__law_channels, .func (PySem.W.fnOf "_law_channels" "_law_channels" (defArgs s__law_channels) (defBody s__law_channels) (defScope s__law_channels) .none kV__law_channels dc__law_channels pm__law_channels an__law_channels cd__law_channels ct__law_channels), sl__law_channels⟩)
    (c__law_channels : PySem.W.codeIn K cd__law_channels "_law_channels" = true)
    (k__law_channels : PySem.W.keepIn K (.ref f__law_channels) = true)
    (a__law_rule : PySem.W.nsIn K mainGlobals "_law_rule" = some (some (.ref f__law_rule)))
    (l__law_rule : K.lookup f__law_rule = some ⟨oc__law_rule, od__law_rule, .func (PySem.W.fnOf "_law_rule" "_law_rule" (defArgs s__law_rule) (defBody s__law_rule) (defScope s__law_rule) .none kV__law_rule dc__law_rule pm__law_rule an__law_rule cd__law_rule ct__law_rule), sl__law_rule⟩)
    (c__law_rule : PySem.W.codeIn K cd__law_rule "_law_rule" = true)
    (k__law_rule : PySem.W.keepIn K (.ref f__law_rule) = true)
    (a__law_net : PySem.W.nsIn K mainGlobals "_law_net" = some (some (.ref f__law_net)))
    (l__law_net : K.lookup f__law_net = some ⟨oc__law_net, od__law_net, .func (PySem.W.fnOf "_law_net" "_law_net" (defArgs s__law_net) (defBody s__law_net) (defScope s__law_net) .none kV__law_net dc__law_net pm__law_net an__law_net cd__law_net ct__law_net), sl__law_net⟩)
    (c__law_net : PySem.W.codeIn K cd__law_net "_law_net" = true)
    (k__law_net : PySem.W.keepIn K (.ref f__law_net) = true)
    (a__law_start : PySem.W.nsIn K mainGlobals "_law_start" = some (some (.ref f__law_start)))
    (l__law_start : K.lookup f__law_start = some ⟨oc__law_start, od__law_start, .func (PySem.W.fnOf "_law_start" "_law_start" (defArgs s__law_start) (defBody s__law_start) (defScope s__law_start) .none kV__law_start dc__law_start pm__law_start an__law_start cd__law_start ct__law_start), sl__law_start⟩)
    (c__law_start : PySem.W.codeIn K cd__law_start "_law_start" = true)
    (k__law_start : PySem.W.keepIn K (.ref f__law_start) = true)
    (a__law_takes : PySem.W.nsIn K mainGlobals "_law_takes" = some (some (.ref f__law_takes)))
    (l__law_takes : K.lookup f__law_takes = some ⟨oc__law_takes, od__law_takes, .func (PySem.W.fnOf "_law_takes" "_law_takes" (defArgs s__law_takes) (defBody s__law_takes) (defScope s__law_takes) .none kV__law_takes dc__law_takes pm__law_takes an__law_takes cd__law_takes ct__law_takes), sl__law_takes⟩)
    (c__law_takes : PySem.W.codeIn K cd__law_takes "_law_takes" = true)
    (k__law_takes : PySem.W.keepIn K (.ref f__law_takes) = true)
    (a__law_possible : PySem.W.nsIn K mainGlobals "_law_possible" = some (some (.ref f__law_possible)))
    (l__law_possible : K.lookup f__law_possible = some ⟨oc__law_possible, od__law_possible, .func (PySem.W.fnOf "_law_possible" "_law_possible" (defArgs s__law_possible) (defBody s__law_possible) (defScope s__law_possible) .none kV__law_possible dc__law_possible pm__law_possible an__law_possible cd__law_possible ct__law_possible), sl__law_possible⟩)
    (c__law_possible : PySem.W.codeIn K cd__law_possible "_law_possible" = true)
    (k__law_possible : PySem.W.keepIn K (.ref f__law_possible) = true)
    (a__law_with : PySem.W.nsIn K mainGlobals "_law_with" = some (some (.ref f__law_with)))
    (l__law_with : K.lookup f__law_with = some ⟨oc__law_with, od__law_with, .func (PySem.W.fnOf "_law_with" "_law_with" (defArgs s__law_with) (defBody s__law_with) (defScope s__law_with) .none kV__law_with dc__law_with pm__law_with an__law_with cd__law_with ct__law_with), sl__law_with⟩)
    (c__law_with : PySem.W.codeIn K cd__law_with "_law_with" = true)
    (k__law_with : PySem.W.keepIn K (.ref f__law_with) = true)
    (a__law_done : PySem.W.nsIn K mainGlobals "_law_done" = some (some (.ref f__law_done)))
    (l__law_done : K.lookup f__law_done = some ⟨oc__law_done, od__law_done, .func (PySem.W.fnOf "_law_done" "_law_done" (defArgs s__law_done) (defBody s__law_done) (defScope s__law_done) .none kV__law_done dc__law_done pm__law_done an__law_done cd__law_done ct__law_done), sl__law_done⟩)
    (c__law_done : PySem.W.codeIn K cd__law_done "_law_done" = true)
    (k__law_done : PySem.W.keepIn K (.ref f__law_done) = true)
    (a__law_step : PySem.W.nsIn K mainGlobals "_law_step" = some (some (.ref f__law_step)))
    (l__law_step : K.lookup f__law_step = some ⟨oc__law_step, od__law_step, .func (PySem.W.fnOf "_law_step" "_law_step" (defArgs s__law_step) (defBody s__law_step) (defScope s__law_step) .none kV__law_step dc__law_step pm__law_step an__law_step cd__law_step ct__law_step), sl__law_step⟩)
    (c__law_step : PySem.W.codeIn K cd__law_step "_law_step" = true)
    (k__law_step : PySem.W.keepIn K (.ref f__law_step) = true)
    (a__law_lively : PySem.W.nsIn K mainGlobals "_law_lively" = some (some (.ref f__law_lively)))
    (l__law_lively : K.lookup f__law_lively = some ⟨oc__law_lively, od__law_lively, .func (PySem.W.fnOf "_law_lively" "_law_lively" (defArgs s__law_lively) (defBody s__law_lively) (defScope s__law_lively) .none kV__law_lively dc__law_lively pm__law_lively an__law_lively cd__law_lively ct__law_lively), sl__law_lively⟩)
    (c__law_lively : PySem.W.codeIn K cd__law_lively "_law_lively" = true)
    (k__law_lively : PySem.W.keepIn K (.ref f__law_lively) = true)
    (a__law_listed : PySem.W.nsIn K mainGlobals "_law_listed" = some (some (.ref f__law_listed)))
    (l__law_listed : K.lookup f__law_listed = some ⟨oc__law_listed, od__law_listed, .func (PySem.W.fnOf "_law_listed" "_law_listed" (defArgs s__law_listed) (defBody s__law_listed) (defScope s__law_listed) .none kV__law_listed dc__law_listed pm__law_listed an__law_listed cd__law_listed ct__law_listed), sl__law_listed⟩)
    (c__law_listed : PySem.W.codeIn K cd__law_listed "_law_listed" = true)
    (k__law_listed : PySem.W.keepIn K (.ref f__law_listed) = true)
    (a__law_walked : PySem.W.nsIn K mainGlobals "_law_walked" = some (some (.ref f__law_walked)))
    (l__law_walked : K.lookup f__law_walked = some ⟨oc__law_walked, od__law_walked, .func (PySem.W.fnOf "_law_walked" "_law_walked" (defArgs s__law_walked) (defBody s__law_walked) (defScope s__law_walked) .none kV__law_walked dc__law_walked pm__law_walked an__law_walked cd__law_walked ct__law_walked), sl__law_walked⟩)
    (c__law_walked : PySem.W.codeIn K cd__law_walked "_law_walked" = true)
    (k__law_walked : PySem.W.keepIn K (.ref f__law_walked) = true)
    (a_law : PySem.W.nsIn K mainGlobals "law" = some (some (.ref f_law)))
    (l_law : K.lookup f_law = some ⟨oc_law, od_law, .func (PySem.W.fnOf "law" "law" (defArgs s_law) (defBody s_law) (defScope s_law) .none kV_law dc_law pm_law an_law cd_law ct_law), sl_law⟩)
    (c_law : PySem.W.codeIn K cd_law "law" = true)
    (k_law : PySem.W.keepIn K (.ref f_law) = true)
    (z_all : PySem.W.nsIn K mainGlobals "all" = some none)
    (z_bool : PySem.W.nsIn K mainGlobals "bool" = some none)
    (z_enumerate : PySem.W.nsIn K mainGlobals "enumerate" = some none)
    (z_int : PySem.W.nsIn K mainGlobals "int" = some none)
    (z_isinstance : PySem.W.nsIn K mainGlobals "isinstance" = some none)
    (z_len : PySem.W.nsIn K mainGlobals "len" = some none)
    (z_list : PySem.W.nsIn K mainGlobals "list" = some none)
    (z_range : PySem.W.nsIn K mainGlobals "range" = some none)
    (z_str : PySem.W.nsIn K mainGlobals "str" = some none)
    (z_tuple : PySem.W.nsIn K mainGlobals "tuple" = some none)
    (gv_KINDS : PySem.W.nsIn K mainGlobals "KINDS" = some (some (.ref ga_KINDS)))
    (gl_KINDS : K.lookup ga_KINDS = some ⟨.type "tuple", gd_KINDS, .seq gi_KINDS gn_KINDS, gs_KINDS⟩)
    (gt_KINDS : atomB g_KINDS gi_KINDS.toList = true)
    (gv_LETTERS : PySem.W.nsIn K mainGlobals "LETTERS" = some (some (.str ("abcdefghijklmnopqrstuvwxyz" : Str) t_LETTERS)))
    (gv_MOST_CHANNELS : PySem.W.nsIn K mainGlobals "MOST_CHANNELS" = some (some (.int 8 t_MOST_CHANNELS)))
    (gv_MOST_LETTERS : PySem.W.nsIn K mainGlobals "MOST_LETTERS" = some (some (.int 6 t_MOST_LETTERS)))
    (gv_MOST_PROCESSES : PySem.W.nsIn K mainGlobals "MOST_PROCESSES" = some (some (.int 5 t_MOST_PROCESSES)))
    (gv_MOST_RULES : PySem.W.nsIn K mainGlobals "MOST_RULES" = some (some (.int 40 t_MOST_RULES)))
    (gv_MOST_STATES : PySem.W.nsIn K mainGlobals "MOST_STATES" = some (some (.int 8 t_MOST_STATES)))
    (gv_TOKENS : PySem.W.nsIn K mainGlobals "TOKENS" = some (some (.int 10 t_TOKENS))) : Tx P K mg where
  c_CutError := C_CutError
  c_BadValue := C_BadValue
  c_BadStep := C_BadStep
  i_BadValue := I_BadValue
  i_BadStep := I_BadStep
  ca_Net := C_Net
  a_is_whole := f_is_whole
  d_is_whole := PySem.W.fnOf "is_whole" "is_whole" (defArgs s_is_whole) (defBody s_is_whole) (defScope s_is_whole) .none kV_is_whole dc_is_whole pm_is_whole an_is_whole cd_is_whole ct_is_whole
  F_is_whole := fun_mk (st := s_is_whole) l_is_whole c_is_whole k_is_whole
  b_is_whole := L2.Fun.binds (ps := [("value" : Str)]) (fun_mk (st := s_is_whole) l_is_whole c_is_whole k_is_whole) fun _ _ _ _ _ _ us hl => match us, hl with | [_], _ => rfl
  g_is_whole := PySem.W.mg_of X G a_is_whole
  k_is_whole := k_is_whole
  a_is_below := f_is_below
  d_is_below := PySem.W.fnOf "is_below" "is_below" (defArgs s_is_below) (defBody s_is_below) (defScope s_is_below) .none kV_is_below dc_is_below pm_is_below an_is_below cd_is_below ct_is_below
  F_is_below := fun_mk (st := s_is_below) l_is_below c_is_below k_is_below
  b_is_below := L2.Fun.binds (ps := [("value" : Str), ("top" : Str)]) (fun_mk (st := s_is_below) l_is_below c_is_below k_is_below) fun _ _ _ _ _ _ us hl => match us, hl with | [_, _], _ => rfl
  g_is_below := PySem.W.mg_of X G a_is_below
  k_is_below := k_is_below
  a_is_name := f_is_name
  d_is_name := PySem.W.fnOf "is_name" "is_name" (defArgs s_is_name) (defBody s_is_name) (defScope s_is_name) .none kV_is_name dc_is_name pm_is_name an_is_name cd_is_name ct_is_name
  F_is_name := fun_mk (st := s_is_name) l_is_name c_is_name k_is_name
  b_is_name := L2.Fun.binds (ps := [("value" : Str)]) (fun_mk (st := s_is_name) l_is_name c_is_name k_is_name) fun _ _ _ _ _ _ us hl => match us, hl with | [_], _ => rfl
  g_is_name := PySem.W.mg_of X G a_is_name
  k_is_name := k_is_name
  a_is_process := f_is_process
  d_is_process := PySem.W.fnOf "is_process" "is_process" (defArgs s_is_process) (defBody s_is_process) (defScope s_is_process) .none kV_is_process dc_is_process pm_is_process an_is_process cd_is_process ct_is_process
  F_is_process := fun_mk (st := s_is_process) l_is_process c_is_process k_is_process
  b_is_process := L2.Fun.binds (ps := [("value" : Str), ("elder" : Str)]) (fun_mk (st := s_is_process) l_is_process c_is_process k_is_process) fun _ _ _ _ _ _ us hl => match us, hl with | [_, _], _ => rfl
  g_is_process := PySem.W.mg_of X G a_is_process
  k_is_process := k_is_process
  a_is_channel := f_is_channel
  d_is_channel := PySem.W.fnOf "is_channel" "is_channel" (defArgs s_is_channel) (defBody s_is_channel) (defScope s_is_channel) .none kV_is_channel dc_is_channel pm_is_channel an_is_channel cd_is_channel ct_is_channel
  F_is_channel := fun_mk (st := s_is_channel) l_is_channel c_is_channel k_is_channel
  b_is_channel := L2.Fun.binds (ps := [("value" : Str), ("processes" : Str), ("elder" : Str)]) (fun_mk (st := s_is_channel) l_is_channel c_is_channel k_is_channel) fun _ _ _ _ _ _ us hl => match us, hl with | [_, _, _], _ => rfl
  g_is_channel := PySem.W.mg_of X G a_is_channel
  k_is_channel := k_is_channel
  a_is_act := f_is_act
  d_is_act := PySem.W.fnOf "is_act" "is_act" (defArgs s_is_act) (defBody s_is_act) (defScope s_is_act) .none kV_is_act dc_is_act pm_is_act an_is_act cd_is_act ct_is_act
  F_is_act := fun_mk (st := s_is_act) l_is_act c_is_act k_is_act
  b_is_act := L2.Fun.binds (ps := [("act" : Str), ("process" : Str), ("channels" : Str)]) (fun_mk (st := s_is_act) l_is_act c_is_act k_is_act) fun _ _ _ _ _ _ us hl => match us, hl with | [_, _, _], _ => rfl
  g_is_act := PySem.W.mg_of X G a_is_act
  k_is_act := k_is_act
  a_is_rule := f_is_rule
  d_is_rule := PySem.W.fnOf "is_rule" "is_rule" (defArgs s_is_rule) (defBody s_is_rule) (defScope s_is_rule) .none kV_is_rule dc_is_rule pm_is_rule an_is_rule cd_is_rule ct_is_rule
  F_is_rule := fun_mk (st := s_is_rule) l_is_rule c_is_rule k_is_rule
  b_is_rule := L2.Fun.binds (ps := [("value" : Str), ("processes" : Str), ("channels" : Str)]) (fun_mk (st := s_is_rule) l_is_rule c_is_rule k_is_rule) fun _ _ _ _ _ _ us hl => match us, hl with | [_, _, _], _ => rfl
  g_is_rule := PySem.W.mg_of X G a_is_rule
  k_is_rule := k_is_rule
  a__frozen := f__frozen
  d__frozen := PySem.W.fnOf "_frozen" "_frozen" (defArgs s__frozen) (defBody s__frozen) (defScope s__frozen) .none kV__frozen dc__frozen pm__frozen an__frozen cd__frozen ct__frozen
  F__frozen := fun_mk (st := s__frozen) l__frozen c__frozen k__frozen
  b__frozen := L2.Fun.binds (ps := [("value" : Str), ("depth" : Str)]) (fun_mk (st := s__frozen) l__frozen c__frozen k__frozen) fun _ _ _ _ _ _ us hl => match us, hl with | [_, _], _ => rfl
  g__frozen := PySem.W.mg_of X G a__frozen
  k__frozen := k__frozen
  a__rows := f__rows
  d__rows := PySem.W.fnOf "_rows" "_rows" (defArgs s__rows) (defBody s__rows) (defScope s__rows) .none kV__rows dc__rows pm__rows an__rows cd__rows ct__rows
  F__rows := fun_mk (st := s__rows) l__rows c__rows k__rows
  b__rows := L2.Fun.binds (ps := [("value" : Str), ("least" : Str), ("most" : Str)]) (fun_mk (st := s__rows) l__rows c__rows k__rows) fun _ _ _ _ _ _ us hl => match us, hl with | [_, _, _], _ => rfl
  g__rows := PySem.W.mg_of X G a__rows
  k__rows := k__rows
  a_Net_init := f_Net_init
  d_Net_init := PySem.W.fnOf "__init__" "Net.__init__" (defArgs s_Net_init) (defBody s_Net_init) (defScope s_Net_init) .none kV_Net_init dc_Net_init pm_Net_init an_Net_init cd_Net_init ct_Net_init
  F_Net_init := fun_mk (st := s_Net_init) l_Net_init c_Net_init k_Net_init
  b_Net_init := L2.Fun.binds (ps := [("self" : Str), ("processes" : Str), ("channels" : Str), ("rules" : Str)]) (fun_mk (st := s_Net_init) l_Net_init c_Net_init k_Net_init) fun _ _ _ _ _ _ us hl => match us, hl with | [_, _, _, _], _ => rfl
  a_start := f_start
  d_start := PySem.W.fnOf "start" "start" (defArgs s_start) (defBody s_start) (defScope s_start) .none kV_start dc_start pm_start an_start cd_start ct_start
  F_start := fun_mk (st := s_start) l_start c_start k_start
  b_start := L2.Fun.binds (ps := [("net" : Str)]) (fun_mk (st := s_start) l_start c_start k_start) fun _ _ _ _ _ _ us hl => match us, hl with | [_], _ => rfl
  g_start := PySem.W.mg_of X G a_start
  k_start := k_start
  a_is_lossy := f_is_lossy
  d_is_lossy := PySem.W.fnOf "is_lossy" "is_lossy" (defArgs s_is_lossy) (defBody s_is_lossy) (defScope s_is_lossy) .none kV_is_lossy dc_is_lossy pm_is_lossy an_is_lossy cd_is_lossy ct_is_lossy
  F_is_lossy := fun_mk (st := s_is_lossy) l_is_lossy c_is_lossy k_is_lossy
  b_is_lossy := L2.Fun.binds (ps := [("net" : Str), ("channel" : Str)]) (fun_mk (st := s_is_lossy) l_is_lossy c_is_lossy k_is_lossy) fun _ _ _ _ _ _ us hl => match us, hl with | [_, _], _ => rfl
  g_is_lossy := PySem.W.mg_of X G a_is_lossy
  k_is_lossy := k_is_lossy
  a_is_ordered := f_is_ordered
  d_is_ordered := PySem.W.fnOf "is_ordered" "is_ordered" (defArgs s_is_ordered) (defBody s_is_ordered) (defScope s_is_ordered) .none kV_is_ordered dc_is_ordered pm_is_ordered an_is_ordered cd_is_ordered ct_is_ordered
  F_is_ordered := fun_mk (st := s_is_ordered) l_is_ordered c_is_ordered k_is_ordered
  b_is_ordered := L2.Fun.binds (ps := [("net" : Str), ("channel" : Str)]) (fun_mk (st := s_is_ordered) l_is_ordered c_is_ordered k_is_ordered) fun _ _ _ _ _ _ us hl => match us, hl with | [_, _], _ => rfl
  g_is_ordered := PySem.W.mg_of X G a_is_ordered
  k_is_ordered := k_is_ordered
  a_as_deed := f_as_deed
  d_as_deed := PySem.W.fnOf "as_deed" "as_deed" (defArgs s_as_deed) (defBody s_as_deed) (defScope s_as_deed) .none kV_as_deed dc_as_deed pm_as_deed an_as_deed cd_as_deed ct_as_deed
  F_as_deed := fun_mk (st := s_as_deed) l_as_deed c_as_deed k_as_deed
  b_as_deed := L2.Fun.binds (ps := [("net" : Str), ("deed" : Str)]) (fun_mk (st := s_as_deed) l_as_deed c_as_deed k_as_deed) fun _ _ _ _ _ _ us hl => match us, hl with | [_, _], _ => rfl
  g_as_deed := PySem.W.mg_of X G a_as_deed
  k_as_deed := k_as_deed
  a_open_messages_of := f_open_messages_of
  d_open_messages_of := PySem.W.fnOf "open_messages_of" "open_messages_of" (defArgs s_open_messages_of) (defBody s_open_messages_of) (defScope s_open_messages_of) .none kV_open_messages_of dc_open_messages_of pm_open_messages_of an_open_messages_of cd_open_messages_of ct_open_messages_of
  F_open_messages_of := fun_mk (st := s_open_messages_of) l_open_messages_of c_open_messages_of k_open_messages_of
  b_open_messages_of := L2.Fun.binds (ps := [("net" : Str), ("world" : Str), ("channel" : Str)]) (fun_mk (st := s_open_messages_of) l_open_messages_of c_open_messages_of k_open_messages_of) fun _ _ _ _ _ _ us hl => match us, hl with | [_, _, _], _ => rfl
  g_open_messages_of := PySem.W.mg_of X G a_open_messages_of
  k_open_messages_of := k_open_messages_of
  a_can_do := f_can_do
  d_can_do := PySem.W.fnOf "can_do" "can_do" (defArgs s_can_do) (defBody s_can_do) (defScope s_can_do) .none kV_can_do dc_can_do pm_can_do an_can_do cd_can_do ct_can_do
  F_can_do := fun_mk (st := s_can_do) l_can_do c_can_do k_can_do
  b_can_do := L2.Fun.binds (ps := [("net" : Str), ("world" : Str), ("deed" : Str)]) (fun_mk (st := s_can_do) l_can_do c_can_do k_can_do) fun _ _ _ _ _ _ us hl => match us, hl with | [_, _, _], _ => rfl
  g_can_do := PySem.W.mg_of X G a_can_do
  k_can_do := k_can_do
  a_possible := f_possible
  d_possible := PySem.W.fnOf "possible" "possible" (defArgs s_possible) (defBody s_possible) (defScope s_possible) .none kV_possible dc_possible pm_possible an_possible cd_possible ct_possible
  F_possible := fun_mk (st := s_possible) l_possible c_possible k_possible
  b_possible := L2.Fun.binds (ps := [("net" : Str), ("world" : Str)]) (fun_mk (st := s_possible) l_possible c_possible k_possible) fun _ _ _ _ _ _ us hl => match us, hl with | [_, _], _ => rfl
  g_possible := PySem.W.mg_of X G a_possible
  k_possible := k_possible
  a__with_part := f__with_part
  d__with_part := PySem.W.fnOf "_with_part" "_with_part" (defArgs s__with_part) (defBody s__with_part) (defScope s__with_part) .none kV__with_part dc__with_part pm__with_part an__with_part cd__with_part ct__with_part
  F__with_part := fun_mk (st := s__with_part) l__with_part c__with_part k__with_part
  b__with_part := L2.Fun.binds (ps := [("row" : Str), ("at" : Str), ("part" : Str)]) (fun_mk (st := s__with_part) l__with_part c__with_part k__with_part) fun _ _ _ _ _ _ us hl => match us, hl with | [_, _, _], _ => rfl
  g__with_part := PySem.W.mg_of X G a__with_part
  k__with_part := k__with_part
  a__without_message := f__without_message
  d__without_message := PySem.W.fnOf "_without_message" "_without_message" (defArgs s__without_message) (defBody s__without_message) (defScope s__without_message) .none kV__without_message dc__without_message pm__without_message an__without_message cd__without_message ct__without_message
  F__without_message := fun_mk (st := s__without_message) l__without_message c__without_message k__without_message
  b__without_message := L2.Fun.binds (ps := [("present" : Str), ("channel" : Str), ("k" : Str)]) (fun_mk (st := s__without_message) l__without_message c__without_message k__without_message) fun _ _ _ _ _ _ us hl => match us, hl with | [_, _, _], _ => rfl
  g__without_message := PySem.W.mg_of X G a__without_message
  k__without_message := k__without_message
  a_behind := f_behind
  d_behind := PySem.W.fnOf "behind" "behind" (defArgs s_behind) (defBody s_behind) (defScope s_behind) .none kV_behind dc_behind pm_behind an_behind cd_behind ct_behind
  F_behind := fun_mk (st := s_behind) l_behind c_behind k_behind
  b_behind := L2.Fun.binds (ps := [("net" : Str), ("world" : Str), ("deed" : Str)]) (fun_mk (st := s_behind) l_behind c_behind k_behind) fun _ _ _ _ _ _ us hl => match us, hl with | [_, _, _], _ => rfl
  g_behind := PySem.W.mg_of X G a_behind
  k_behind := k_behind
  a_done := f_done
  d_done := PySem.W.fnOf "done" "done" (defArgs s_done) (defBody s_done) (defScope s_done) .none kV_done dc_done pm_done an_done cd_done ct_done
  F_done := fun_mk (st := s_done) l_done c_done k_done
  b_done := L2.Fun.binds (ps := [("net" : Str), ("world" : Str), ("deed" : Str)]) (fun_mk (st := s_done) l_done c_done k_done) fun _ _ _ _ _ _ us hl => match us, hl with | [_, _, _], _ => rfl
  g_done := PySem.W.mg_of X G a_done
  k_done := k_done
  a__law_mix := f__law_mix
  d__law_mix := PySem.W.fnOf "_law_mix" "_law_mix" (defArgs s__law_mix) (defBody s__law_mix) (defScope s__law_mix) .none kV__law_mix dc__law_mix pm__law_mix an__law_mix cd__law_mix ct__law_mix
  F__law_mix := fun_mk (st := s__law_mix) l__law_mix c__law_mix k__law_mix
  b__law_mix := L2.Fun.binds (ps := [("_law_cell" : Str), ("_law_salt" : Str)]) (fun_mk (st := s__law_mix) l__law_mix c__law_mix k__law_mix) fun _ _ _ _ _ _ us hl => match us, hl with | [_, _], _ => rfl
  g__law_mix := PySem.W.mg_of X G a__law_mix
  k__law_mix := k__law_mix
  a__law_box := f__law_box
  d__law_box := PySem.W.fnOf "_law_box" "_law_box" (defArgs s__law_box) (defBody s__law_box) (defScope s__law_box) .none kV__law_box dc__law_box pm__law_box an__law_box cd__law_box ct__law_box
  F__law_box := fun_mk (st := s__law_box) l__law_box c__law_box k__law_box
  b__law_box := L2.Fun.binds (ps := [("_law_script" : Str), ("_law_at" : Str)]) (fun_mk (st := s__law_box) l__law_box c__law_box k__law_box) fun _ _ _ _ _ _ us hl => match us, hl with | [_, _], _ => rfl
  g__law_box := PySem.W.mg_of X G a__law_box
  k__law_box := k__law_box
  a__law_draw := f__law_draw
  d__law_draw := PySem.W.fnOf "_law_draw" "_law_draw" (defArgs s__law_draw) (defBody s__law_draw) (defScope s__law_draw) .none kV__law_draw dc__law_draw pm__law_draw an__law_draw cd__law_draw ct__law_draw
  F__law_draw := fun_mk (st := s__law_draw) l__law_draw c__law_draw k__law_draw
  b__law_draw := L2.Fun.binds (ps := [("_law_box_here" : Str), ("_law_many" : Str)]) (fun_mk (st := s__law_draw) l__law_draw c__law_draw k__law_draw) fun _ _ _ _ _ _ us hl => match us, hl with | [_, _], _ => rfl
  g__law_draw := PySem.W.mg_of X G a__law_draw
  k__law_draw := k__law_draw
  a__law_alike := f__law_alike
  d__law_alike := PySem.W.fnOf "_law_alike" "_law_alike" (defArgs s__law_alike) (defBody s__law_alike) (defScope s__law_alike) .none kV__law_alike dc__law_alike pm__law_alike an__law_alike cd__law_alike ct__law_alike
  F__law_alike := fun_mk (st := s__law_alike) l__law_alike c__law_alike k__law_alike
  b__law_alike := L2.Fun.binds (ps := [("_law_told" : Str), ("_law_due" : Str)]) (fun_mk (st := s__law_alike) l__law_alike c__law_alike k__law_alike) fun _ _ _ _ _ _ us hl => match us, hl with | [_, _], _ => rfl
  g__law_alike := PySem.W.mg_of X G a__law_alike
  k__law_alike := k__law_alike
  a__law_names := f__law_names
  d__law_names := PySem.W.fnOf "_law_names" "_law_names" (defArgs s__law_names) (defBody s__law_names) (defScope s__law_names) .none kV__law_names dc__law_names pm__law_names an__law_names cd__law_names ct__law_names
  F__law_names := fun_mk (st := s__law_names) l__law_names c__law_names k__law_names
  b__law_names := L2.Fun.binds (ps := [("_law_box_here" : Str), ("_law_pool" : Str), ("_law_many" : Str)]) (fun_mk (st := s__law_names) l__law_names c__law_names k__law_names) fun _ _ _ _ _ _ us hl => match us, hl with | [_, _, _], _ => rfl
  g__law_names := PySem.W.mg_of X G a__law_names
  k__law_names := k__law_names
  a__law_channels := f__law_channels
  d__law_channels := PySem.W.fnOf "_law_channels" "_law_channels" (defArgs s__law_channels) (defBody s__law_channels) (defScope s__law_channels) .none kV__law_channels dc__law_channels pm__law_channels an__law_channels cd__law_channels ct__law_channels
  F__law_channels := fun_mk (st := s__law_channels) l__law_channels c__law_channels k__law_channels
  b__law_channels := L2.Fun.binds (ps := [("_law_box_here" : Str), ("_law_many" : Str)]) (fun_mk (st := s__law_channels) l__law_channels c__law_channels k__law_channels) fun _ _ _ _ _ _ us hl => match us, hl with | [_, _], _ => rfl
  g__law_channels := PySem.W.mg_of X G a__law_channels
  k__law_channels := k__law_channels
  a__law_rule := f__law_rule
  d__law_rule := PySem.W.fnOf "_law_rule" "_law_rule" (defArgs s__law_rule) (defBody s__law_rule) (defScope s__law_rule) .none kV__law_rule dc__law_rule pm__law_rule an__law_rule cd__law_rule ct__law_rule
  F__law_rule := fun_mk (st := s__law_rule) l__law_rule c__law_rule k__law_rule
  b__law_rule := L2.Fun.binds (ps := [("_law_box_here" : Str), ("_law_processes" : Str), ("_law_channels_here" : Str), ("_law_tokens" : Str)]) (fun_mk (st := s__law_rule) l__law_rule c__law_rule k__law_rule) fun _ _ _ _ _ _ us hl => match us, hl with | [_, _, _, _], _ => rfl
  g__law_rule := PySem.W.mg_of X G a__law_rule
  k__law_rule := k__law_rule
  a__law_net := f__law_net
  d__law_net := PySem.W.fnOf "_law_net" "_law_net" (defArgs s__law_net) (defBody s__law_net) (defScope s__law_net) .none kV__law_net dc__law_net pm__law_net an__law_net cd__law_net ct__law_net
  F__law_net := fun_mk (st := s__law_net) l__law_net c__law_net k__law_net
  b__law_net := L2.Fun.binds (ps := [("_law_box_here" : Str)]) (fun_mk (st := s__law_net) l__law_net c__law_net k__law_net) fun _ _ _ _ _ _ us hl => match us, hl with | [_], _ => rfl
  g__law_net := PySem.W.mg_of X G a__law_net
  k__law_net := k__law_net
  a__law_start := f__law_start
  d__law_start := PySem.W.fnOf "_law_start" "_law_start" (defArgs s__law_start) (defBody s__law_start) (defScope s__law_start) .none kV__law_start dc__law_start pm__law_start an__law_start cd__law_start ct__law_start
  F__law_start := fun_mk (st := s__law_start) l__law_start c__law_start k__law_start
  b__law_start := L2.Fun.binds (ps := [("_law_net_here" : Str)]) (fun_mk (st := s__law_start) l__law_start c__law_start k__law_start) fun _ _ _ _ _ _ us hl => match us, hl with | [_], _ => rfl
  g__law_start := PySem.W.mg_of X G a__law_start
  k__law_start := k__law_start
  a__law_takes := f__law_takes
  d__law_takes := PySem.W.fnOf "_law_takes" "_law_takes" (defArgs s__law_takes) (defBody s__law_takes) (defScope s__law_takes) .none kV__law_takes dc__law_takes pm__law_takes an__law_takes cd__law_takes ct__law_takes
  F__law_takes := fun_mk (st := s__law_takes) l__law_takes c__law_takes k__law_takes
  b__law_takes := L2.Fun.binds (ps := [("_law_net_here" : Str), ("_law_world" : Str), ("_law_r" : Str)]) (fun_mk (st := s__law_takes) l__law_takes c__law_takes k__law_takes) fun _ _ _ _ _ _ us hl => match us, hl with | [_, _, _], _ => rfl
  g__law_takes := PySem.W.mg_of X G a__law_takes
  k__law_takes := k__law_takes
  a__law_possible := f__law_possible
  d__law_possible := PySem.W.fnOf "_law_possible" "_law_possible" (defArgs s__law_possible) (defBody s__law_possible) (defScope s__law_possible) .none kV__law_possible dc__law_possible pm__law_possible an__law_possible cd__law_possible ct__law_possible
  F__law_possible := fun_mk (st := s__law_possible) l__law_possible c__law_possible k__law_possible
  b__law_possible := L2.Fun.binds (ps := [("_law_net_here" : Str), ("_law_world" : Str)]) (fun_mk (st := s__law_possible) l__law_possible c__law_possible k__law_possible) fun _ _ _ _ _ _ us hl => match us, hl with | [_, _], _ => rfl
  g__law_possible := PySem.W.mg_of X G a__law_possible
  k__law_possible := k__law_possible
  a__law_with := f__law_with
  d__law_with := PySem.W.fnOf "_law_with" "_law_with" (defArgs s__law_with) (defBody s__law_with) (defScope s__law_with) .none kV__law_with dc__law_with pm__law_with an__law_with cd__law_with ct__law_with
  F__law_with := fun_mk (st := s__law_with) l__law_with c__law_with k__law_with
  b__law_with := L2.Fun.binds (ps := [("_law_row" : Str), ("_law_at" : Str), ("_law_value" : Str)]) (fun_mk (st := s__law_with) l__law_with c__law_with k__law_with) fun _ _ _ _ _ _ us hl => match us, hl with | [_, _, _], _ => rfl
  g__law_with := PySem.W.mg_of X G a__law_with
  k__law_with := k__law_with
  a__law_done := f__law_done
  d__law_done := PySem.W.fnOf "_law_done" "_law_done" (defArgs s__law_done) (defBody s__law_done) (defScope s__law_done) .none kV__law_done dc__law_done pm__law_done an__law_done cd__law_done ct__law_done
  F__law_done := fun_mk (st := s__law_done) l__law_done c__law_done k__law_done
  b__law_done := L2.Fun.binds (ps := [("_law_net_here" : Str), ("_law_world" : Str), ("_law_deed" : Str)]) (fun_mk (st := s__law_done) l__law_done c__law_done k__law_done) fun _ _ _ _ _ _ us hl => match us, hl with | [_, _, _], _ => rfl
  g__law_done := PySem.W.mg_of X G a__law_done
  k__law_done := k__law_done
  a__law_step := f__law_step
  d__law_step := PySem.W.fnOf "_law_step" "_law_step" (defArgs s__law_step) (defBody s__law_step) (defScope s__law_step) .none kV__law_step dc__law_step pm__law_step an__law_step cd__law_step ct__law_step
  F__law_step := fun_mk (st := s__law_step) l__law_step c__law_step k__law_step
  b__law_step := L2.Fun.binds (ps := [("_law_box_here" : Str), ("_law_net_here" : Str), ("_law_world" : Str)]) (fun_mk (st := s__law_step) l__law_step c__law_step k__law_step) fun _ _ _ _ _ _ us hl => match us, hl with | [_, _, _], _ => rfl
  g__law_step := PySem.W.mg_of X G a__law_step
  k__law_step := k__law_step
  a__law_lively := f__law_lively
  d__law_lively := PySem.W.fnOf "_law_lively" "_law_lively" (defArgs s__law_lively) (defBody s__law_lively) (defScope s__law_lively) .none kV__law_lively dc__law_lively pm__law_lively an__law_lively cd__law_lively ct__law_lively
  F__law_lively := fun_mk (st := s__law_lively) l__law_lively c__law_lively k__law_lively
  b__law_lively := L2.Fun.binds (ps := [("_law_box_here" : Str)]) (fun_mk (st := s__law_lively) l__law_lively c__law_lively k__law_lively) fun _ _ _ _ _ _ us hl => match us, hl with | [_], _ => rfl
  g__law_lively := PySem.W.mg_of X G a__law_lively
  k__law_lively := k__law_lively
  a__law_listed := f__law_listed
  d__law_listed := PySem.W.fnOf "_law_listed" "_law_listed" (defArgs s__law_listed) (defBody s__law_listed) (defScope s__law_listed) .none kV__law_listed dc__law_listed pm__law_listed an__law_listed cd__law_listed ct__law_listed
  F__law_listed := fun_mk (st := s__law_listed) l__law_listed c__law_listed k__law_listed
  b__law_listed := L2.Fun.binds (ps := [("_law_world" : Str)]) (fun_mk (st := s__law_listed) l__law_listed c__law_listed k__law_listed) fun _ _ _ _ _ _ us hl => match us, hl with | [_], _ => rfl
  g__law_listed := PySem.W.mg_of X G a__law_listed
  k__law_listed := k__law_listed
  a__law_walked := f__law_walked
  d__law_walked := PySem.W.fnOf "_law_walked" "_law_walked" (defArgs s__law_walked) (defBody s__law_walked) (defScope s__law_walked) .none kV__law_walked dc__law_walked pm__law_walked an__law_walked cd__law_walked ct__law_walked
  F__law_walked := fun_mk (st := s__law_walked) l__law_walked c__law_walked k__law_walked
  b__law_walked := L2.Fun.binds (ps := [("_law_box_here" : Str), ("_law_net_here" : Str), ("_law_turns" : Str)]) (fun_mk (st := s__law_walked) l__law_walked c__law_walked k__law_walked) fun _ _ _ _ _ _ us hl => match us, hl with | [_, _, _], _ => rfl
  g__law_walked := PySem.W.mg_of X G a__law_walked
  k__law_walked := k__law_walked
  a_law := f_law
  d_law := PySem.W.fnOf "law" "law" (defArgs s_law) (defBody s_law) (defScope s_law) .none kV_law dc_law pm_law an_law cd_law ct_law
  F_law := fun_mk (st := s_law) l_law c_law k_law
  b_law := L2.Fun.binds (ps := [("_law_script" : Str)]) (fun_mk (st := s_law) l_law c_law k_law) fun _ _ _ _ _ _ us hl => match us, hl with | [_], _ => rfl
  g_law := PySem.W.mg_of X G a_law
  k_law := k_law
  n_all := PySem.W.mg_none_of X G z_all
  n_bool := PySem.W.mg_none_of X G z_bool
  n_enumerate := PySem.W.mg_none_of X G z_enumerate
  n_int := PySem.W.mg_none_of X G z_int
  n_isinstance := PySem.W.mg_none_of X G z_isinstance
  n_len := PySem.W.mg_none_of X G z_len
  n_list := PySem.W.mg_none_of X G z_list
  n_range := PySem.W.mg_none_of X G z_range
  n_str := PySem.W.mg_none_of X G z_str
  n_tuple := PySem.W.mg_none_of X G z_tuple
  g_KINDS := ⟨_, _, _, _, _, PySem.W.mg_of X G gv_KINDS, gl_KINDS, atomB_ok gt_KINDS⟩
  g_LETTERS := ⟨_, PySem.W.mg_of X G gv_LETTERS⟩
  g_MOST_CHANNELS := ⟨_, PySem.W.mg_of X G gv_MOST_CHANNELS⟩
  g_MOST_LETTERS := ⟨_, PySem.W.mg_of X G gv_MOST_LETTERS⟩
  g_MOST_PROCESSES := ⟨_, PySem.W.mg_of X G gv_MOST_PROCESSES⟩
  g_MOST_RULES := ⟨_, PySem.W.mg_of X G gv_MOST_RULES⟩
  g_MOST_STATES := ⟨_, PySem.W.mg_of X G gv_MOST_STATES⟩
  g_TOKENS := ⟨_, PySem.W.mg_of X G gv_TOKENS⟩
  e_BadValue := { gC := PySem.W.mg_of X G aC_BadValue, cls := ⟨_, _, _, _, _, _, _, _, _, _, _, _, _, _, _, xC_BadValue, bi_CutError, ⟨_, _, _, _, _, _, _, _, _, _, _, _, _, _, xC_CutError⟩⟩, sa := sa_BadValue, ga := ga_BadValue, gg := gg_BadValue, noN := no_BadValue, iC := iC_BadValue, tC := tI_BadValue, kC := kC_BadValue, exC := eC_BadValue, tyC := ty_BadValue, hdC := hd_BadValue, opq := opq, sup := PySem.W.mg_none_of X G sup, htop := htop, fn := ⟨_, _, _, _, _, _, _, _, _, _, _, _, _, _, _, _, _, _, _, _, _, _, _, _, _, _, _, _, _, _, _, _, _, lI_BadValue, cI_BadValue, lc_BadValue, v2_BadValue, fi_BadValue, le_BadValue, hl_BadValue⟩ }
  x_BadValue := ⟨ga_BadValue, gg_BadValue, eC_BadValue, hd_BadValue⟩
  e_BadStep := { gC := PySem.W.mg_of X G aC_BadStep, cls := ⟨_, _, _, _, _, _, _, _, _, _, _, _, _, _, _, xC_BadStep, bi_CutError, ⟨_, _, _, _, _, _, _, _, _, _, _, _, _, _, xC_CutError⟩⟩, sa := sa_BadStep, ga := ga_BadStep, gg := gg_BadStep, noN := no_BadStep, iC := iC_BadStep, tC := tI_BadStep, kC := kC_BadStep, exC := eC_BadStep, tyC := ty_BadStep, hdC := hd_BadStep, opq := opq, sup := PySem.W.mg_none_of X G sup, htop := htop, fn := ⟨_, _, _, _, _, _, _, _, _, _, _, _, _, _, _, _, _, _, _, _, _, _, _, _, _, _, _, _, _, _, _, _, _, lI_BadStep, cI_BadStep, lc_BadStep, v2_BadStep, fi_BadStep, le_BadStep, hl_BadStep⟩ }
  x_BadStep := ⟨ga_BadStep, gg_BadStep, eC_BadStep, hd_BadStep⟩
  c_Net := PySem.W.mg_of X G aC_Net
  mk_Net := ⟨mk_Net, a_Net_init, if_Net_init, kc_Net⟩
  cl_Net := ⟨pg_Net, hd_Net, po_Net, sa_Net⟩
  na_Net_channels := na_Net_channels
  na_Net_processes := na_Net_processes
  na_Net_rules := na_Net_rules
def spL (K : PySem.W.Frag) : Sp := fun vs H Q E => ∃ (a : Addr) (ns : List Int), vs = [.ref a] ∧ ns.length ≤ 63 ∧ Only H ∧ SqL K H a (ns.map V.int) ∧ ∀ H', Q (.bl true) H'
theorem law_end {P : Program} {w : World} {K : PySem.W.Frag} {mg : Str → Option Value} {base : Heap} (T : Tx P K mg) : FnOk P w K mg base (L2.CX P w) 14 T.a_law T.d_law [("_law_script" : Str)] (spL K) :=
  (ok_law T).imp fun vs H Q E ⟨a, ns, e, hl, hO, hS, q⟩ => by
    subst e
    obtain ⟨st', e'⟩ := law_true ns hl
    refine ⟨rfl, fun _ => 0, [], [.scr ns], ⟨fun j k hj => absurd hj (Nat.not_lt_zero _), fun k c e => by simp at e⟩, RepL.cons (by unfold Rep; exact ⟨a, rfl, ScrAt.of hS hO⟩) RepL.nil, ?_⟩
    rw [e']
    intro r' H' v _ _ hv
    unfold Rep at hv
    subst hv
    exact q H'
theorem walk {l : PySem.W.OpenLaw} {q : Program} {loose : List Str} {XP : (Str → Option Value) → Heap → Prop} {YP : World → Heap → Prop} {d : DefRec} {Kf : Params → PySem.W.Frag} (hn : l.most = some 63) (hdf : d.params.defaults = []) (hdn : d.name = "law")
    (hY : ∀ (w : World) (h : Heap), YP w h → (Kf w.params).In h)
    (F : ∀ (w : World) (mg : Str → Option Value) (h : Heap), (Kf w.params).In h → h.Ns mainGlobals mg → Nonempty (Tx l.prog (Kf w.params) mg)) :
    PySem.W.WalkO q loose XP YP l.row.toRowW d [] (fun f vs => PySem.call f vs) :=
  L2.walk_of (n := 63) (k := 14) (x := ("_law_script" : Str)) (CX := fun w => L2.CX l.prog w) (sp := fun w => spL (Kf w.params)) hn (by decide) hdf ⟨rfl, by decide, by decide⟩ hY (fun w mg fa h KX G hm => by
    obtain ⟨T⟩ := F w mg h KX G
    rw [hdn] at hm
    have e := hm.symm.trans T.g_law
    cases e
    refine ⟨T.d_law, fun s v => ?_, fun base _ _ => law_end T⟩
    have b := T.b_law
    obtain ⟨oc, od, kV, doc, pm, an, cdv, ct, osl, e, lk, hcd⟩ := T.F_law.ex
    rw [e]
    exact .of_eq rfl) (fun _ _ a ns hl hO hS => ⟨a, ns, rfl, hl, hO, hS, fun _ => rfl⟩) fun _ _ _ _ _ ⟨_, _, _, _, _, _, _, _, _, _, _, _, z⟩ => z

end K
open PySem PySem.W PyProof.Rows
set_option maxRecDepth 100000 in
set_option maxHeartbeats 0 in
theorem PySem.Challenge.cw_cutweave_k04_possible_deeds_holds : PySem.Challenge.rw_cutweave_k04_possible_deeds.Holds := by
  w_on; o_law; k_head; (case hw => w_witness2)
  k_fill
  refine K.walk (l := PySem.Challenge.rw_cutweave_k04_possible_deeds) rfl rfl rfl (fun w h Y => PySem.W.kIn_of Y) ?F
  case F =>
    intro w mg h KX G
    refine' ⟨K.mkTx KX G ?aC_CutError ?xC_CutError ?bi_CutError ?eC_CutError ?hd_CutError ?ty_CutError ?opq ?sup ?htop ?aC_BadValue ?xC_BadValue ?sa_BadValue ?ga_BadValue ?gg_BadValue ?no_BadValue ?iC_BadValue ?tI_BadValue ?kC_BadValue ?eC_BadValue ?ty_BadValue ?hd_BadValue ?lI_BadValue ?cI_BadValue ?lc_BadValue ?v2_BadValue ?fi_BadValue ?le_BadValue ?hl_BadValue ?aC_BadStep ?xC_BadStep ?sa_BadStep ?ga_BadStep ?gg_BadStep ?no_BadStep ?iC_BadStep ?tI_BadStep ?kC_BadStep ?eC_BadStep ?ty_BadStep ?hd_BadStep ?lI_BadStep ?cI_BadStep ?lc_BadStep ?v2_BadStep ?fi_BadStep ?le_BadStep ?hl_BadStep ?aC_Net ?pg_Net ?hd_Net ?po_Net ?sa_Net ?mk_Net ?kc_Net ?na_Net_channels ?na_Net_processes ?na_Net_rules ?a_is_whole ?l_is_whole ?c_is_whole ?k_is_whole ?a_is_below ?l_is_below ?c_is_below ?k_is_below ?a_is_name ?l_is_name ?c_is_name ?k_is_name ?a_is_process ?l_is_process ?c_is_process ?k_is_process ?a_is_channel ?l_is_channel ?c_is_channel ?k_is_channel ?a_is_act ?l_is_act ?c_is_act ?k_is_act ?a_is_rule ?l_is_rule ?c_is_rule ?k_is_rule ?a__frozen ?l__frozen ?c__frozen ?k__frozen ?a__rows ?l__rows ?c__rows ?k__rows ?a_Net_init ?if_Net_init ?l_Net_init ?c_Net_init ?k_Net_init ?a_start ?l_start ?c_start ?k_start ?a_is_lossy ?l_is_lossy ?c_is_lossy ?k_is_lossy ?a_is_ordered ?l_is_ordered ?c_is_ordered ?k_is_ordered ?a_as_deed ?l_as_deed ?c_as_deed ?k_as_deed ?a_open_messages_of ?l_open_messages_of ?c_open_messages_of ?k_open_messages_of ?a_can_do ?l_can_do ?c_can_do ?k_can_do ?a_possible ?l_possible ?c_possible ?k_possible ?a__with_part ?l__with_part ?c__with_part ?k__with_part ?a__without_message ?l__without_message ?c__without_message ?k__without_message ?a_behind ?l_behind ?c_behind ?k_behind ?a_done ?l_done ?c_done ?k_done ?a__law_mix ?l__law_mix ?c__law_mix ?k__law_mix ?a__law_box ?l__law_box ?c__law_box ?k__law_box ?a__law_draw ?l__law_draw ?c__law_draw ?k__law_draw ?a__law_alike ?l__law_alike ?c__law_alike ?k__law_alike ?a__law_names ?l__law_names ?c__law_names ?k__law_names ?a__law_channels ?l__law_channels ?c__law_channels ?k__law_channels ?a__law_rule ?l__law_rule ?c__law_rule ?k__law_rule ?a__law_net ?l__law_net ?c__law_net ?k__law_net ?a__law_start ?l__law_start ?c__law_start ?k__law_start ?a__law_takes ?l__law_takes ?c__law_takes ?k__law_takes ?a__law_possible ?l__law_possible ?c__law_possible ?k__law_possible ?a__law_with ?l__law_with ?c__law_with ?k__law_with ?a__law_done ?l__law_done ?c__law_done ?k__law_done ?a__law_step ?l__law_step ?c__law_step ?k__law_step ?a__law_lively ?l__law_lively ?c__law_lively ?k__law_lively ?a__law_listed ?l__law_listed ?c__law_listed ?k__law_listed ?a__law_walked ?l__law_walked ?c__law_walked ?k__law_walked ?a_law ?l_law ?c_law ?k_law ?z_all ?z_bool ?z_enumerate ?z_int ?z_isinstance ?z_len ?z_list ?z_range ?z_str ?z_tuple ?gv_KINDS ?gl_KINDS ?gt_KINDS ?gv_LETTERS ?gv_MOST_CHANNELS ?gv_MOST_LETTERS ?gv_MOST_PROCESSES ?gv_MOST_RULES ?gv_MOST_STATES ?gv_TOKENS⟩
    (case aC_CutError => k_is)
    (case xC_CutError => k_is)
    (case bi_CutError => k_is)
    (case eC_CutError => k_is)
    (case hd_CutError => k_is)
    (case ty_CutError => k_is)
    (case opq => k_is)
    (case sup => k_is)
    (case htop => first | rfl | decide +kernel)
    (case aC_BadValue => k_is)
    (case xC_BadValue => k_is)
    (case sa_BadValue => k_is)
    (case ga_BadValue => k_is)
    (case gg_BadValue => k_is)
    (case no_BadValue => k_is)
    (case iC_BadValue => k_is)
    (case tI_BadValue => k_is)
    (case kC_BadValue => k_is)
    (case eC_BadValue => k_is)
    (case ty_BadValue => k_is)
    (case hd_BadValue => k_is)
    (case lI_BadValue => k_is)
    (case cI_BadValue => k_is)
    (case lc_BadValue => k_is)
    (case v2_BadValue => rfl)
    (case fi_BadValue => first | rfl | decide +kernel)
    (case le_BadValue => k_is)
    (case hl_BadValue => rfl)
    (case aC_BadStep => k_is)
    (case xC_BadStep => k_is)
    (case sa_BadStep => k_is)
    (case ga_BadStep => k_is)
    (case gg_BadStep => k_is)
    (case no_BadStep => k_is)
    (case iC_BadStep => k_is)
    (case tI_BadStep => k_is)
    (case kC_BadStep => k_is)
    (case eC_BadStep => k_is)
    (case ty_BadStep => k_is)
    (case hd_BadStep => k_is)
    (case lI_BadStep => k_is)
    (case cI_BadStep => k_is)
    (case lc_BadStep => k_is)
    (case v2_BadStep => rfl)
    (case fi_BadStep => first | rfl | decide +kernel)
    (case le_BadStep => k_is)
    (case hl_BadStep => rfl)
    (case aC_Net => k_is)
    (case pg_Net => k_is)
    (case hd_Net => k_is)
    (case po_Net => k_is)
    (case sa_Net => k_is)
    (case mk_Net => k_is)
    (case kc_Net => k_is)
    (case na_Net_channels => k_is)
    (case na_Net_processes => k_is)
    (case na_Net_rules => k_is)
    (case a_is_whole => k_is)
    (case l_is_whole => k_is)
    (case c_is_whole => k_is)
    (case k_is_whole => k_is)
    (case a_is_below => k_is)
    (case l_is_below => k_is)
    (case c_is_below => k_is)
    (case k_is_below => k_is)
    (case a_is_name => k_is)
    (case l_is_name => k_is)
    (case c_is_name => k_is)
    (case k_is_name => k_is)
    (case a_is_process => k_is)
    (case l_is_process => k_is)
    (case c_is_process => k_is)
    (case k_is_process => k_is)
    (case a_is_channel => k_is)
    (case l_is_channel => k_is)
    (case c_is_channel => k_is)
    (case k_is_channel => k_is)
    (case a_is_act => k_is)
    (case l_is_act => k_is)
    (case c_is_act => k_is)
    (case k_is_act => k_is)
    (case a_is_rule => k_is)
    (case l_is_rule => k_is)
    (case c_is_rule => k_is)
    (case k_is_rule => k_is)
    (case a__frozen => k_is)
    (case l__frozen => k_is)
    (case c__frozen => k_is)
    (case k__frozen => k_is)
    (case a__rows => k_is)
    (case l__rows => k_is)
    (case c__rows => k_is)
    (case k__rows => k_is)
    (case a_Net_init => k_is)
    (case if_Net_init => k_is)
    (case l_Net_init => k_is)
    (case c_Net_init => k_is)
    (case k_Net_init => k_is)
    (case a_start => k_is)
    (case l_start => k_is)
    (case c_start => k_is)
    (case k_start => k_is)
    (case a_is_lossy => k_is)
    (case l_is_lossy => k_is)
    (case c_is_lossy => k_is)
    (case k_is_lossy => k_is)
    (case a_is_ordered => k_is)
    (case l_is_ordered => k_is)
    (case c_is_ordered => k_is)
    (case k_is_ordered => k_is)
    (case a_as_deed => k_is)
    (case l_as_deed => k_is)
    (case c_as_deed => k_is)
    (case k_as_deed => k_is)
    (case a_open_messages_of => k_is)
    (case l_open_messages_of => k_is)
    (case c_open_messages_of => k_is)
    (case k_open_messages_of => k_is)
    (case a_can_do => k_is)
    (case l_can_do => k_is)
    (case c_can_do => k_is)
    (case k_can_do => k_is)
    (case a_possible => k_is)
    (case l_possible => k_is)
    (case c_possible => k_is)
    (case k_possible => k_is)
    (case a__with_part => k_is)
    (case l__with_part => k_is)
    (case c__with_part => k_is)
    (case k__with_part => k_is)
    (case a__without_message => k_is)
    (case l__without_message => k_is)
    (case c__without_message => k_is)
    (case k__without_message => k_is)
    (case a_behind => k_is)
    (case l_behind => k_is)
    (case c_behind => k_is)
    (case k_behind => k_is)
    (case a_done => k_is)
    (case l_done => k_is)
    (case c_done => k_is)
    (case k_done => k_is)
    (case a__law_mix => k_is)
    (case l__law_mix => k_is)
    (case c__law_mix => k_is)
    (case k__law_mix => k_is)
    (case a__law_box => k_is)
    (case l__law_box => k_is)
    (case c__law_box => k_is)
    (case k__law_box => k_is)
    (case a__law_draw => k_is)
    (case l__law_draw => k_is)
    (case c__law_draw => k_is)
    (case k__law_draw => k_is)
    (case a__law_alike => k_is)
    (case l__law_alike => k_is)
    (case c__law_alike => k_is)
    (case k__law_alike => k_is)
    (case a__law_names => k_is)
    (case l__law_names => k_is)
    (case c__law_names => k_is)
    (case k__law_names => k_is)
    (case a__law_channels => k_is)
    (case l__law_channels => k_is)
    (case c__law_channels => k_is)
    (case k__law_channels => k_is)
    (case a__law_rule => k_is)
    (case l__law_rule => k_is)
    (case c__law_rule => k_is)
    (case k__law_rule => k_is)
    (case a__law_net => k_is)
    (case l__law_net => k_is)
    (case c__law_net => k_is)
    (case k__law_net => k_is)
    (case a__law_start => k_is)
    (case l__law_start => k_is)
    (case c__law_start => k_is)
    (case k__law_start => k_is)
    (case a__law_takes => k_is)
    (case l__law_takes => k_is)
    (case c__law_takes => k_is)
    (case k__law_takes => k_is)
    (case a__law_possible => k_is)
    (case l__law_possible => k_is)
    (case c__law_possible => k_is)
    (case k__law_possible => k_is)
    (case a__law_with => k_is)
    (case l__law_with => k_is)
    (case c__law_with => k_is)
    (case k__law_with => k_is)
    (case a__law_done => k_is)
    (case l__law_done => k_is)
    (case c__law_done => k_is)
    (case k__law_done => k_is)
    (case a__law_step => k_is)
    (case l__law_step => k_is)
    (case c__law_step => k_is)
    (case k__law_step => k_is)
    (case a__law_lively => k_is)
    (case l__law_lively => k_is)
    (case c__law_lively => k_is)
    (case k__law_lively => k_is)
    (case a__law_listed => k_is)
    (case l__law_listed => k_is)
    (case c__law_listed => k_is)
    (case k__law_listed => k_is)
    (case a__law_walked => k_is)
    (case l__law_walked => k_is)
    (case c__law_walked => k_is)
    (case k__law_walked => k_is)
    (case a_law => k_is)
    (case l_law => k_is)
    (case c_law => k_is)
    (case k_law => k_is)
    (case z_all => k_is)
    (case z_bool => k_is)
    (case z_enumerate => k_is)
    (case z_int => k_is)
    (case z_isinstance => k_is)
    (case z_len => k_is)
    (case z_list => k_is)
    (case z_range => k_is)
    (case z_str => k_is)
    (case z_tuple => k_is)
    (case gv_KINDS => k_is)
    (case gl_KINDS => k_is)
    (case gt_KINDS => rfl)
    (case gv_LETTERS => k_is)
    (case gv_MOST_CHANNELS => k_is)
    (case gv_MOST_LETTERS => k_is)
    (case gv_MOST_PROCESSES => k_is)
    (case gv_MOST_RULES => k_is)
    (case gv_MOST_STATES => k_is)
    (case gv_TOKENS => k_is)

