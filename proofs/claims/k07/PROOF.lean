import PyProof.Rows.All
import Wide.All
import OpenK.AllK
import Wide.FinOn
import HandS.ForMost
import HandS.ForExc
import HandS.Walk
import HandS.CallSlots
import HandS.Deep
import HandS.TupAny
import HandS.TupLe
import HandS.TupMul
import HandS.IsInst
import HandS.More
import HandS.Zip
import HandS.TryMany
import HandS.ExcSuper
import HandS.ExcField
import HandS.ExcIs
import KE.KSuper
import KE.GoesMore
import HandS.Dict
import HandS.Text
import KE.KExcIs
import HandS.HotCalls
import PySem.Challenge.RW_cutweave_k07_channels_in_order_and_loose
set_option Elab.async false
set_option maxRecDepth 100000
set_option maxHeartbeats 4000000
set_option linter.all false
set_option autoImplicit false
/-! Values as plain data, a small store of live cells, and what it means that the heap bears them. -/
namespace Cw
open PySem L2

/-- a value: data, with references to live cells -/
inductive D where
  | non | bl (b : Bool) | int (i : Int) | str (x : Str)
  | tup (xs : List D) | lst (xs : List D) | scr (ns : List Int)
  | obj (c : Nat) (ks : List Nat) (xs : List D)
  | ref (n : Nat)
  | exn (c : Nat) (x : D)

/-- what a live cell holds -/
inductive Cell where
  | lst (xs : List D)
  | ins (c : Nat) (ks : List Nat) (xs : List D)
  | dK (ks : List Key) (xs : List D)
  | dT (ks : List (List Key)) (xs : List D)

abbrev Sto := List Cell
abbrev En := List (Option D)
abbrev Rho := Nat → Addr

inductive Res (α : Type) where
  | ok (a : α) (st : Sto)
  | exc (c : Nat) (d : D) (st : Sto)
  | bad
def Res.bind {α β : Type} (x : Res α) (f : α → Sto → Res β) : Res β :=
  match x with
  | .ok a st => f a st
  | .exc c d st => .exc c d st
  | .bad => .bad

/-- classes and attributes by number -/
structure Stat where
  K : PySem.W.Frag
  CA : Nat → Addr
  AN : Nat → Str
  EN : Nat → Str
  ex : Option (Addr × Addr × Value)

/-- the script: a frozen list, or one that is written out -/
def ScrAt (K : PySem.W.Frag) (H : Hp) (a : Addr) (xs : List V) : Prop :=
  (∃ o, H a = some (.frz o (.lst xs))) ∨ ∃ (o : Obj) (its : Array Value) (n : Nat), K.lookup a = some o ∧ o.cls = .type "list" ∧ o.dict = none ∧ o.data = .seq its n ∧ its.size ≤ sizeLine ∧ Vals xs its.toList
theorem ScrAt.sql {K : PySem.W.Frag} {H : Hp} {a : Addr} {xs : List V} (h : ScrAt K H a xs) : SqL K H a xs := by
  rcases h with ⟨o, h⟩ | h
  · exact .inl (.inr ⟨o, h⟩)
  · exact .inr h
theorem ScrAt.of {K : PySem.W.Frag} {H : Hp} {a : Addr} {xs : List V} (h : SqL K H a xs) (n : ∀ b, H b = none ∨ ∃ o ys, H b = some (.frz o (.lst ys))) : ScrAt K H a xs := by
  rcases h with (h | ⟨o, h⟩) | h
  · rcases n a with e | ⟨o, ys, e⟩
    · rw [e] at h; cases h
    · rw [e] at h; cases h
  · exact .inl ⟨o, h⟩
  · exact .inr h
def Off (r : Rho) (n : Nat) (a : Addr) : Prop := ∀ k, k < n → r k ≠ a

mutual
def Rep (S : Stat) (r : Rho) (n : Nat) (H : Hp) : D → V → Prop
  | .non, v => v = .non
  | .bl b, v => v = .bl b
  | .int i, v => v = .int i
  | .str x, v => v = .str x
  | .tup ds, v => ∃ a xs, v = .ref a ∧ H a = some (.tup xs) ∧ RepL S r n H ds xs
  | .lst ds, v => ∃ a xs, v = .ref a ∧ H a = some (.lst xs) ∧ Off r n a ∧ RepL S r n H ds xs
  | .scr ns, v => ∃ a, v = .ref a ∧ ScrAt S.K H a (ns.map V.int)
  | .obj c ks ds, v => ∃ a dx fs, v = .ref a ∧ H a = some (.ins (S.CA c) dx fs) ∧ Off r n a ∧ fs.map (·.1) = ks.map S.AN ∧ RepL S r n H ds (fs.map (·.2))
  | .ref k, v => k < n ∧ v = .ref (r k)
  | .exn c x, v => ∃ a dx w, S.ex = some (a, dx, .ref (S.CA c)) ∧ v = .ref a ∧ H dx = some (.xd [(S.EN c, w)]) ∧ Rep S r n H x w
def RepL (S : Stat) (r : Rho) (n : Nat) (H : Hp) : List D → List V → Prop
  | [], vs => vs = []
  | d :: ds, vs => ∃ v w, vs = v :: w ∧ Rep S r n H d v ∧ RepL S r n H ds w
end

def MutO : HO → Prop
  | .lst _ => True
  | .dK _ => True
  | .dT _ => True
  | .ins _ _ _ => True
  | _ => False

/-- what was tracked and is no live cell stands, and is none later -/
structure Le (r : Rho) (n : Nat) (H : Hp) (r' : Rho) (n' : Nat) (H' : Hp) : Prop where
  len : n ≤ n'
  eq : ∀ k, k < n → r' k = r k
  liv : ∀ k, k < n → ∃ o, H (r k) = some o ∧ MutO o
  keep : ∀ b o, H b = some o → Off r n b → H' b = some o ∧ Off r' n' b

theorem Le.off_tup {r : Rho} {n : Nat} {H : Hp} {r' : Rho} {n' : Nat} {H' : Hp} (l : Le r n H r' n' H') {a : Addr} {o : HO} (h : H a = some o) (hm : ¬ MutO o) : Off r n a := fun k hk e => by
  obtain ⟨o', h1, h2⟩ := l.liv k hk
  rw [e, h] at h1
  cases h1
  exact hm h2

section
variable {S : Stat} {r r' : Rho} {n n' : Nat} {H H' : Hp}
theorem sqT_mono (l : Le r n H r' n' H') {a : Addr} {xs : List V} (h : SqT S.K H a xs) : SqT S.K H' a xs := by
  rcases h with (h | ⟨o, h⟩) | h
  · exact .inl (.inl (l.keep a _ h (l.off_tup h (fun z => z))).1)
  · exact .inl (.inr ⟨o, (l.keep a _ h (l.off_tup h (fun z => z))).1⟩)
  · exact .inr h
theorem sqT_of {K : PySem.W.Frag} {a : Addr} {xs : List V} (h : H a = some (.tup xs)) : SqT K H a xs := .inl (.inl h)
mutual
theorem Rep.mono (l : Le r n H r' n' H') : ∀ (d : D) (v : V), Rep S r n H d v → Rep S r' n' H' d v
  | .non, _, h => by simpa [Rep] using h
  | .bl _, _, h => by simpa [Rep] using h
  | .int _, _, h => by simpa [Rep] using h
  | .str _, _, h => by simpa [Rep] using h
  | .tup ds, v, h => by
    unfold Rep at h ⊢
    obtain ⟨a, xs, e, h1, h2⟩ := h
    exact ⟨a, xs, e, (l.keep a _ h1 (l.off_tup h1 (fun z => z))).1, RepL.mono l ds xs h2⟩
  | .lst ds, v, h => by
    unfold Rep at h ⊢
    obtain ⟨a, xs, e, h1, ho, h2⟩ := h
    exact ⟨a, xs, e, (l.keep a _ h1 ho).1, (l.keep a _ h1 ho).2, RepL.mono l ds xs h2⟩
  | .scr ns, v, h => by
    unfold Rep at h ⊢
    obtain ⟨a, e, h1⟩ := h
    rcases h1 with ⟨o, h1⟩ | h1
    · exact ⟨a, e, .inl ⟨o, (l.keep a _ h1 (l.off_tup h1 (fun z => z))).1⟩⟩
    · exact ⟨a, e, .inr h1⟩
  | .obj c ks ds, v, h => by
    unfold Rep at h ⊢
    obtain ⟨a, dx, fs, e, h1, ho, h2, h3⟩ := h
    exact ⟨a, dx, fs, e, (l.keep a _ h1 ho).1, (l.keep a _ h1 ho).2, h2, RepL.mono l ds _ h3⟩
  | .ref k, v, h => by
    unfold Rep at h ⊢
    exact ⟨Nat.lt_of_lt_of_le h.1 l.len, by rw [l.eq k h.1]; exact h.2⟩
  | .exn c x, v, h => by
    unfold Rep at h ⊢
    obtain ⟨a, dx, w, e1, e2, e3, e4⟩ := h
    exact ⟨a, dx, w, e1, e2, (l.keep dx _ e3 (l.off_tup e3 fun z => z)).1, Rep.mono l x w e4⟩
theorem RepL.mono (l : Le r n H r' n' H') : ∀ (ds : List D) (vs : List V), RepL S r n H ds vs → RepL S r' n' H' ds vs
  | [], _, h => by simpa [RepL] using h
  | d :: ds, vs, h => by
    unfold RepL at h ⊢
    obtain ⟨v, w, e, h1, h2⟩ := h
    exact ⟨v, w, e, Rep.mono l d v h1, RepL.mono l ds w h2⟩
end
theorem Le.trans {r2 : Rho} {n2 : Nat} {H2 : Hp} (a : Le r n H r' n' H') (b : Le r' n' H' r2 n2 H2) : Le r n H r2 n2 H2 :=
  ⟨Nat.le_trans a.len b.len, fun k hk => (b.eq k (Nat.lt_of_lt_of_le hk a.len)).trans (a.eq k hk), a.liv, fun c o h ho =>
    let z := a.keep c o h ho
    b.keep c o z.1 z.2⟩
end

/-! ### lists of values -/
section
variable {S : Stat} {r : Rho} {n : Nat} {H : Hp}
theorem RepL.length : ∀ {ds : List D} {vs : List V}, RepL S r n H ds vs → ds.length = vs.length
  | [], vs, h => by unfold RepL at h; simp [h]
  | d :: ds, vs, h => by
    unfold RepL at h
    obtain ⟨v, w, rfl, _, h2⟩ := h
    simp [RepL.length h2]
theorem RepL.nil : RepL S r n H [] [] := by simp [RepL]
theorem RepL.cons {d : D} {v : V} {ds : List D} {vs : List V} (h : Rep S r n H d v) (t : RepL S r n H ds vs) : RepL S r n H (d :: ds) (v :: vs) := by
  unfold RepL
  exact ⟨v, vs, rfl, h, t⟩
theorem RepL.uncons {d : D} {v : V} {ds : List D} {vs : List V} (h : RepL S r n H (d :: ds) (v :: vs)) : Rep S r n H d v ∧ RepL S r n H ds vs := by
  unfold RepL at h
  obtain ⟨v', w, e, h1, h2⟩ := h
  cases e
  exact ⟨h1, h2⟩
theorem RepL.append : ∀ {ds es : List D} {vs ws : List V}, RepL S r n H ds vs → RepL S r n H es ws → RepL S r n H (ds ++ es) (vs ++ ws)
  | [], es, vs, ws, h, k => by
    have e : vs = [] := by unfold RepL at h; exact h
    subst e
    exact k
  | d :: ds, es, vs, ws, h, k => by
    unfold RepL at h
    obtain ⟨v, w, rfl, h1, h2⟩ := h
    exact RepL.cons h1 (RepL.append h2 k)
theorem RepL.get : ∀ {ds : List D} {vs : List V} {i : Nat} {d : D}, RepL S r n H ds vs → ds[i]? = some d → ∃ v, vs[i]? = some v ∧ Rep S r n H d v
  | [], _, _, _, _, e => by simp at e
  | d :: ds, vs, 0, x, h, e => by
    unfold RepL at h
    obtain ⟨v, w, rfl, h1, h2⟩ := h
    simp at e
    subst e
    exact ⟨v, by simp, h1⟩
  | d :: ds, vs, i + 1, x, h, e => by
    unfold RepL at h
    obtain ⟨v, w, rfl, h1, h2⟩ := h
    obtain ⟨u, e1, e2⟩ := RepL.get (i := i) h2 (by simpa using e)
    exact ⟨u, by simpa using e1, e2⟩
theorem RepL.set : ∀ {ds : List D} {vs : List V} {i : Nat} {d : D} {v : V}, RepL S r n H ds vs → Rep S r n H d v → RepL S r n H (ds.set i d) (vs.set i v)
  | [], vs, _, _, _, h, _ => by
    have e : vs = [] := by unfold RepL at h; exact h
    subst e
    simpa using h
  | d :: ds, vs, 0, x, y, h, k => by
    unfold RepL at h
    obtain ⟨v, w, rfl, h1, h2⟩ := h
    exact RepL.cons k h2
  | d :: ds, vs, i + 1, x, y, h, k => by
    unfold RepL at h
    obtain ⟨v, w, rfl, h1, h2⟩ := h
    exact RepL.cons h1 (RepL.set h2 k)
theorem RepL.take : ∀ {ds : List D} {vs : List V} (i : Nat), RepL S r n H ds vs → RepL S r n H (ds.take i) (vs.take i)
  | [], vs, i, h => by
    have e : vs = [] := by unfold RepL at h; exact h
    subst e
    simpa using h
  | d :: ds, vs, 0, h => by simpa using RepL.nil
  | d :: ds, vs, i + 1, h => by
    unfold RepL at h
    obtain ⟨v, w, rfl, h1, h2⟩ := h
    exact RepL.cons h1 (RepL.take i h2)
theorem RepL.drop : ∀ {ds : List D} {vs : List V} (i : Nat), RepL S r n H ds vs → RepL S r n H (ds.drop i) (vs.drop i)
  | [], vs, i, h => by
    have e : vs = [] := by unfold RepL at h; exact h
    subst e
    simpa using h
  | d :: ds, vs, 0, h => by simpa using h
  | d :: ds, vs, i + 1, h => by
    unfold RepL at h
    obtain ⟨v, w, rfl, h1, h2⟩ := h
    simpa using RepL.drop i h2
theorem RepL.none_of {ds : List D} {vs : List V} {i : Nat} (h : RepL S r n H ds vs) (e : ds[i]? = none) : vs[i]? = none := by
  have h1 := h.length
  have h2 := List.getElem?_eq_none_iff.mp e
  exact List.getElem?_eq_none_iff.mpr (by omega)
end

/-! ### the store -/
def CellOk (S : Stat) (r : Rho) (n : Nat) (H : Hp) (a : Addr) : Cell → Prop
  | .lst ds => ∃ xs, H a = some (.lst xs) ∧ RepL S r n H ds xs
  | .ins c ks ds => ∃ dx fs, H a = some (.ins (S.CA c) dx fs) ∧ fs.map (·.1) = ks.map S.AN ∧ RepL S r n H ds (fs.map (·.2))
  | .dK ks ds => ∃ kvs, H a = some (.dK kvs) ∧ kvs.map (·.1) = ks ∧ RepL S r n H ds (kvs.map (·.2))
  | .dT ks ds => ∃ kvs, H a = some (.dT kvs) ∧ kvs.map (·.1) = ks ∧ RepL S r n H ds (kvs.map (·.2))
structure Ok (S : Stat) (r : Rho) (st : Sto) (H : Hp) : Prop where
  inj : ∀ j k, j < st.length → k < st.length → r j = r k → j = k
  cel : ∀ k c, st[k]? = some c → CellOk S r st.length H (r k) c

section
variable {S : Stat} {r r' : Rho} {n n' : Nat} {H H' : Hp} {st : Sto}
theorem CellOk.mut {a : Addr} {c : Cell} (h : CellOk S r n H a c) : ∃ o, H a = some o ∧ MutO o := by
  cases c with
  | lst ds => obtain ⟨xs, e, _⟩ := h; exact ⟨_, e, trivial⟩
  | ins c ks ds => obtain ⟨dx, fs, e, _⟩ := h; exact ⟨_, e, trivial⟩
  | dK ks ds => obtain ⟨xs, e, _⟩ := h; exact ⟨_, e, trivial⟩
  | dT ks ds => obtain ⟨xs, e, _⟩ := h; exact ⟨_, e, trivial⟩
theorem Ok.liv (o : Ok S r st H) : ∀ k, k < st.length → ∃ o, H (r k) = some o ∧ MutO o := fun k hk =>
  (o.cel k st[k] (by simp [hk])).mut
theorem Ok.refl (o : Ok S r st H) : Le r st.length H r st.length H := ⟨Nat.le_refl _, fun _ _ => rfl, o.liv, fun _ _ h ho => ⟨h, ho⟩⟩
theorem CellOk.mono (l : Le r n H r' n' H') {a a' : Addr} {c : Cell} (h : CellOk S r n H a c) (e : ∀ o, H a = some o → H' a' = some o) : CellOk S r' n' H' a' c := by
  cases c with
  | lst ds => obtain ⟨xs, q, h⟩ := h; exact ⟨xs, e _ q, RepL.mono l _ _ h⟩
  | ins c ks ds => obtain ⟨dx, fs, q, h0, h⟩ := h; exact ⟨dx, fs, e _ q, h0, RepL.mono l _ _ h⟩
  | dK ks ds => obtain ⟨xs, q, h0, h⟩ := h; exact ⟨xs, e _ q, h0, RepL.mono l _ _ h⟩
  | dT ks ds => obtain ⟨xs, q, h0, h⟩ := h; exact ⟨xs, e _ q, h0, RepL.mono l _ _ h⟩
/-- a new object that is no cell -/
theorem Ok.fresh (o : Ok S r st H) {p : Addr} {u : HO} (hp : H p = none) : Le r st.length H r st.length (upd H p u) ∧ Ok S r st (upd H p u) := by
  have l : Le r st.length H r st.length (upd H p u) := ⟨Nat.le_refl _, fun _ _ => rfl, o.liv, fun b v h ho => ⟨by rw [upd_ne (ne_of_none h hp)]; exact h, ho⟩⟩
  exact ⟨l, o.inj, fun k c e => (o.cel k c e).mono l fun v h => by rw [upd_ne (ne_of_none h hp)]; exact h⟩
theorem Ok.off_new (o : Ok S r st H) {p : Addr} (hp : H p = none) : Off r st.length p := fun k hk e => by
  obtain ⟨u, h, _⟩ := o.liv k hk
  rw [e, hp] at h
  cases h
def ext (r : Rho) (n : Nat) (p : Addr) : Rho := fun k => if k = n then p else r k
theorem ext_lt {p : Addr} {k : Nat} (h : k < n) : ext r n p k = r k := by unfold ext; rw [if_neg (Nat.ne_of_lt h)]
theorem ext_same {p : Addr} : ext r n p n = p := by unfold ext; rw [if_pos rfl]
/-- a new cell -/
theorem Ok.alloc (o : Ok S r st H) {p : Addr} {u : HO} {c : Cell} (hp : H p = none)
    (hc : ∀ (r' : Rho) (n' : Nat) (H' : Hp), Le r st.length H r' n' H' → H' p = some u → CellOk S r' n' H' p c) :
    Le r st.length H (ext r st.length p) (st ++ [c]).length (upd H p u) ∧ Ok S (ext r st.length p) (st ++ [c]) (upd H p u) := by
  have hl : (st ++ [c]).length = st.length + 1 := by simp
  have l : Le r st.length H (ext r st.length p) (st ++ [c]).length (upd H p u) := by
    refine ⟨by omega, fun k hk => ext_lt hk, o.liv, fun b v h ho => ⟨by rw [upd_ne (ne_of_none h hp)]; exact h, fun k hk => ?_⟩⟩
    by_cases e : k = st.length
    · subst e
      rw [ext_same]
      exact (ne_of_none h hp).symm
    · rw [ext_lt (by omega)]
      exact ho k (by omega)
  refine ⟨l, fun j k hj hk e => ?_, fun k c' e => ?_⟩
  · by_cases hj' : j = st.length
    · by_cases hk' : k = st.length
      · omega
      · subst hj'
        rw [ext_same, ext_lt (by omega)] at e
        exact absurd e.symm (o.off_new hp k (by omega))
    · by_cases hk' : k = st.length
      · subst hk'
        rw [ext_same, ext_lt (by omega)] at e
        exact absurd e (o.off_new hp j (by omega))
      · rw [ext_lt (by omega), ext_lt (by omega)] at e
        exact o.inj j k (by omega) (by omega) e
  · by_cases hk : k < st.length
    · rw [List.getElem?_append_left hk] at e
      rw [ext_lt hk]
      exact (o.cel k c' e).mono l fun v h => by rw [upd_ne (ne_of_none h hp)]; exact h
    · have hk2 : k = st.length := by
        have := (List.getElem?_eq_some_iff.mp e).1
        omega
      subst hk2
      have e2 : c = c' := by simpa using e
      subst e2
      rw [ext_same]
      exact hc _ _ _ l upd_same
/-- a live cell is written -/
theorem Ok.write (o : Ok S r st H) {k : Nat} {u : HO} {c : Cell} (hk : k < st.length) (hm : MutO u)
    (hc : ∀ (H' : Hp), Le r st.length H r st.length H' → H' (r k) = some u → CellOk S r st.length H' (r k) c) :
    Le r st.length H r (st.set k c).length (upd H (r k) u) ∧ Ok S r (st.set k c) (upd H (r k) u) := by
  have hl : (st.set k c).length = st.length := by simp
  have l : Le r st.length H r st.length (upd H (r k) u) := ⟨Nat.le_refl _, fun _ _ => rfl, o.liv, fun b v h ho => ⟨by rw [upd_ne (ho k hk).symm]; exact h, ho⟩⟩
  rw [hl]
  refine ⟨l, by rw [hl]; exact o.inj, fun j c' e => ?_⟩
  rw [hl]
  by_cases hj : j = k
  · subst hj
    rw [List.getElem?_set_self hk] at e
    cases e
    exact hc _ l upd_same
  · rw [List.getElem?_set_ne (Ne.symm hj)] at e
    refine (o.cel j c' e).mono l fun v h => ?_
    rw [upd_ne]
    · exact h
    · intro z
      have := (List.getElem?_eq_some_iff.mp e).1
      exact hj (o.inj j k this hk z)
end

/-! ### slots -/
structure EnvOk (S : Stat) (r : Rho) (n : Nat) (H : Hp) (env : En) (σ : St) : Prop where
  len : env.length = σ.length
  at_ : ∀ (i : Nat) (d : D), env[i]? = some (some d) → ∃ v, σ[i]? = some (some v) ∧ Rep S r n H d v
theorem EnvOk.mono {S : Stat} {r r' : Rho} {n n' : Nat} {H H' : Hp} {env : En} {σ : St} (l : Le r n H r' n' H') (h : EnvOk S r n H env σ) : EnvOk S r' n' H' env σ :=
  ⟨h.len, fun i d e => let ⟨v, a, b⟩ := h.at_ i d e; ⟨v, a, Rep.mono l _ _ b⟩⟩
theorem EnvOk.set {S : Stat} {r : Rho} {n : Nat} {H : Hp} {env : En} {σ : St} (h : EnvOk S r n H env σ) {i : Nat} {d : D} {v : V} (hr : Rep S r n H d v) : EnvOk S r n H (env.set i (some d)) (σ.set i (some v)) := by
  refine ⟨by simp [h.len], fun j d' e => ?_⟩
  by_cases hj : i = j
  · subst hj
    by_cases hl : i < env.length
    · rw [List.getElem?_set_self hl] at e
      cases e
      exact ⟨v, by rw [List.getElem?_set_self (by rw [← h.len]; exact hl)], hr⟩
    · rw [List.getElem?_eq_none (by simp; omega)] at e
      cases e
  · rw [List.getElem?_set_ne hj] at e
    rw [List.getElem?_set_ne hj]
    exact h.at_ j d' e
theorem EnvOk.unset {S : Stat} {r : Rho} {n : Nat} {H : Hp} {env : En} {σ : St} (h : EnvOk S r n H env σ) {i : Nat} : EnvOk S r n H (env.set i none) (σ.set i none) := by
  refine ⟨by simp [h.len], fun j d' e => ?_⟩
  by_cases hj : i = j
  · subst hj
    by_cases hl : i < env.length
    · rw [List.getElem?_set_self hl] at e
      cases e
    · rw [List.getElem?_eq_none (by simp; omega)] at e
      cases e
  · rw [List.getElem?_set_ne hj] at e
    rw [List.getElem?_set_ne hj]
    exact h.at_ j d' e

/-! ### readings by functions -/
abbrev EM (α : Type) := En → Sto → Res α
/-- what is wanted behind a result -/
def End (S : Stat) {α β : Type} (R : Rho → Nat → Hp → α → β → Prop) (W : WX) (σ : St) (r : Rho) (n : Nat) (H : Hp) (Q : β → Hp → Prop) : Res α → Prop
  | .ok a st' => ∀ r' H' v, Le r n H r' st'.length H' → Ok S r' st' H' → R r' st'.length H' a v → Q v H'
  | .exc c d st' => ∀ r' H' dx v, Le r n H r' st'.length H' → Ok S r' st' H' → H' dx = some (.xd [(S.EN c, v)]) → Rep S r' st'.length H' d v → W (.ref (S.CA c)) (some dx) σ H'
  | .bad => False
def rd (S : Stat) {α β : Type} (R : Rho → Nat → Hp → α → β → Prop) (W : WX) (f : EM α) : St → Hp → (β → Hp → Prop) → Prop := fun σ H Q =>
  ∃ r env st, Ok S r st H ∧ EnvOk S r st.length H env σ ∧ End S R W σ r st.length H Q (f env st)
def RB : Rho → Nat → Hp → Bool → Bool → Prop := fun _ _ _ a b => b = a
abbrev rdE (S : Stat) (W : WX) (f : EM D) : TE := rd S (Rep S) W f
abbrev rdB (S : Stat) (W : WX) (f : EM Bool) : TT := rd S RB W f
abbrev rdA (S : Stat) (W : WX) (f : EM (List D)) : TA := rd S (RepL S) W f

theorem End.le {S : Stat} {α β : Type} {R : Rho → Nat → Hp → α → β → Prop} {W : WX} {σ : St} {r r1 : Rho} {n n1 : Nat} {H H1 : Hp} {Q : β → Hp → Prop} {x : Res α} (l : Le r n H r1 n1 H1) (h : End S R W σ r n H Q x) : End S R W σ r1 n1 H1 Q x := by
  cases x with
  | ok a st => exact fun r' H' v l' o => h r' H' v (l.trans l') o
  | exc c d st => exact fun r' H' dx v l' o => h r' H' dx v (l.trans l') o
  | bad => exact h
theorem End.imp {S : Stat} {α β : Type} {R : Rho → Nat → Hp → α → β → Prop} {W : WX} {σ : St} {r : Rho} {n : Nat} {H : Hp} {Q Q' : β → Hp → Prop} {x : Res α} (h : End S R W σ r n H Q x) (q : ∀ v H, Q v H → Q' v H) : End S R W σ r n H Q' x := by
  cases x with
  | ok a st => exact fun r' H' v l' o h' => q _ _ (h r' H' v l' o h')
  | exc c d st => exact h
  | bad => exact h
/-- the first of two in a row: what is left is told behind it -/
theorem End.bind {S : Stat} {α β γ δ : Type} {R : Rho → Nat → Hp → α → β → Prop} {R2 : Rho → Nat → Hp → γ → δ → Prop} {W : WX} {σ : St} {r : Rho} {n : Nat} {H : Hp} {Q : δ → Hp → Prop} {Q' : β → Hp → Prop} {x : Res α} {g : α → Sto → Res γ}
    (h : End S R2 W σ r n H Q (x.bind g)) (k : ∀ a st1 r1 H1 v, Le r n H r1 st1.length H1 → Ok S r1 st1 H1 → R r1 st1.length H1 a v → End S R2 W σ r1 st1.length H1 Q (g a st1) → Q' v H1) : End S R W σ r n H Q' x := by
  cases x with
  | ok a st =>
    intro r1 H1 v l o hr
    exact k a st r1 H1 v l o hr (End.le l h)
  | exc c d st => exact h
  | bad => exact h

theorem PE.weak {X : Cx} {e : Expr} {t t' : TE} (h : PE X e t) (k : ∀ σ H Q, t' σ H Q → t σ H Q) : PE X e t' := ⟨fun pins s σ H Q I q => h.run pins s σ H Q I (k σ H Q q)⟩
theorem PT.weak {X : Cx} {e : Expr} {t t' : TT} (h : PT X e t) (k : ∀ σ H Q, t' σ H Q → t σ H Q) : PT X e t' := ⟨fun pins s σ H Q I q => h.run pins s σ H Q I (k σ H Q q)⟩
theorem PW.weak {X : Cx} {e : Expr} {t t' : TT} (h : PW X e t) (k : ∀ σ H Q, t' σ H Q → t σ H Q) : PW X e t' := ⟨fun wh pins s σ H Q I q => h.run wh pins s σ H Q I (k σ H Q q)⟩
theorem PA.weak {X : Cx} {e : List Expr} {t t' : TA} (h : PA X e t) (k : ∀ σ H Q, t' σ H Q → t σ H Q) : PA X e t' := ⟨fun pos pins s σ H Q I q => h.run pos pins s σ H Q I (k σ H Q q)⟩
theorem PS.weak {X : Cx} {e : Stmt} {t t' : TS} (h : PS X e t) (k : ∀ σ H D, t' D σ H → t D σ H) : PS X e t' := ⟨fun pins s σ H Q I q => h.run pins s σ H Q I (k σ H Q q)⟩
theorem PSs.weak {X : Cx} {e : List Stmt} {t t' : TS} (h : PSs X e t) (k : ∀ σ H D, t' D σ H → t D σ H) : PSs X e t' := ⟨fun pins s σ H Q I q => h.run pins s σ H Q I (k σ H Q q)⟩
theorem OpR.weak {X : Cx} {f : Value → Value → Sem Value} {t t' : R2} (h : OpR X f t) (k : ∀ x y H Q, t' x y H Q → t x y H Q) : OpR X f t' := fun pins s σ H x y v u Q I rx ry q => h pins s σ H x y v u Q I rx ry (k _ _ _ _ q)

/-! ### names, constants -/
section
variable {S : Stat} {W : WX} {X : Cx}
def mVar (i : Nat) : EM D := fun env st => match env[i]? with
  | some (some d) => .ok d st
  | _ => .bad
def mC (d : D) : EM D := fun _ st => .ok d st
theorem md_var {i : Nat} : ∀ σ H Q, rdE S W (mVar i) σ H Q → tVar i σ H Q := fun σ H Q h => by
  obtain ⟨r, env, st, o, eo, h⟩ := h
  unfold mVar at h
  split at h
  · rename_i d e
    obtain ⟨v, e1, e2⟩ := eo.at_ i d e
    exact ⟨v, e1, h r H v o.refl o e2⟩
  · exact h.elim
theorem e_var (i : Nat) {x : Str} {pos : Pos} (hN : X.N[i]? = some x := by rfl) (hv : Vis X.env.scope x := by first | exact Or.inl rfl | exact Or.inr (Or.inl rfl) | exact Or.inr (Or.inr rfl)) (hd : (x == ("__debug__" : Str)) = false := by decide)
    (hcd : (x == ("__classdict__" : Str)) = false := by decide) : PE X (.Name x pos) (rdE S W (mVar i)) := PE.weak (pv i hN hv hd hcd) md_var
theorem md_c {d : D} {v : V} (hr : ∀ r n H, Rep S r n H d v) : ∀ σ H Q, rdE S W (mC d) σ H Q → Q v H := fun σ H Q h => by
  obtain ⟨r, env, st, o, eo, h⟩ := h
  exact h r H v o.refl o (hr _ _ _)
theorem e_int {i : Int} {k pos} : PE X (.Constant (.int i) k pos) (rdE S W (mC (.int i))) := PE.weak pe_int (md_c fun _ _ _ => by simp [Rep])
theorem e_str {x k pos} : PE X (.Constant (.str x) k pos) (rdE S W (mC (.str x))) := PE.weak pe_str (md_c fun _ _ _ => by simp [Rep])
theorem e_bl {b k pos} : PE X (.Constant (.bool b) k pos) (rdE S W (mC (.bl b))) := PE.weak pe_bl (md_c fun _ _ _ => by simp [Rep])
theorem e_non {k pos} : PE X (.Constant .none k pos) (rdE S W (mC .non)) := PE.weak pe_non (md_c fun _ _ _ => by simp [Rep])
end
end Cw

/-! Operators, tests, displays, subscripts over plain data. -/
namespace Cw
open PySem L2

abbrev O2 := D → D → Sto → Option (D × Sto)
def pu (f : D → D → Option D) : O2 := fun a b st => match f a b with
  | some d => some (d, st)
  | none => none
/-- what is wanted behind a step that raises nothing -/
def EndO (S : Stat) (r : Rho) (n : Nat) (H : Hp) (Q : VK) : Option (D × Sto) → Prop
  | some (d, st') => ∀ r' H' v, Le r n H r' st'.length H' → Ok S r' st' H' → Rep S r' st'.length H' d v → Q v H'
  | none => False
def r2 (S : Stat) (op : O2) : R2 := fun x y H Q => ∃ r st a b, Ok S r st H ∧ Rep S r st.length H a x ∧ Rep S r st.length H b y ∧ EndO S r st.length H Q (op a b st)
def lift {α : Type} (x : Option (α × Sto)) : Res α := match x with
  | some (d, st) => .ok d st
  | none => .bad
def mBin (op : O2) (fa fb : EM D) : EM D := fun env st => (fa env st).bind fun a st1 => (fb env st1).bind fun b st2 => lift (op a b st2)
def mUn (op : D → Option D) (fa : EM D) : EM D := fun env st => (fa env st).bind fun a st1 => match op a with
  | some d => .ok d st1
  | none => .bad
theorem End.lift {S : Stat} {W : WX} {σ : St} {r : Rho} {n : Nat} {H : Hp} {Q : VK} {x : Option (D × Sto)} (h : End S (Rep S) W σ r n H Q (lift x)) : EndO S r n H Q x := by
  cases x with
  | none => exact h
  | some p => exact h

section
variable {S : Stat} {W : WX} {X : Cx} {a b c : Expr} {fa fb fc : EM D} {op : O2} {pos : Pos}
theorem md_bin : ∀ σ H Q, rdE S W (mBin op fa fb) σ H Q → tOp (r2 S op) (rdE S W fa) (rdE S W fb) σ H Q := fun σ H Q h => by
  obtain ⟨r, env, st, o, eo, h⟩ := h
  refine ⟨r, env, st, o, eo, End.bind h fun da st1 r1 H1 x l1 o1 rx h1 => ⟨r1, env, st1, o1, eo.mono l1, End.bind h1 fun db st2 r2 H2 y l2 o2 ry h2 => ?_⟩⟩
  exact ⟨r2, st2, da, db, o2, Rep.mono l2 _ _ rx, ry, h2.lift⟩
theorem e_bin {o : Operator} (ho : OpR X (binaryOp o) (r2 S op)) (ha : PE X a (rdE S W fa)) (hb : PE X b (rdE S W fb)) : PE X (.BinOp a o b pos) (rdE S W (mBin op fa fb)) := PE.weak (pe_op ho ha hb) md_bin
theorem e_cmp {o : CmpOp} (ho : OpR X (compareOp o) (r2 S op)) (ha : PE X a (rdE S W fa)) (hb : PE X b (rdE S W fb)) (hm : behindInMarks o b = false := by first | exact nomark _ | rfl) : PE X (.Compare a [o] [b] pos) (rdE S W (mBin op fa fb)) :=
  PE.weak (pe_cmpR ho ha hb hm) md_bin
/-- a value that is a bool, as a test -/
def mT (f : EM D) : EM Bool := fun env st => (f env st).bind fun a st1 => match a with
  | .bl b => .ok b st1
  | _ => .bad
theorem md_T {t : TE} (k : ∀ σ H Q, rdE S W fa σ H Q → t σ H Q) : ∀ σ H Q, rdB S W (mT fa) σ H Q → tTest t σ H Q := fun σ H Q h => by
  obtain ⟨r, env, st, o, eo, h⟩ := h
  refine k σ H _ ⟨r, env, st, o, eo, End.bind h fun da st1 r1 H1 x l1 o1 rx h1 => ?_⟩
  cases da with
  | bl b =>
    unfold Rep at rx
    exact ⟨b, rx, h1 r1 H1 b o1.refl o1 rfl⟩
  | _ => exact h1.elim
theorem t_cmp {o : CmpOp} (ho : OpR X (compareOp o) (r2 S op)) (ha : PE X a (rdE S W fa)) (hb : PE X b (rdE S W fb)) (hm : behindInMarks o b = false := by first | exact nomark _ | rfl) : PT X (.Compare a [o] [b] pos) (rdB S W (mT (mBin op fa fb))) :=
  PT.weak (pt_cmpR ho ha hb hm) (md_T md_bin)
theorem t_val {e : Expr} (h : PE X e (rdE S W fa)) (he : ∀ whole, isTrue e X.env whole = (do let v ← whole; standAt e.pos; holding [v] (truthy v)) := by intro _; rfl) : PT X e (rdB S W (mT fa)) :=
  PT.weak (pt_val h he) (md_T fun _ _ _ h => h)
/-- and, or, not of tests -/
def mAndT (f g : EM Bool) : EM Bool := fun env st => (f env st).bind fun c st1 => if c = true then g env st1 else .ok false st1
def mOrT (f g : EM Bool) : EM Bool := fun env st => (f env st).bind fun c st1 => if c = true then .ok true st1 else g env st1
def mNotT (f : EM Bool) : EM Bool := fun env st => (f env st).bind fun c st1 => .ok (!c) st1
section
variable {ga gb : EM Bool} {rest : List Expr}
theorem md_and : ∀ σ H Q, rdB S W (mAndT ga gb) σ H Q → tAnd (rdB S W ga) (rdB S W gb) σ H Q := fun σ H Q h => by
  obtain ⟨r, env, st, o, eo, h⟩ := h
  refine ⟨r, env, st, o, eo, End.bind h fun c st1 r1 H1 x l1 o1 rx h1 => ?_⟩
  obtain rfl : x = c := rx
  cases x with
  | true => exact iteT ⟨r1, env, st1, o1, eo.mono l1, h1⟩
  | false => exact iteF (h1 r1 H1 false o1.refl o1 rfl)
theorem md_or : ∀ σ H Q, rdB S W (mOrT ga gb) σ H Q → tOr (rdB S W ga) (rdB S W gb) σ H Q := fun σ H Q h => by
  obtain ⟨r, env, st, o, eo, h⟩ := h
  refine ⟨r, env, st, o, eo, End.bind h fun c st1 r1 H1 x l1 o1 rx h1 => ?_⟩
  obtain rfl : x = c := rx
  cases x with
  | true => exact iteT (h1 r1 H1 true o1.refl o1 rfl)
  | false => exact iteF ⟨r1, env, st1, o1, eo.mono l1, h1⟩
theorem md_not : ∀ σ H Q, rdB S W (mNotT ga) σ H Q → tNot (rdB S W ga) σ H Q := fun σ H Q h => by
  obtain ⟨r, env, st, o, eo, h⟩ := h
  refine ⟨r, env, st, o, eo, End.bind h fun c st1 r1 H1 x l1 o1 rx h1 => ?_⟩
  obtain rfl : x = c := rx
  exact h1 r1 H1 (!x) o1.refl o1 rfl
theorem w_and1 (ha : PT X a (rdB S W ga)) : PW X (.BoolOp .And [a] pos) (rdB S W ga) := pw_and1 ha
theorem w_or1 (ha : PT X a (rdB S W ga)) : PW X (.BoolOp .Or [a] pos) (rdB S W ga) := pw_or1 ha
theorem w_and (ha : PT X a (rdB S W ga)) (hb : PW X (.BoolOp .And (b :: rest) pos) (rdB S W gb)) : PW X (.BoolOp .And (a :: b :: rest) pos) (rdB S W (mAndT ga gb)) := PW.weak (pw_and ha hb) md_and
theorem w_or (ha : PT X a (rdB S W ga)) (hb : PW X (.BoolOp .Or (b :: rest) pos) (rdB S W gb)) : PW X (.BoolOp .Or (a :: b :: rest) pos) (rdB S W (mOrT ga gb)) := PW.weak (pw_or ha hb) md_or
theorem t_not (ha : PT X a (rdB S W ga)) : PT X (.UnaryOp .Not a pos) (rdB S W (mNotT ga)) := PT.weak (pt_not ha) md_not
end
/-- .. as values: all but the last are bools -/
def mAnd (f g : EM D) : EM D := fun env st => (f env st).bind fun c st1 => match c with
  | .bl true => g env st1
  | .bl false => .ok (.bl false) st1
  | _ => .bad
def mOr (f g : EM D) : EM D := fun env st => (f env st).bind fun c st1 => match c with
  | .bl true => .ok (.bl true) st1
  | .bl false => g env st1
  | _ => .bad
def mNot (f : EM D) : EM D := fun env st => (f env st).bind fun c st1 => match c with
  | .bl b => .ok (.bl (!b)) st1
  | _ => .bad
theorem rep_bl {r : Rho} {n : Nat} {H : Hp} {b : Bool} : Rep S r n H (.bl b) (.bl b) := by simp [Rep]
theorem rep_int {r : Rho} {n : Nat} {H : Hp} {i : Int} : Rep S r n H (.int i) (.int i) := by simp [Rep]
theorem rep_str {r : Rho} {n : Nat} {H : Hp} {i : Str} : Rep S r n H (.str i) (.str i) := by simp [Rep]
theorem rep_non {r : Rho} {n : Nat} {H : Hp} : Rep S r n H .non .non := by simp [Rep]
theorem md_andV : ∀ σ H Q, rdE S W (mAnd fa fb) σ H Q → tAndV (rdE S W fa) (rdE S W fb) σ H Q := fun σ H Q h => by
  obtain ⟨r, env, st, o, eo, h⟩ := h
  refine ⟨r, env, st, o, eo, End.bind h fun c st1 r1 H1 x l1 o1 rx h1 => ?_⟩
  cases c with
  | bl b =>
    unfold Rep at rx
    refine ⟨b, rx, ?_⟩
    cases b with
    | true => exact iteT ⟨r1, env, st1, o1, eo.mono l1, h1⟩
    | false => exact iteF (h1 r1 H1 _ o1.refl o1 rep_bl)
  | _ => exact h1.elim
theorem md_orV : ∀ σ H Q, rdE S W (mOr fa fb) σ H Q → tOrV (rdE S W fa) (rdE S W fb) σ H Q := fun σ H Q h => by
  obtain ⟨r, env, st, o, eo, h⟩ := h
  refine ⟨r, env, st, o, eo, End.bind h fun c st1 r1 H1 x l1 o1 rx h1 => ?_⟩
  cases c with
  | bl b =>
    unfold Rep at rx
    refine ⟨b, rx, ?_⟩
    cases b with
    | true => exact iteT (h1 r1 H1 _ o1.refl o1 rep_bl)
    | false => exact iteF ⟨r1, env, st1, o1, eo.mono l1, h1⟩
  | _ => exact h1.elim
theorem md_notV : ∀ σ H Q, rdE S W (mNot fa) σ H Q → tNotV (rdE S W fa) σ H Q := fun σ H Q h => by
  obtain ⟨r, env, st, o, eo, h⟩ := h
  refine ⟨r, env, st, o, eo, End.bind h fun c st1 r1 H1 x l1 o1 rx h1 => ?_⟩
  cases c with
  | bl b =>
    unfold Rep at rx
    exact ⟨b, rx, h1 r1 H1 _ o1.refl o1 rep_bl⟩
  | _ => exact h1.elim
section
variable {rest : List Expr}
theorem e_one {o} (h : PE X a (rdE S W fa)) : PE X (.BoolOp o [a] pos) (rdE S W fa) := pe_one h
theorem e_and (ha : PE X a (rdE S W fa)) (hb : PE X (.BoolOp .And (b :: rest) pos) (rdE S W fb)) : PE X (.BoolOp .And (a :: b :: rest) pos) (rdE S W (mAnd fa fb)) := PE.weak (pe_and ha hb) md_andV
theorem e_or (ha : PE X a (rdE S W fa)) (hb : PE X (.BoolOp .Or (b :: rest) pos) (rdE S W fb)) : PE X (.BoolOp .Or (a :: b :: rest) pos) (rdE S W (mOr fa fb)) := PE.weak (pe_or ha hb) md_orV
theorem e_not (ha : PE X a (rdE S W fa)) : PE X (.UnaryOp .Not a pos) (rdE S W (mNot fa)) := PE.weak (pe_not ha) md_notV
end
def mIf (t : EM Bool) (f g : EM D) : EM D := fun env st => (t env st).bind fun c st1 => if c = true then f env st1 else g env st1
theorem e_if {t : Expr} {ft : EM Bool} (ht : PT X t (rdB S W ft)) (ha : PE X a (rdE S W fa)) (hb : PE X b (rdE S W fb)) : PE X (.IfExp t a b pos) (rdE S W (mIf ft fa fb)) := PE.weak (pe_ifExp ht ha hb) fun σ H Q h => by
  obtain ⟨r, env, st, o, eo, h⟩ := h
  refine ⟨r, env, st, o, eo, End.bind h fun c st1 r1 H1 x l1 o1 rx h1 => ?_⟩
  obtain rfl : x = c := rx
  cases x with
  | true => exact iteT ⟨r1, env, st1, o1, eo.mono l1, h1⟩
  | false => exact iteF ⟨r1, env, st1, o1, eo.mono l1, h1⟩

/-! ### displays -/
def mNil : EM (List D) := fun _ st => .ok [] st
def mCons (f : EM D) (g : EM (List D)) : EM (List D) := fun env st => (f env st).bind fun a st1 => (g env st1).bind fun l st2 => .ok (a :: l) st2
theorem a_nil : PA X [] (rdA S W mNil) := PA.weak pa_nil fun σ H Q h => by
  obtain ⟨r, env, st, o, eo, h⟩ := h
  exact h r H [] o.refl o RepL.nil
theorem a_cons {es : List Expr} {g : EM (List D)} (ha : PE X a (rdE S W fa)) (hr : PA X es (rdA S W g)) (hs : starEach (a :: es) X.env = (false, eval a X.env) :: starEach es X.env := by rfl) : PA X (a :: es) (rdA S W (mCons fa g)) := PA.weak (pa_cons ha hr hs) fun σ H Q h => by
  obtain ⟨r, env, st, o, eo, h⟩ := h
  refine ⟨r, env, st, o, eo, End.bind h fun c st1 r1 H1 x l1 o1 rx h1 => ⟨r1, env, st1, o1, eo.mono l1, End.bind h1 fun cs st2 r2 H2 xs l2 o2 rxs h2 => ?_⟩⟩
  exact h2 r2 H2 _ o2.refl o2 (RepL.cons (Rep.mono l2 _ _ rx) rxs)
/-- a size that the lists keep -/
def LIM : Nat := 16777216
theorem lim_ok {n : Nat} (h : n ≤ LIM) : n ≤ sizeLine := by rw [sizeLine_eq]; exact h
theorem lim_lt {n : Nat} (h : n < LIM) : n < sizeLine := by rw [sizeLine_eq]; exact h
def mTup (g : EM (List D)) : EM D := fun env st => (g env st).bind fun l st1 => if l.length ≤ LIM then .ok (.tup l) st1 else .bad
/-- a list: data that nobody changes, or (cell) a live cell -/
def mkL (cell : Bool) (l : List D) (st : Sto) : D × Sto := if cell then (.ref st.length, st ++ [.lst l]) else (.lst l, st)
def mLst (cell : Bool) (g : EM (List D)) : EM D := fun env st => (g env st).bind fun l st1 => if l.length ≤ LIM then .ok (mkL cell l st1).1 (mkL cell l st1).2 else .bad
theorem new_tup {r : Rho} {st : Sto} {H : Hp} {l : List D} {xs : List V} {p : Addr} (o : Ok S r st H) (h : RepL S r st.length H l xs) (hp : H p = none) :
    Le r st.length H r st.length (upd H p (.tup xs)) ∧ Ok S r st (upd H p (.tup xs)) ∧ Rep S r st.length (upd H p (.tup xs)) (.tup l) (.ref p) := by
  obtain ⟨l1, o1⟩ := o.fresh (u := .tup xs) hp
  refine ⟨l1, o1, ?_⟩
  unfold Rep
  exact ⟨p, xs, rfl, upd_same, RepL.mono l1 _ _ h⟩
theorem new_lst {r : Rho} {st : Sto} {H : Hp} {l : List D} {xs : List V} {p : Addr} (o : Ok S r st H) (h : RepL S r st.length H l xs) (hp : H p = none) :
    Le r st.length H r st.length (upd H p (.lst xs)) ∧ Ok S r st (upd H p (.lst xs)) ∧ Rep S r st.length (upd H p (.lst xs)) (.lst l) (.ref p) := by
  obtain ⟨l1, o1⟩ := o.fresh (u := .lst xs) hp
  refine ⟨l1, o1, ?_⟩
  unfold Rep
  exact ⟨p, xs, rfl, upd_same, o.off_new hp, RepL.mono l1 _ _ h⟩
theorem new_cel {r : Rho} {st : Sto} {H : Hp} {l : List D} {xs : List V} {p : Addr} (o : Ok S r st H) (h : RepL S r st.length H l xs) (hp : H p = none) :
    Le r st.length H (ext r st.length p) (st ++ [Cell.lst l]).length (upd H p (.lst xs)) ∧ Ok S (ext r st.length p) (st ++ [Cell.lst l]) (upd H p (.lst xs)) ∧ Rep S (ext r st.length p) (st ++ [Cell.lst l]).length (upd H p (.lst xs)) (.ref st.length) (.ref p) := by
  obtain ⟨l1, o1⟩ := o.alloc (u := .lst xs) (c := .lst l) hp fun r' n' H' l' e => ⟨xs, e, RepL.mono l' _ _ h⟩
  refine ⟨l1, o1, ?_⟩
  unfold Rep
  exact ⟨by simp, by rw [ext_same]⟩
theorem new_mk {r : Rho} {st : Sto} {H : Hp} {l : List D} {xs : List V} {p : Addr} {cell : Bool} (o : Ok S r st H) (h : RepL S r st.length H l xs) (hp : H p = none) :
    ∃ r', Le r st.length H r' (mkL cell l st).2.length (upd H p (.lst xs)) ∧ Ok S r' (mkL cell l st).2 (upd H p (.lst xs)) ∧ Rep S r' (mkL cell l st).2.length (upd H p (.lst xs)) (mkL cell l st).1 (.ref p) := by
  cases cell with
  | true => exact ⟨_, new_cel o h hp⟩
  | false => exact ⟨_, new_lst o h hp⟩
theorem e_tup {es : List Expr} {g : EM (List D)} {k} (h : PA X es (rdA S W g)) : PE X (.Tuple es k pos) (rdE S W (mTup g)) := PE.weak (pe_tup h) fun σ H Q h => by
  obtain ⟨r, env, st, o, eo, h⟩ := h
  refine ⟨r, env, st, o, eo, End.bind h fun l st1 r1 H1 xs l1 o1 rx h1 => ?_⟩
  split at h1
  · rename_i hl
    refine ⟨by rw [← rx.length]; exact lim_ok hl, fun p hp => ?_⟩
    obtain ⟨a1, a2, a3⟩ := new_tup o1 rx hp
    exact h1 r1 _ _ a1 a2 a3
  · exact h1.elim
theorem e_lst (cell : Bool) {es : List Expr} {g : EM (List D)} (h : PA X es (rdA S W g)) : PE X (.List es pos) (rdE S W (mLst cell g)) := PE.weak (pe_lst h) fun σ H Q h => by
  obtain ⟨r, env, st, o, eo, h⟩ := h
  refine ⟨r, env, st, o, eo, End.bind h fun l st1 r1 H1 xs l1 o1 rx h1 => ?_⟩
  split at h1
  · rename_i hl
    refine ⟨by rw [← rx.length]; exact lim_ok hl, fun p hp => ?_⟩
    obtain ⟨r', a1, a2, a3⟩ := new_mk (cell := cell) o1 rx hp
    exact h1 r' _ _ a1 a2 a3
  · exact h1.elim
end
end Cw

/-! The operators by values. -/
namespace Cw
open PySem L2

/-- a list that may be read: a frozen one, a live cell, the script -/
def seqW (st : Sto) : D → Option (List D)
  | .lst ds => some ds
  | .ref k => match st[k]? with
    | some (.lst ds) => some ds
    | _ => none
  | _ => none
def seqR (st : Sto) : D → Option (List D)
  | .scr ns => some (ns.map D.int)
  | d => seqW st d
section
variable {S : Stat} {r : Rho} {st : Sto} {H : Hp}
theorem seqW_ok (o : Ok S r st H) {d : D} {v : V} {ds : List D} (h : Rep S r st.length H d v) (e : seqW st d = some ds) : ∃ a xs, v = .ref a ∧ H a = some (.lst xs) ∧ RepL S r st.length H ds xs := by
  cases d with
  | lst es =>
    cases e
    unfold Rep at h
    obtain ⟨a, xs, e1, e2, _, e3⟩ := h
    exact ⟨a, xs, e1, e2, e3⟩
  | ref k =>
    unfold Rep at h
    cases q : st[k]? with
    | none => simp [seqW, q] at e
    | some c =>
      cases c with
      | lst es =>
        simp only [seqW, q] at e
        cases e
        obtain ⟨xs, e1, e2⟩ := o.cel k _ q
        exact ⟨_, xs, h.2, e1, e2⟩
      | _ => simp [seqW, q] at e
  | _ => cases e
theorem repL_ints {n : Nat} : ∀ ns : List Int, RepL S r n H (ns.map D.int) (ns.map V.int)
  | [] => RepL.nil
  | i :: ns => RepL.cons rep_int (repL_ints ns)
theorem seqR_ok (o : Ok S r st H) {d : D} {v : V} {ds : List D} (h : Rep S r st.length H d v) (e : seqR st d = some ds) : ∃ a xs, v = .ref a ∧ SqL S.K H a xs ∧ RepL S r st.length H ds xs := by
  cases d with
  | scr ns =>
    cases e
    unfold Rep at h
    obtain ⟨a, e1, e2⟩ := h
    exact ⟨a, _, e1, e2.sql, repL_ints ns⟩
  | lst es =>
    obtain ⟨a, xs, e1, e2, e3⟩ := seqW_ok o h e
    exact ⟨a, xs, e1, SqL.of e2, e3⟩
  | ref k =>
    obtain ⟨a, xs, e1, e2, e3⟩ := seqW_ok o h e
    exact ⟨a, xs, e1, SqL.of e2, e3⟩
  | _ => cases e

/-! ### as the library's data -/
mutual
def toPy : D → Option PyData
  | .non => some .none
  | .bl b => some (.bool b)
  | .int i => some (.int i)
  | .str x => some (.str x)
  | .tup ds => match toPyL ds with
    | some ps => some (.tuple ps)
    | none => none
  | .lst ds => match toPyL ds with
    | some ps => some (.list ps)
    | none => none
  | .scr _ => none
  | .obj _ _ _ => none
  | .ref _ => none
  | .exn _ _ => none
def toPyL : List D → Option (List PyData)
  | [] => some []
  | d :: ds => match toPy d, toPyL ds with
    | some p, some ps => some (p :: ps)
    | _, _ => none
end
mutual
theorem dp_of {n : Nat} : ∀ (d : D) (v : V) (p : PyData), Rep S r n H d v → toPy d = some p → Dp S.K H v p
  | .non, v, p, h, e => by
    unfold Rep at h
    unfold toPy at e
    cases e
    subst h
    exact .non
  | .bl b, v, p, h, e => by
    unfold Rep at h
    unfold toPy at e
    cases e
    subst h
    exact .bl b
  | .int b, v, p, h, e => by
    unfold Rep at h
    unfold toPy at e
    cases e
    subst h
    exact .int b
  | .str b, v, p, h, e => by
    unfold Rep at h
    unfold toPy at e
    cases e
    subst h
    exact .str b
  | .tup ds, v, p, h, e => by
    unfold Rep at h
    obtain ⟨a, xs, rfl, h1, h2⟩ := h
    unfold toPy at e
    split at e
    · rename_i ps q
      cases e
      exact .tup (sqT_of h1) (dpL_of ds xs ps h2 q)
    · cases e
  | .lst ds, v, p, h, e => by
    unfold Rep at h
    obtain ⟨a, xs, rfl, h1, _, h2⟩ := h
    unfold toPy at e
    split at e
    · rename_i ps q
      cases e
      exact .lst (SqL.of h1) (dpL_of ds xs ps h2 q)
    · cases e
  | .scr _, v, p, h, e => by unfold toPy at e; cases e
  | .obj _ _ _, v, p, h, e => by unfold toPy at e; cases e
  | .ref _, v, p, h, e => by unfold toPy at e; cases e
  | .exn _ _, v, p, h, e => by unfold toPy at e; cases e
theorem dpL_of {n : Nat} : ∀ (ds : List D) (vs : List V) (ps : List PyData), RepL S r n H ds vs → toPyL ds = some ps → DpAll S.K H vs ps
  | [], vs, ps, h, e => by
    unfold RepL at h
    unfold toPyL at e
    cases e
    subst h
    exact .nil
  | d :: ds, vs, ps, h, e => by
    unfold RepL at h
    obtain ⟨v, w, rfl, h1, h2⟩ := h
    unfold toPyL at e
    split at e
    · rename_i p qs e1 e2
      cases e
      exact .cons (dp_of d v p h1 e1) (dpL_of ds w qs h2 e2)
    · cases e
end
/-- one live list is followed -/
def pyOf (st : Sto) (d : D) : Option PyData := match d with
  | .ref _ => match seqW st d with
    | some ds => match toPyL ds with
      | some ps => some (.list ps)
      | none => none
    | none => none
  | d => toPy d
theorem pyOf_ok (o : Ok S r st H) {d : D} {v : V} {p : PyData} (h : Rep S r st.length H d v) (e : pyOf st d = some p) : Dp S.K H v p := by
  cases d with
  | ref k =>
    unfold pyOf at e
    split at e
    · split at e
      · rename_i es q
        split at e
        · rename_i ps q2
          cases e
          obtain ⟨a, xs, rfl, h2, h3⟩ := seqW_ok o h q
          exact .lst (SqL.of h2) (dpL_of _ _ _ h3 q2)
        · cases e
      · cases e
    · rename_i hx
      exact (hx k rfl).elim
  | _ => exact dp_of _ _ _ h e
end

/-! ### + - * // % ** -/
def oAdd (cell : Bool) : O2 := fun a b st => match a, b with
  | .int i, .int j => some (.int (i + j), st)
  | .str x, .str y => if x.length + y.length ≤ LIM then some (.str (x ++ y), st) else none
  | .tup xs, .tup ys => if xs.length + ys.length ≤ LIM then some (.tup (xs ++ ys), st) else none
  | a, b => match seqW st a, seqW st b with
    | some xs, some ys => if xs.length + ys.length ≤ LIM then some (mkL cell (xs ++ ys) st) else none
    | _, _ => none
def oSub : O2 := pu fun a b => match a, b with
  | .int i, .int j => some (.int (i - j))
  | _, _ => none
def small64 (i : Int) : Bool := decide (i.natAbs < 18446744073709551616)
theorem small64_iff {i : Int} : small64 i = true ↔ -(2 ^ 64) < i ∧ i < 2 ^ 64 := by
  unfold small64
  rw [decide_eq_true_eq]
  omega
def oFdiv : O2 := pu fun a b => match a, b with
  | .int i, .int j => if 0 < j ∧ j < 1073741824 then some (.int (i / j)) else none
  | _, _ => none
def oMod : O2 := pu fun a b => match a, b with
  | .int i, .int j => if 0 < j then some (.int (i % j)) else none
  | _, _ => none
def oPow : O2 := pu fun a b => match a, b with
  | .int i, .int j => if 0 ≤ j ∧ j ≤ 1000000 ∧ i.natAbs < 2 ^ 64 then some (.int (i ^ j.toNat)) else none
  | _, _ => none
section
variable {S : Stat} {X : Cx}
theorem end_ok {r : Rho} {st : Sto} {H : Hp} {Q : VK} {d : D} {v : V} (o : Ok S r st H) (h : EndO S r st.length H Q (some (d, st))) (hr : Rep S r st.length H d v) : Q v H := h r H v o.refl o hr
theorem or_sub : OpR X (binaryOp .Sub) (r2 S oSub) := OpR.weak op_sub fun x y H Q h => by
  obtain ⟨r, st, a, b, o, ra, rb, h⟩ := h
  cases a <;> cases b <;> first | exact h.elim | skip
  rename_i i j
  unfold Rep at ra rb
  exact ⟨i, j, ra, rb, end_ok o h rep_int⟩
theorem or_fdiv : OpR X (binaryOp .FloorDiv) (r2 S oFdiv) := OpR.weak op_fdiv fun x y H Q h => by
  obtain ⟨r, st, a, b, o, ra, rb, h⟩ := h
  cases a <;> cases b <;> first | exact h.elim | skip
  rename_i i j
  unfold Rep at ra rb
  unfold oFdiv pu at h
  by_cases hc : 0 < j ∧ j < 1073741824
  · simp only [if_pos hc] at h
    exact ⟨i, j, ra, rb, hc, end_ok o h rep_int⟩
  · simp only [if_neg hc] at h
    exact h.elim
theorem or_mod : OpR X (binaryOp .Mod) (r2 S oMod) := OpR.weak op_mod fun x y H Q h => by
  obtain ⟨r, st, a, b, o, ra, rb, h⟩ := h
  cases a <;> cases b <;> first | exact h.elim | skip
  rename_i i j
  unfold Rep at ra rb
  unfold oMod pu at h
  by_cases hc : 0 < j
  · simp only [if_pos hc] at h
    exact ⟨i, j, ra, rb, hc, end_ok o h rep_int⟩
  · simp only [if_neg hc] at h
    exact h.elim
theorem or_pow : OpR X (binaryOp .Pow) (r2 S oPow) := OpR.weak op_pow fun x y H Q h => by
  obtain ⟨r, st, a, b, o, ra, rb, h⟩ := h
  cases a <;> cases b <;> first | exact h.elim | skip
  rename_i i j
  unfold Rep at ra rb
  unfold oPow pu at h
  by_cases hc : 0 ≤ j ∧ j ≤ 1000000 ∧ i.natAbs < 2 ^ 64
  · simp only [if_pos hc] at h
    exact ⟨i, j, ra, rb, hc, end_ok o h rep_int⟩
  · simp only [if_neg hc] at h
    exact h.elim
theorem add_lst (cell : Bool) {r : Rho} {st : Sto} {H : Hp} {Q : VK} {a b : D} {x y : V} (o : Ok S r st H) (ra : Rep S r st.length H a x) (rb : Rep S r st.length H b y)
    (h : EndO S r st.length H Q (match seqW st a, seqW st b with
      | some xs, some ys => if xs.length + ys.length ≤ LIM then some (mkL cell (xs ++ ys) st) else none
      | _, _ => none)) : rCat x y H Q := by
  split at h
  · rename_i xs ys e1 e2
    obtain ⟨p, us, rfl, hp, hx⟩ := seqW_ok o ra e1
    obtain ⟨q, ws, rfl, hq, hy⟩ := seqW_ok o rb e2
    split at h
    · rename_i hl
      refine ⟨p, q, us, ws, rfl, rfl, hp, hq, by rw [← hx.length, ← hy.length]; exact lim_ok hl, fun l hl => ?_⟩
      obtain ⟨r', a1, a2, a3⟩ := new_mk (cell := cell) o (hx.append hy) hl
      exact h r' _ _ a1 a2 a3
    · exact h.elim
  · exact h.elim
theorem or_add (cell : Bool) (hK : X.K = S.K := by rfl) : OpR X (binaryOp .Add) (r2 S (oAdd cell)) := by
  intro pins s σ H x y v u Q I rx ry h
  obtain ⟨r, st, a, b, o, ra, rb, h⟩ := h
  have lists := fun h' => op_cat pins s σ H x y v u Q I rx ry (add_lst (S := S) (r := r) (st := st) (a := a) (b := b) cell o ra rb h')
  cases a with
  | int i =>
    cases b with
    | int j =>
      unfold Rep at ra rb
      exact op_add pins s σ H x y v u Q I rx ry ⟨i, j, ra, rb, end_ok o h rep_int⟩
    | _ => exact lists h
  | str i =>
    cases b with
    | str j =>
      unfold Rep at ra rb
      by_cases hc : i.length + j.length ≤ LIM
      · simp only [oAdd, if_pos hc] at h
        exact op_add_str pins s σ H x y v u Q I rx ry ⟨i, j, ra, rb, lim_ok hc, end_ok o h rep_str⟩
      · simp only [oAdd, if_neg hc] at h
        exact h.elim
    | _ => exact lists h
  | tup i =>
    cases b with
    | tup j =>
      by_cases hc : i.length + j.length ≤ LIM
      · simp only [oAdd, if_pos hc] at h
        have ra' := ra
        have rb' := rb
        unfold Rep at ra rb
        obtain ⟨p, us, rfl, hp, hx⟩ := ra
        obtain ⟨q, ws, rfl, hq, hy⟩ := rb
        refine op_catA pins s σ H _ _ v u Q I rx ry ⟨p, q, us, ws, rfl, rfl, by rw [hK]; exact sqT_of hp, by rw [hK]; exact sqT_of hq, by rw [← hx.length, ← hy.length]; exact lim_ok hc, fun e => ?_, fun _ e => ?_, fun _ _ l hl => ?_⟩
        · have e2 : i = [] := by
            have := hx.length
            rw [e] at this
            exact List.length_eq_zero_iff.mp this
          subst e2
          exact end_ok o h rb'
        · have e2 : j = [] := by
            have := hy.length
            rw [e] at this
            exact List.length_eq_zero_iff.mp this
          subst e2
          rw [List.append_nil] at h
          exact end_ok o h ra'
        · obtain ⟨a1, a2, a3⟩ := new_tup o (hx.append hy) hl
          exact h r _ _ a1 a2 a3
      · simp only [oAdd, if_neg hc] at h
        exact h.elim
    | _ => exact lists h
  | _ => exact lists h

/-! ### products -/
def oMul : O2 := pu fun a b => match a, b with
  | .int i, .int j => if (small64 i || small64 j) = true then some (.int (i * j)) else none
  | _, _ => none
theorem or_mul : OpR X (binaryOp .Mult) (r2 S oMul) := OpR.weak op_mul fun x y H Q h => by
  obtain ⟨r, st, a, b, o, ra, rb, h⟩ := h
  cases a <;> cases b <;> first | exact h.elim | skip
  rename_i i j
  unfold Rep at ra rb
  unfold oMul pu at h
  by_cases hc : (small64 i || small64 j) = true
  · simp only [if_pos hc] at h
    refine ⟨i, j, ra, rb, ?_, end_ok o h rep_int⟩
    simp only [Bool.or_eq_true, small64_iff] at hc
    exact hc
  · simp only [if_neg hc] at h
    exact h.elim
/-! ### comparisons -/
def oCmp (f : Int → Int → Bool) : O2 := pu fun a b => match a, b with
  | .int i, .int j => some (.bl (f i j))
  | _, _ => none
theorem or_cmp {o : CmpOp} {f : Int → Int → Bool} (h0 : OpR X (compareOp o) (rI0 fun i j => .bl (f i j))) : OpR X (compareOp o) (r2 S (oCmp f)) := OpR.weak h0 fun x y H Q h => by
  obtain ⟨r, st, a, b, o, ra, rb, h⟩ := h
  cases a <;> cases b <;> first | exact h.elim | skip
  rename_i i j
  unfold Rep at ra rb
  exact ⟨i, j, ra, rb, end_ok o h rep_bl⟩
def oLt : O2 := oCmp fun i j => decide (i < j)
def oLe : O2 := oCmp fun i j => decide (i ≤ j)
def oGt : O2 := oCmp fun i j => decide (j < i)
def oGe : O2 := oCmp fun i j => decide (j ≤ i)
theorem or_lt : OpR X (compareOp .Lt) (r2 S oLt) := or_cmp op_lt
theorem or_le : OpR X (compareOp .LtE) (r2 S oLe) := or_cmp op_le
theorem or_gt : OpR X (compareOp .Gt) (r2 S oGt) := or_cmp op_gt
theorem or_ge : OpR X (compareOp .GtE) (r2 S oGe) := or_cmp op_ge
/-- == of data: scalars by themselves, else what the library reads -/
def eqD (st : Sto) (a b : D) : Option Bool := match a, b with
  | .int i, .int j => some (decide (i = j))
  | .str x, .str y => some (decide (x = y))
  | .bl x, .bl y => some (decide (x = y))
  | .non, .non => some true
  | .non, .int _ => some false
  | .int _, .non => some false
  | .non, .str _ => some false
  | .str _, .non => some false
  | .int _, .str _ => some false
  | .str _, .int _ => some false
  | a, b => match pyOf st a, pyOf st b with
    | some p, some q => if (SeqAt.shaped p && SeqAt.shaped q) = true then some (PyData.eqv p q) else none
    | _, _ => none
def oEq (neg : Bool) : O2 := fun a b st => match eqD st a b with
  | some c => some (.bl (if neg then !c else c), st)
  | none => none
theorem shp2 {p q : PyData} (h : (SeqAt.shaped p && SeqAt.shaped q) = true) : SeqAt.shaped p = true ∧ SeqAt.shaped q = true := by simpa using h
theorem eq_gen {r : Rho} {st : Sto} {H : Hp} {a b : D} {x y : V} {c : Bool} (hK : X.K = S.K) (o : Ok S r st H) (ra : Rep S r st.length H a x) (rb : Rep S r st.length H b y)
    (h : (match pyOf st a, pyOf st b with
      | some p, some q => if (SeqAt.shaped p && SeqAt.shaped q) = true then some (PyData.eqv p q) else none
      | _, _ => none) = some c) : ∃ d e, Dp X.K H x d ∧ Dp X.K H y e ∧ SeqAt.shaped d = true ∧ SeqAt.shaped e = true ∧ PyData.eqv d e = c := by
  split at h
  · rename_i p q e1 e2
    split at h
    · rename_i hs
      cases h
      rw [hK]
      exact ⟨p, q, pyOf_ok o ra e1, pyOf_ok o rb e2, (shp2 hs).1, (shp2 hs).2, rfl⟩
    · cases h
  · cases h
theorem eq_or {r : Rho} {st : Sto} {H : Hp} {a b : D} {x y : V} {c : Bool} (hK : X.K = S.K) (o : Ok S r st H) (ra : Rep S r st.length H a x) (rb : Rep S r st.length H b y) (h : eqD st a b = some c) :
    (scal x y = true ∧ decide (x = y) = c) ∨ ∃ d e, Dp X.K H x d ∧ Dp X.K H y e ∧ SeqAt.shaped d = true ∧ SeqAt.shaped e = true ∧ PyData.eqv d e = c := by
  cases a <;> cases b <;> first
    | exact .inr (eq_gen hK o ra rb h)
    | (unfold Rep at ra rb
       subst ra rb
       simp only [eqD, Option.some.injEq] at h
       subst h
       refine .inl ⟨rfl, ?_⟩
       simp)
theorem or_eq (hu : X.A.units + 64 < cLine) (hK : X.K = S.K := by rfl) : OpR X (compareOp .Eq) (r2 S (oEq false)) := by
  intro pins s σ H x y v u Q I rx ry h
  obtain ⟨r, st, a, b, o, ra, rb, h⟩ := h
  unfold oEq at h
  cases q : eqD st a b with
  | none => simp only [q] at h; exact h.elim
  | some c =>
    simp only [q] at h
    have k := end_ok o h (v := .bl c) rep_bl
    rcases eq_or hK o ra rb q with ⟨h1, h2⟩ | ⟨d, e, h1, h2, h3, h4, h5⟩
    · exact op_eq pins s σ H x y v u Q I rx ry ⟨h1, by rw [h2]; exact k⟩
    · exact op_eqD hu pins s σ H x y v u Q I rx ry ⟨d, e, h1, h2, h3, h4, by rw [h5]; exact k⟩
theorem or_ne (hu : X.A.units + 64 < cLine) (hK : X.K = S.K := by rfl) : OpR X (compareOp .NotEq) (r2 S (oEq true)) := by
  intro pins s σ H x y v u Q I rx ry h
  obtain ⟨r, st, a, b, o, ra, rb, h⟩ := h
  unfold oEq at h
  cases q : eqD st a b with
  | none => simp only [q] at h; exact h.elim
  | some c =>
    simp only [q] at h
    have k := end_ok o h (v := .bl (!c)) rep_bl
    rcases eq_or hK o ra rb q with ⟨h1, h2⟩ | ⟨d, e, h1, h2, h3, h4, h5⟩
    · exact op_ne pins s σ H x y v u Q I rx ry ⟨h1, by rw [h2]; exact k⟩
    · exact op_neD hu pins s σ H x y v u Q I rx ry ⟨d, e, h1, h2, h3, h4, by rw [h5]; exact k⟩
/-! ### is None -/
def mIsN (neg : Bool) (fa : EM D) : EM D := fun env st => (fa env st).bind fun a st1 => .ok (.bl (match a with
  | .non => !neg
  | _ => neg)) st1
theorem isN_rep {r : Rho} {n : Nat} {H : Hp} {d : D} {v : V} (h : Rep S r n H d v) : decide (v = .non) = (match d with
  | .non => true
  | _ => false) := by
  cases d <;> unfold Rep at h
  case non => subst h; rfl
  case bl b => subst h; rfl
  case int b => subst h; rfl
  case str b => subst h; rfl
  case tup b => obtain ⟨_, _, rfl, _⟩ := h; rfl
  case lst b => obtain ⟨_, _, rfl, _⟩ := h; rfl
  case scr b => obtain ⟨_, rfl, _⟩ := h; rfl
  case obj b => obtain ⟨_, _, _, rfl, _⟩ := h; rfl
  case ref b => obtain ⟨_, rfl⟩ := h; rfl
  case exn b => obtain ⟨_, _, _, _, rfl, _⟩ := h; rfl
section
variable {W : WX} {a : Expr} {fa : EM D} {pos p1 : Pos}
theorem md_isN : ∀ σ H Q, rdE S W (mIsN false fa) σ H Q → tOp (fun x y H Q => y = .non ∧ Q (.bl (decide (x = .non))) H) (rdE S W fa) (fun _ H Q => Q .non H) σ H Q := fun σ H Q h => by
  obtain ⟨r, env, st, o, eo, h⟩ := h
  refine ⟨r, env, st, o, eo, End.bind h fun da st1 r1 H1 x l1 o1 rx h1 => ⟨rfl, ?_⟩⟩
  refine h1 r1 H1 _ o1.refl o1 ?_
  rw [isN_rep rx]
  cases da <;> exact rep_bl
theorem md_notN : ∀ σ H Q, rdE S W (mIsN true fa) σ H Q → tOp (fun x y H Q => y = .non ∧ Q (.bl (!decide (x = .non))) H) (rdE S W fa) (fun _ H Q => Q .non H) σ H Q := fun σ H Q h => by
  obtain ⟨r, env, st, o, eo, h⟩ := h
  refine ⟨r, env, st, o, eo, End.bind h fun da st1 r1 H1 x l1 o1 rx h1 => ⟨rfl, ?_⟩⟩
  refine h1 r1 H1 _ o1.refl o1 ?_
  rw [isN_rep rx]
  cases da <;> exact rep_bl
theorem e_isN {k} (ha : PE X a (rdE S W fa)) : PE X (.Compare a [.Is] [.Constant .none k p1] pos) (rdE S W (mIsN false fa)) := PE.weak (pe_cmpR op_isN ha pe_non (nomark _)) md_isN
theorem e_notN {k} (ha : PE X a (rdE S W fa)) : PE X (.Compare a [.IsNot] [.Constant .none k p1] pos) (rdE S W (mIsN true fa)) := PE.weak (pe_cmpR op_notN ha pe_non (nomark _)) md_notN
theorem t_isN {k} (ha : PE X a (rdE S W fa)) : PT X (.Compare a [.Is] [.Constant .none k p1] pos) (rdB S W (mT (mIsN false fa))) := PT.weak (pt_cmpR op_isN ha pe_non (nomark _)) (md_T md_isN)
theorem t_notN {k} (ha : PE X a (rdE S W fa)) : PT X (.Compare a [.IsNot] [.Constant .none k p1] pos) (rdB S W (mT (mIsN true fa))) := PT.weak (pt_cmpR op_notN ha pe_non (nomark _)) (md_T md_notN)
end
/-! ### a op b op c -/
def mChain (o1 o2 : O2) (fa fb fc : EM D) : EM D := fun env st => (fa env st).bind fun a st1 => (fb env st1).bind fun b st2 => (lift (o1 a b st2)).bind fun z st3 => match z with
  | .bl true => (fc env st3).bind fun c st4 => lift (o2 b c st4)
  | .bl false => .ok (.bl false) st3
  | _ => .bad
section
variable {W : WX} {a b c : Expr} {fa fb fc : EM D} {pos : Pos} {p1 p2 : O2}
theorem EndO.of_lift {σ : St} {r : Rho} {n : Nat} {H : Hp} {Q Q' : VK} {x : Option (D × Sto)} {g : D → Sto → Res D} (h : End S (Rep S) W σ r n H Q ((lift x).bind g))
    (k : ∀ d st' r' H' v, Le r n H r' st'.length H' → Ok S r' st' H' → Rep S r' st'.length H' d v → End S (Rep S) W σ r' st'.length H' Q (g d st') → Q' v H') : EndO S r n H Q' x := by
  cases x with
  | none => exact h
  | some p =>
    obtain ⟨d, st'⟩ := p
    intro r' H' v l o hr
    exact k d st' r' H' v l o hr (End.le l h)
theorem md_chain : ∀ σ H Q, rdE S W (mChain p1 p2 fa fb fc) σ H Q → tChain (r2 S p1) (r2 S p2) (rdE S W fa) (rdE S W fb) (rdE S W fc) σ H Q := fun σ H Q h => by
  obtain ⟨r, env, st, o, eo, h⟩ := h
  refine ⟨r, env, st, o, eo, End.bind h fun da st1 r1 H1 x l1 o1 rx h1 => ⟨r1, env, st1, o1, eo.mono l1, End.bind h1 fun db st2 r2 H2 y l2 o2 ry h2 => ?_⟩⟩
  refine ⟨r2, st2, da, db, o2, Rep.mono l2 _ _ rx, ry, EndO.of_lift h2 fun z st3 r3 H3 v l3 o3 rz h3 => ?_⟩
  cases z with
  | bl k =>
    unfold Rep at rz
    refine ⟨k, rz, ?_⟩
    cases k with
    | true => exact iteT ⟨r3, env, st3, o3, (eo.mono (l1.trans (l2.trans l3))), End.bind h3 fun dc st4 r4 H4 w l4 o4 rw' h4 => ⟨r4, st4, db, dc, o4, Rep.mono (l3.trans l4) _ _ ry, rw', h4.lift⟩⟩
    | false => exact iteF (h3 r3 H3 _ o3.refl o3 rep_bl)
  | _ => exact h3.elim
theorem e_chain {o1 o2 : CmpOp} (h1 : OpR X (compareOp o1) (r2 S p1)) (h2 : OpR X (compareOp o2) (r2 S p2)) (ha : PE X a (rdE S W fa)) (hb : PE X b (rdE S W fb)) (hc : PE X c (rdE S W fc)) (hm : lastMarks [o1, o2] [b, c] = false := by with_unfolding_all rfl) :
    PE X (.Compare a [o1, o2] [b, c] pos) (rdE S W (mChain p1 p2 fa fb fc)) := PE.weak (pe_chain h1 h2 ha hb hc hm) md_chain
theorem t_chain {o1 o2 : CmpOp} (h1 : OpR X (compareOp o1) (r2 S p1)) (h2 : OpR X (compareOp o2) (r2 S p2)) (ha : PE X a (rdE S W fa)) (hb : PE X b (rdE S W fb)) (hc : PE X c (rdE S W fc)) (hm : lastMarks [o1, o2] [b, c] = false := by with_unfolding_all rfl) :
    PT X (.Compare a [o1, o2] [b, c] pos) (rdB S W (mT (mChain p1 p2 fa fb fc))) := PT.weak (pt_chain h1 h2 ha hb hc hm) (md_T md_chain)
end
end
end Cw

/-! Subscripts, slices, built-in calls of one or two values, membership, isinstance. -/
namespace Cw
open PySem L2

section
variable {S : Stat} {X : Cx} {W : WX}
/-! ### items -/
theorem atI_rep {r : Rho} {n : Nat} {H : Hp} {ds : List D} {xs : List V} {i : Int} {d : D} (h : RepL S r n H ds xs) (e : atI ds i = some d) : ∃ v, atI xs i = some v ∧ Rep S r n H d v := by
  unfold atI at e ⊢
  rw [← h.length]
  cases q : ixN ds.length i with
  | none => rw [q] at e; cases e
  | some j =>
    rw [q] at e
    exact h.get e
def oIx : O2 := fun a b st => match a, b with
  | .tup ds, .int i => match atI ds i with
    | some d => some (d, st)
    | none => none
  | .str z, .int i => if z.length ≤ LIM then match atI z.cps.toList i with
    | some c => some (.str ⟨#[c]⟩, st)
    | none => none else none
  | a, .int i => match seqR st a with
    | some ds => match atI ds i with
      | some d => some (d, st)
      | none => none
    | none => none
  | _, _ => none
theorem ix_all (hK : X.K = S.K := by rfl) : IxR X (r2 S oIx) := by
  intro value slice pins s σ H x y v u Q I rx ry h hs
  refine ix_seq value slice pins s σ H x y v u Q I rx ry ?_ hs
  obtain ⟨r, st, a, b, o, ra, rb, h⟩ := h
  have rb' := rb
  cases b with
  | int i =>
    unfold Rep at rb
    have lists : (match seqR st a with
        | some ds => match atI ds i with
          | some d => some (d, st)
          | none => none
        | none => none) = oIx a (.int i) st → rIx X.K x y H Q := fun e => by
      rw [← e] at h
      cases q : seqR st a with
      | none => simp only [q] at h; exact h.elim
      | some ds =>
        simp only [q] at h
        cases q2 : atI ds i with
        | none => simp only [q2] at h; exact h.elim
        | some d =>
          simp only [q2] at h
          obtain ⟨p, xs, e1, e2, e3⟩ := seqR_ok o ra q
          obtain ⟨w, e4, e5⟩ := atI_rep e3 q2
          exact .inl ⟨p, xs, i, w, e1, rb, by rw [hK]; exact e2, e4, end_ok o h e5⟩
    cases a with
    | tup ds =>
      simp only [oIx] at h
      cases q2 : atI ds i with
      | none => simp only [q2] at h; exact h.elim
      | some d =>
        simp only [q2] at h
        unfold Rep at ra
        obtain ⟨p, xs, e1, e2, e3⟩ := ra
        obtain ⟨w, e4, e5⟩ := atI_rep e3 q2
        exact .inr (.inl ⟨p, xs, i, w, e1, rb, sqT_of e2, e4, end_ok o h e5⟩)
    | str z =>
      simp only [oIx] at h
      unfold Rep at ra
      by_cases hl : z.length ≤ LIM
      · simp only [if_pos hl] at h
        cases q2 : atI z.cps.toList i with
        | none => simp only [q2] at h; exact h.elim
        | some c =>
          simp only [q2] at h
          exact .inr (.inr ⟨z, i, c, ra, rb, lim_ok hl, q2, end_ok o h rep_str⟩)
      · simp only [if_neg hl] at h; exact h.elim
    | _ => exact lists rfl
  | _ => cases a <;> exact h.elim
theorem e_ix {a b : Expr} {fa fb : EM D} {pos : Pos} (ha : PE X a (rdE S W fa)) (hb : PE X b (rdE S W fb)) (hs : PlainIx b := by exact fun _ _ => rfl) (hK : X.K = S.K := by rfl) : PE X (.Subscript a b pos) (rdE S W (mBin oIx fa fb)) :=
  PE.weak (pe_ix (ix_all hK) ha hb hs) md_bin

/-! ### slices -/
def RO : Rho → Nat → Hp → Option Int → Option Int → Prop := fun _ _ _ a b => b = a
abbrev rdO (S : Stat) (W : WX) (f : EM (Option Int)) : TO := rd S RO W f
def mNoP : EM (Option Int) := fun _ st => .ok none st
def mPart (f : EM D) : EM (Option Int) := fun env st => (f env st).bind fun a st1 => match a with
  | .int i => .ok (some i) st1
  | _ => .bad
theorem PO.weak {e : Option Expr} {t t' : TO} (h : PO X e t) (k : ∀ σ H Q, t' σ H Q → t σ H Q) : PO X e t' := ⟨fun pins s σ H Q I q => h.run pins s σ H Q I (k σ H Q q)⟩
theorem o_none : PO X none (rdO S W mNoP) := PO.weak po_none fun σ H Q h => by
  obtain ⟨r, env, st, o, eo, h⟩ := h
  exact h r H none o.refl o rfl
theorem o_some {e : Expr} {fa : EM D} (h : PE X e (rdE S W fa)) : PO X (some e) (rdO S W (mPart fa)) := PO.weak (po_some h) fun σ H Q h => by
  obtain ⟨r, env, st, o, eo, h⟩ := h
  refine ⟨r, env, st, o, eo, End.bind h fun da st1 r1 H1 x l1 o1 rx h1 => ?_⟩
  cases da with
  | int i =>
    unfold Rep at rx
    exact ⟨i, rx, h1 r1 H1 _ o1.refl o1 rfl⟩
  | _ => exact h1.elim
def cutD {α : Type} (xs : List α) (lo hi : Option Int) : List α := (xs.drop (HT.sIx xs.length 0 lo)).take (HT.sIx xs.length xs.length hi - HT.sIx xs.length 0 lo)
theorem cut_rep {r : Rho} {n : Nat} {H : Hp} {ds : List D} {xs : List V} {lo hi : Option Int} (h : RepL S r n H ds xs) : RepL S r n H (cutD ds lo hi) (cutV xs lo hi) := by
  unfold cutD cutV
  rw [h.length]
  exact (h.drop _).take _
theorem cut_len {α : Type} (xs : List α) (lo hi : Option Int) : (cutD xs lo hi).length ≤ xs.length := by
  unfold cutD
  rw [List.length_take, List.length_drop]
  omega
theorem cut_whole {α : Type} {xs : List α} {lo hi : Option Int} (h : HT.sIx xs.length 0 lo = 0 ∧ HT.sIx xs.length xs.length hi = xs.length) : cutD xs lo hi = xs := by
  unfold cutD
  rw [h.1, h.2]
  simp
def oSl (cell : Bool) (d : D) (lo hi : Option Int) (st : Sto) : Option (D × Sto) := match d with
  | .tup ds => some (.tup (cutD ds lo hi), st)
  | .str z => if z.length ≤ LIM then some (.str (cutS z lo hi), st) else none
  | d => match seqR st d with
    | some ds => some (mkL cell (cutD ds lo hi) st)
    | none => none
def mSlice (cell : Bool) (fa : EM D) (fl fh : EM (Option Int)) : EM D := fun env st => (fa env st).bind fun a st1 => (fl env st1).bind fun l st2 => (fh env st2).bind fun h st3 => lift (oSl cell a l h st3)
theorem e_slice (cell : Bool) {e : Expr} {lo hi : Option Expr} {fa : EM D} {fl fh : EM (Option Int)} {pos p2 : Pos} (he : PE X e (rdE S W fa)) (hl : PO X lo (rdO S W fl)) (hu : PO X hi (rdO S W fh)) (hK : X.K = S.K := by rfl) :
    PE X (.Subscript e (.Slice lo hi none p2) pos) (rdE S W (mSlice cell fa fl fh)) := by
  refine PE.weak (pe_slice (sl_list.or (sl_tupA.or sl_str)) he hl hu) fun σ H Q h => ?_
  obtain ⟨r, env, st, o, eo, h⟩ := h
  refine ⟨r, env, st, o, eo, End.bind h fun d st1 r1 H1 x l1 o1 rx h1 => ⟨r1, env, st1, o1, eo.mono l1, End.bind h1 fun i st2 r2 H2 i' l2 o2 ei h2 => ⟨r2, env, st2, o2, eo.mono (l1.trans l2), End.bind h2 fun j st3 r3 H3 j' l3 o3 ej h3 => ?_⟩⟩⟩
  have ei : i' = i := ei
  have ej : j' = j := ej
  subst ei ej
  have h4 := h3.lift
  have rx3 := Rep.mono (l2.trans l3) _ _ rx
  have lists : ∀ ds, seqR st3 d = some ds → EndO S r3 st3.length H3 Q (some (mkL cell (cutD ds i' j') st3)) → rSlL X.K x i' j' H3 Q := fun ds q h => by
    obtain ⟨p, xs, e1, e2, e3⟩ := seqR_ok o3 rx3 q
    refine ⟨p, xs, e1, by rw [hK]; exact e2, fun l hl => ?_⟩
    obtain ⟨r', a1, a2, a3⟩ := new_mk (cell := cell) o3 (cut_rep (lo := i') (hi := j') e3) hl
    exact h r' _ _ a1 a2 a3
  cases d with
  | tup ds =>
    refine .inr (.inl ?_)
    simp only [oSl] at h4
    have rx4 := rx3
    unfold Rep at rx4
    obtain ⟨p, xs, e1, e2, e3⟩ := rx4
    refine ⟨p, xs, e1, sqT_of e2, fun hw => ?_, fun _ q hq => ?_⟩
    · rw [← e3.length] at hw
      rw [cut_whole hw] at h4
      rw [← e1]
      exact end_ok o3 h4 rx3
    · obtain ⟨a1, a2, a3⟩ := new_tup o3 (cut_rep (lo := i') (hi := j') e3) hq
      exact h4 r3 _ _ a1 a2 a3
  | str z =>
    refine .inr (.inr ?_)
    simp only [oSl] at h4
    unfold Rep at rx3
    by_cases hz : z.length ≤ LIM
    · simp only [if_pos hz] at h4
      exact ⟨z, rx3, lim_ok hz, end_ok o3 h4 rep_str⟩
    · simp only [if_neg hz] at h4; exact h4.elim
  | lst ds => exact .inl (lists ds rfl h4)
  | scr ns => exact .inl (lists _ rfl h4)
  | ref k =>
    cases q : seqR st3 (.ref k) with
    | none => simp only [oSl, q] at h4; exact h4.elim
    | some ds => simp only [oSl, q] at h4; exact .inl (lists ds q h4)
  | _ => exact h4.elim

/-! ### built-ins of one value -/
abbrev O1 := D → Sto → Option (D × Sto)
def c1 (S : Stat) (op : O1) : List V → Hp → VK → Prop := fun xs H Q => ∃ r st d v, xs = [v] ∧ Ok S r st H ∧ Rep S r st.length H d v ∧ EndO S r st.length H Q (op d st)
def m1 (op : O1) (fa : EM D) : EM D := fun env st => (fa env st).bind fun a st1 => lift (op a st1)
theorem CallR.weak {f : Value} {t t' : List V → Hp → VK → Prop} (h : CallR X f t) (k : ∀ x H Q, t' x H Q → t x H Q) : CallR X f t' := fun pins s σ H xs us Q I r q => h pins s σ H xs us Q I r (k _ _ _ q)
theorem md_1 {op : O1} {fa : EM D} : ∀ σ H Q, rdE S W (m1 op fa) σ H Q → tCB (c1 S op) (tCons (rdE S W fa) tNil) σ H Q := fun σ H Q h => by
  obtain ⟨r, env, st, o, eo, h⟩ := h
  refine ⟨r, env, st, o, eo, End.bind h fun d st1 r1 H1 x l1 o1 rx h1 => ?_⟩
  exact ⟨r1, st1, d, x, rfl, o1, rx, h1.lift⟩
theorem e_callB1 {op : O1} {id : String} {x : Str} {a : Expr} {fa : EM D} {p pos : Pos} (hc : CallR X (.builtin id) (c1 S op)) (hm : X.mg x = none) (ha : PE X a (rdE S W fa)) (hv : bootBuiltins x = some (.builtin id) := by decide +kernel) (hg : Gl X x := by rfl)
    (hn : x ≠ "__name__" := by decide) (hdb : (x == ("__debug__" : Str)) = false := by decide) (he : starEach [a] X.env = (false, eval a X.env) :: starEach [] X.env := by rfl) (hpl : (backTo pos (starEach [] X.env)).any (·.1) = false := by rfl) :
    PE X (.Call (.Name x p) [a] [] pos) (rdE S W (m1 op fa)) := PE.weak (pe_callB hc hg hm hv (pa_cons ha pa_nil he) hn hdb he hpl) md_1
theorem e_callT1 {op : O1} {T : String} {x : Str} {a : Expr} {fa : EM D} {p pos : Pos} (hc : CallR X (.type T) (c1 S op)) (hm : X.mg x = none) (ha : PE X a (rdE S W fa)) (hv : bootBuiltins x = some (.type T) := by decide +kernel) (hg : Gl X x := by rfl)
    (hn : x ≠ "__name__" := by decide) (hdb : (x == ("__debug__" : Str)) = false := by decide) (he : starEach [a] X.env = (false, eval a X.env) :: starEach [] X.env := by rfl) (hpl : (backTo pos (starEach [] X.env)).any (·.1) = false := by rfl) :
    PE X (.Call (.Name x p) [a] [] pos) (rdE S W (m1 op fa)) := PE.weak (pe_callTy hc hg hm hv (pa_cons ha pa_nil he) hn hdb he hpl) md_1
/-- len -/
def oLen : O1 := fun d st => match d with
  | .tup ds => some (.int ds.length, st)
  | .str z => if z.length ≤ LIM then some (.int z.length, st) else none
  | d => match seqR st d with
    | some ds => some (.int ds.length, st)
    | none => none
theorem cr_len (hK : X.K = S.K := by rfl) : CallR X (.builtin "len") (c1 S oLen) := by
  intro pins s σ H xs us Q I rr h
  obtain ⟨r, st, d, v, rfl, o, rd, h⟩ := h
  have lists : ∀ ds, seqR st d = some ds → EndO S r st.length H Q (some (.int ds.length, st)) → wpAny (model X.prog X.w) X.A (call (.builtin "len") us) (EP X pins σ Q) X.xe s := fun ds q h => by
    obtain ⟨p, xs, e1, e2, e3⟩ := seqR_ok o rd q
    subst e1
    refine call_len_seq pins s σ H _ us Q I rr ⟨p, xs, rfl, .inl (by rw [hK]; exact e2), ?_⟩
    rw [← e3.length]
    exact end_ok o h rep_int
  cases d with
  | tup ds =>
    unfold Rep at rd
    obtain ⟨p, xs, rfl, e2, e3⟩ := rd
    refine call_len_seq pins s σ H _ us Q I rr ⟨p, xs, rfl, .inr (sqT_of e2), ?_⟩
    rw [← e3.length]
    exact end_ok o h rep_int
  | str z =>
    simp only [oLen] at h
    unfold Rep at rd
    subst rd
    by_cases hz : z.length ≤ LIM
    · simp only [if_pos hz] at h
      exact call_len_str pins s σ H _ us Q I rr ⟨z, rfl, lim_ok hz, end_ok o h rep_int⟩
    · simp only [if_neg hz] at h; exact h.elim
  | lst ds => exact lists ds rfl h
  | scr ns => exact lists _ rfl h
  | ref k =>
    cases q : seqR st (.ref k) with
    | none => simp only [oLen, q] at h; exact h.elim
    | some ds => simp only [oLen, q] at h; exact lists ds q h
  | _ => exact h.elim
/-- int of an int, of a bool -/
def oInt : O1 := fun d st => match d with
  | .int i => some (.int i, st)
  | .bl b => some (.int (if b then 1 else 0), st)
  | _ => none
theorem cr_int : CallR X (.type "int") (c1 S oInt) := CallR.weak call_int1 fun xs H Q h => by
  obtain ⟨r, st, d, v, rfl, o, rd, h⟩ := h
  cases d with
  | int i =>
    unfold Rep at rd
    subst rd
    exact .inl ⟨i, rfl, end_ok o h rep_int⟩
  | bl b =>
    unfold Rep at rd
    subst rd
    exact .inr ⟨b, rfl, end_ok o h rep_int⟩
  | _ => exact h.elim
/-- tuple(x), list(x) -/
def oTuple : O1 := fun d st => match d with
  | .tup ds => some (.tup ds, st)
  | d => match seqR st d with
    | some ds => some (.tup ds, st)
    | none => none
theorem cr_tuple (hK : X.K = S.K := by rfl) : CallR X (.type "tuple") (c1 S oTuple) := CallR.weak call_tuple_of fun xs H Q h => by
  obtain ⟨r, st, d, v, rfl, o, rd, h⟩ := h
  have lists : ∀ ds, seqR st d = some ds → EndO S r st.length H Q (some (.tup ds, st)) → ∃ p ys, [v] = [V.ref p] ∧ ((SqL X.K H p ys ∧ ∀ l, H l = none → Q (.ref l) (upd H l (.tup ys))) ∨ (SqT X.K H p ys ∧ Q (.ref p) H)) := fun ds q h => by
    obtain ⟨p, xs, e1, e2, e3⟩ := seqR_ok o rd q
    refine ⟨p, xs, by rw [e1], .inl ⟨by rw [hK]; exact e2, fun l hl => ?_⟩⟩
    obtain ⟨a1, a2, a3⟩ := new_tup o e3 hl
    exact h r _ _ a1 a2 a3
  cases d with
  | tup ds =>
    have rd' := rd
    unfold Rep at rd
    obtain ⟨p, xs, rfl, e2, e3⟩ := rd
    exact ⟨p, xs, rfl, .inr ⟨sqT_of e2, end_ok o h rd'⟩⟩
  | lst ds => exact lists ds rfl h
  | scr ns => exact lists _ rfl h
  | ref k =>
    cases q : seqR st (.ref k) with
    | none => simp only [oTuple, q] at h; exact h.elim
    | some ds => simp only [oTuple, q] at h; exact lists ds q h
  | _ => exact h.elim
def oList (cell : Bool) : O1 := fun d st => match d with
  | .tup ds => some (mkL cell ds st)
  | d => match seqR st d with
    | some ds => some (mkL cell ds st)
    | none => none
theorem cr_list (cell : Bool) (hK : X.K = S.K := by rfl) : CallR X (.type "list") (c1 S (oList cell)) := CallR.weak call_list_of fun xs H Q h => by
  obtain ⟨r, st, d, v, rfl, o, rd, h⟩ := h
  have lists : ∀ ds, seqR st d = some ds → EndO S r st.length H Q (some (mkL cell ds st)) → ∃ p ys, [v] = [V.ref p] ∧ (SqL X.K H p ys ∨ SqT X.K H p ys) ∧ ∀ l, H l = none → Q (.ref l) (upd H l (.lst ys)) := fun ds q h => by
    obtain ⟨p, xs, e1, e2, e3⟩ := seqR_ok o rd q
    refine ⟨p, xs, by rw [e1], .inl (by rw [hK]; exact e2), fun l hl => ?_⟩
    obtain ⟨r', a1, a2, a3⟩ := new_mk (cell := cell) o e3 hl
    exact h r' _ _ a1 a2 a3
  cases d with
  | tup ds =>
    unfold Rep at rd
    obtain ⟨p, xs, rfl, e2, e3⟩ := rd
    refine ⟨p, xs, rfl, .inr (sqT_of e2), fun l hl => ?_⟩
    obtain ⟨r', a1, a2, a3⟩ := new_mk (cell := cell) o e3 hl
    exact h r' _ _ a1 a2 a3
  | lst ds => exact lists ds rfl h
  | scr ns => exact lists _ rfl h
  | ref k =>
    cases q : seqR st (.ref k) with
    | none => simp only [oList, q] at h; exact h.elim
    | some ds => simp only [oList, q] at h; exact lists ds q h
  | _ => exact h.elim
/-- all, any of a list of bools -/
def blsOf : List D → Option (List Bool)
  | [] => some []
  | .bl b :: r => match blsOf r with
    | some l => some (b :: l)
    | none => none
  | _ :: _ => none
theorem bls_rep {r : Rho} {n : Nat} {H : Hp} : ∀ {ds : List D} {bs : List Bool} {xs : List V}, RepL S r n H ds xs → blsOf ds = some bs → xs = bs.map V.bl
  | [], bs, xs, h, e => by
    unfold RepL at h
    unfold blsOf at e
    cases e
    exact h
  | .bl b :: ds, bs, xs, h, e => by
    unfold RepL at h
    obtain ⟨v, w, rfl, h1, h2⟩ := h
    unfold blsOf at e
    cases q : blsOf ds with
    | none => rw [q] at e; cases e
    | some l =>
      rw [q] at e
      cases e
      unfold Rep at h1
      rw [bls_rep h2 q, h1]
      rfl
  | .non :: _, _, _, _, e => by unfold blsOf at e; cases e
  | .int _ :: _, _, _, _, e => by unfold blsOf at e; cases e
  | .str _ :: _, _, _, _, e => by unfold blsOf at e; cases e
  | .tup _ :: _, _, _, _, e => by unfold blsOf at e; cases e
  | .lst _ :: _, _, _, _, e => by unfold blsOf at e; cases e
  | .scr _ :: _, _, _, _, e => by unfold blsOf at e; cases e
  | .obj _ _ _ :: _, _, _, _, e => by unfold blsOf at e; cases e
  | .ref _ :: _, _, _, _, e => by unfold blsOf at e; cases e
  | .exn _ _ :: _, _, _, _, e => by unfold blsOf at e; cases e
def oAll : O1 := fun d st => match seqR st d with
  | some ds => match blsOf ds with
    | some bs => some (.bl (bs.all id), st)
    | none => none
  | none => none
def oAny : O1 := fun d st => match seqR st d with
  | some ds => match blsOf ds with
    | some bs => some (.bl (bs.any id), st)
    | none => none
  | none => none
theorem cr_allD (hc : X.calm = true := by rfl) (hK : X.K = S.K := by rfl) : CallR X (.builtin "all") (c1 S oAll) := CallR.weak (cr_all hc) fun xs H Q h => by
  obtain ⟨r, st, d, v, rfl, o, rd, h⟩ := h
  unfold oAll at h
  cases q : seqR st d with
  | none => simp only [q] at h; exact h.elim
  | some ds =>
    simp only [q] at h
    cases q2 : blsOf ds with
    | none => simp only [q2] at h; exact h.elim
    | some bs =>
      simp only [q2] at h
      obtain ⟨p, xs, e1, e2, e3⟩ := seqR_ok o rd q
      rw [bls_rep e3 q2] at e2
      exact ⟨p, bs, by rw [e1], by rw [hK]; exact e2, end_ok o h rep_bl⟩
theorem cr_anyD (hc : X.calm = true := by rfl) (hK : X.K = S.K := by rfl) : CallR X (.builtin "any") (c1 S oAny) := CallR.weak (cr_any hc) fun xs H Q h => by
  obtain ⟨r, st, d, v, rfl, o, rd, h⟩ := h
  unfold oAny at h
  cases q : seqR st d with
  | none => simp only [q] at h; exact h.elim
  | some ds =>
    simp only [q] at h
    cases q2 : blsOf ds with
    | none => simp only [q2] at h; exact h.elim
    | some bs =>
      simp only [q2] at h
      obtain ⟨p, xs, e1, e2, e3⟩ := seqR_ok o rd q
      rw [bls_rep e3 q2] at e2
      exact ⟨p, bs, by rw [e1], by rw [hK]; exact e2, end_ok o h rep_bl⟩
end
end Cw

/-! Membership, isinstance, fields, methods of lists. -/
namespace Cw
open PySem L2

section
variable {S : Stat} {X : Cx} {W : WX}
/-! ### in -/
def itemsPy : PyData → Option (List PyData)
  | .list l => some l
  | .tuple l => some l
  | _ => none
def inD (st : Sto) (a b : D) : Option Bool := match a, b with
  | .str x, .str z => match x.cps.toList with
    | [c] => some (decide (c ∈ z.cps.toList))
    | _ => some (!(Builtin.Str.occurrences z x 0 z.length 1).isEmpty)
  | a, b => match pyOf st a, pyOf st b with
    | some p, some q => match itemsPy q with
      | some l => if (SeqAt.shaped p && SeqAt.shaped q) = true then some (l.any fun y => PyData.eqv y p) else none
      | none => none
    | _, _ => none
def oIn (neg : Bool) : O2 := fun a b st => match inD st a b with
  | some c => some (.bl (if neg then !c else c), st)
  | none => none
theorem shp_all {l : List PyData} : (SeqAt.shaped (.list l) = true → PyData.canLayAll0 l = true) ∧ (SeqAt.shaped (.tuple l) = true → PyData.canLayAll0 l = true) := by
  constructor <;> intro h <;> have := SeqAt.canLay_of_shaped h <;> simpa [PyData.canLay0] using this
theorem in_room {A : Around} {p : PyData} {n : Nat} (h : SeqAt.shaped p = true) (hu : A.units + 65 < cLine) : A.units + 1 + min n p.depth < cLine := by
  have := SeqAt.depth_of_shaped h
  have : min n p.depth ≤ 64 := Nat.le_trans (Nat.min_le_right _ _) this
  omega
theorem in_gen0 {pins : List (Addr × Obj)} {s : Shared} {σ : St} {H : Hp} {x y : V} {v u : Value} {Q : VK} {r : Rho} {st : Sto} {a b : D} {c : Bool} (hu : X.A.units + 65 < cLine) (hK : X.K = S.K) (I : Inv X pins σ H s) (rx : RelV x v) (ry : RelV y u)
    (o : Ok S r st H) (ra : Rep S r st.length H a x) (rb : ∀ q, pyOf st b = some q → Dp X.K H y q)
    (h : (match pyOf st a, pyOf st b with
    | some p, some q => match itemsPy q with
      | some l => if (SeqAt.shaped p && SeqAt.shaped q) = true then some (l.any fun y => PyData.eqv y p) else none
      | none => none
    | _, _ => none) = some c) : (Q (.bl c) H → wpAny (model X.prog X.w) X.A (compareOp .In v u) (EP X pins σ Q) X.xe s) ∧ (Q (.bl (!c)) H → wpAny (model X.prog X.w) X.A (compareOp .NotIn v u) (EP X pins σ Q) X.xe s) := by
  split at h
  · rename_i p q e1 e2
    split at h
    · rename_i l el
      split at h
      · rename_i hs
        cases h
        obtain ⟨h1, h2⟩ := shp2 hs
        have da : Dp X.K H x p := by rw [hK]; exact pyOf_ok o ra e1
        have db : Dp X.K H y q := rb q e2
        obtain ⟨as, k1⟩ := Dp.reads I p x v da rx
        obtain ⟨bs, k2⟩ := Dp.reads I q y u db ry
        cases q with
        | list l' =>
          cases el
          exact ⟨fun z => SeqAt.in_list_reads k2 k1 (shp_all.1 h2) (SeqAt.canLay_of_shaped h1) (in_room h1 hu) ⟨.bl _, H, I, rfl, z⟩,
            fun z => SeqAt.notIn_list_reads k2 k1 (shp_all.1 h2) (SeqAt.canLay_of_shaped h1) (in_room h1 hu) ⟨.bl _, H, I, rfl, z⟩⟩
        | tuple l' =>
          cases el
          exact ⟨fun z => SeqAt.in_tuple_reads k2 k1 (shp_all.2 h2) (SeqAt.canLay_of_shaped h1) (in_room h1 hu) ⟨.bl _, H, I, rfl, z⟩,
            fun z => SeqAt.notIn_tuple_reads k2 k1 (shp_all.2 h2) (SeqAt.canLay_of_shaped h1) (in_room h1 hu) ⟨.bl _, H, I, rfl, z⟩⟩
        | _ => cases el
      · cases h
    · cases h
  · cases h
theorem in_gen {pins : List (Addr × Obj)} {s : Shared} {σ : St} {H : Hp} {x y : V} {v u : Value} {Q : VK} {r : Rho} {st : Sto} {a b : D} {c : Bool} (hu : X.A.units + 65 < cLine) (hK : X.K = S.K) (I : Inv X pins σ H s) (rx : RelV x v) (ry : RelV y u)
    (o : Ok S r st H) (ra : Rep S r st.length H a x) (rb : Rep S r st.length H b y)
    (h : (match pyOf st a, pyOf st b with
    | some p, some q => match itemsPy q with
      | some l => if (SeqAt.shaped p && SeqAt.shaped q) = true then some (l.any fun y => PyData.eqv y p) else none
      | none => none
    | _, _ => none) = some c) : (Q (.bl c) H → wpAny (model X.prog X.w) X.A (compareOp .In v u) (EP X pins σ Q) X.xe s) ∧ (Q (.bl (!c)) H → wpAny (model X.prog X.w) X.A (compareOp .NotIn v u) (EP X pins σ Q) X.xe s) := in_gen0 hu hK I rx ry o ra (fun q e => by rw [hK]; exact pyOf_ok o rb e) h
theorem in_str {pins : List (Addr × Obj)} {s : Shared} {σ : St} {H : Hp} {v u : Value} {Q : VK} {x z : Str} {c : Bool} (I : Inv X pins σ H s) (rx : RelV (.str x) v) (ry : RelV (.str z) u)
    (h : (match x.cps.toList with
    | [c] => some (decide (c ∈ z.cps.toList))
    | _ => some (!(Builtin.Str.occurrences z x 0 z.length 1).isEmpty)) = some c) : (Q (.bl c) H → wpAny (model X.prog X.w) X.A (compareOp .In v u) (EP X pins σ Q) X.xe s) ∧ (Q (.bl (!c)) H → wpAny (model X.prog X.w) X.A (compareOp .NotIn v u) (EP X pins σ Q) X.xe s) := by
  split at h
  · rename_i k e
    cases h
    have ex : x = ⟨#[k]⟩ := by
      cases x with
      | mk cps =>
        have : cps = #[k] := by
          apply Array.toList_inj.mp
          exact e
        rw [this]
    exact ⟨fun q => op_in_sign pins s σ H _ _ v u Q I rx ry ⟨k, z, by rw [ex], rfl, q⟩, fun q => op_notIn_sign pins s σ H _ _ v u Q I rx ry ⟨k, z, by rw [ex], rfl, q⟩⟩
  · cases h
    exact ⟨fun q => op_in_str pins s σ H _ _ v u Q I rx ry ⟨x, z, rfl, rfl, q⟩, fun q => op_notIn_str pins s σ H _ _ v u Q I rx ry ⟨x, z, rfl, rfl, q⟩⟩
theorem in_any {pins : List (Addr × Obj)} {s : Shared} {σ : St} {H : Hp} {x y : V} {v u : Value} {Q : VK} {r : Rho} {st : Sto} {a b : D} {c : Bool} (hu : X.A.units + 65 < cLine) (hK : X.K = S.K) (I : Inv X pins σ H s) (rx : RelV x v) (ry : RelV y u)
    (o : Ok S r st H) (ra : Rep S r st.length H a x) (rb : Rep S r st.length H b y) (h : inD st a b = some c) :
    (Q (.bl c) H → wpAny (model X.prog X.w) X.A (compareOp .In v u) (EP X pins σ Q) X.xe s) ∧ (Q (.bl (!c)) H → wpAny (model X.prog X.w) X.A (compareOp .NotIn v u) (EP X pins σ Q) X.xe s) := by
  cases a with
  | str x' =>
    cases b with
    | str z =>
      unfold Rep at ra rb
      subst ra rb
      exact in_str I rx ry h
    | _ => exact in_gen hu hK I rx ry o ra rb h
  | _ => exact in_gen hu hK I rx ry o ra rb h
theorem or_in (hu : X.A.units + 65 < cLine) (hK : X.K = S.K := by rfl) : OpR X (compareOp .In) (r2 S (oIn false)) := by
  intro pins s σ H x y v u Q I rx ry h
  obtain ⟨r, st, a, b, o, ra, rb, h⟩ := h
  unfold oIn at h
  cases q : inD st a b with
  | none => simp only [q] at h; exact h.elim
  | some c =>
    simp only [q] at h
    exact (in_any hu hK I rx ry o ra rb q).1 (end_ok o h rep_bl)
theorem or_notin (hu : X.A.units + 65 < cLine) (hK : X.K = S.K := by rfl) : OpR X (compareOp .NotIn) (r2 S (oIn true)) := by
  intro pins s σ H x y v u Q I rx ry h
  obtain ⟨r, st, a, b, o, ra, rb, h⟩ := h
  unfold oIn at h
  cases q : inD st a b with
  | none => simp only [q] at h; exact h.elim
  | some c =>
    simp only [q] at h
    exact (in_any hu hK I rx ry o ra rb q).2 (end_ok o h rep_bl)

/-! ### isinstance -/
/-- a built-in type by its number: 0 int, 1 bool, 2 str, 3 tuple, 4 list -/
def tyN : Nat → String
  | 0 => "int"
  | 1 => "bool"
  | 2 => "str"
  | 3 => "tuple"
  | _ => "list"
def tyOf (st : Sto) : D → Option String
  | .non => some "NoneType"
  | .bl _ => some "bool"
  | .int _ => some "int"
  | .str _ => some "str"
  | .tup _ => some "tuple"
  | .lst _ => some "list"
  | .scr _ => none
  | .obj _ _ _ => none
  | .exn _ _ => none
  | .ref k => match st[k]? with
    | some (.lst _) => some "list"
    | _ => none
theorem tyOf_ok {r : Rho} {st : Sto} {H : Hp} {d : D} {v : V} {T : String} (o : Ok S r st H) (h : Rep S r st.length H d v) (e : tyOf st d = some T) : TyX S.K H v (.type T) := by
  cases d with
  | non => unfold Rep at h; subst h; cases e; exact .base .non
  | bl b => unfold Rep at h; subst h; cases e; exact .base (.bl b)
  | int b => unfold Rep at h; subst h; cases e; exact .base (.int b)
  | str b => unfold Rep at h; subst h; cases e; exact .base (.str b)
  | tup ds =>
    unfold Rep at h
    cases e
    obtain ⟨a, xs, rfl, h1, _⟩ := h
    exact .base (.tup h1)
  | lst ds =>
    unfold Rep at h
    cases e
    obtain ⟨a, xs, rfl, h1, _⟩ := h
    exact .base (.lst h1)
  | scr ns => cases e
  | obj _ _ _ => cases e
  | exn _ _ => cases e
  | ref k =>
    cases q : st[k]? with
    | none => simp [tyOf, q] at e
    | some c =>
      cases c with
      | lst ds =>
        simp only [tyOf, q] at e
        cases e
        unfold Rep at h
        obtain ⟨xs, h1, _⟩ := o.cel k _ q
        rw [h.2]
        exact .base (.lst h1)
      | _ => simp [tyOf, q] at e
/-- whether a type is below another one -/
def subT (a b : String) : Bool := a == b || (a == "bool" && b == "int")
def oIsi (T : String) : O1 := fun d st => match tyOf st d with
  | some t => some (.bl (subT t T), st)
  | none => none
def okT (T : String) : Bool := ["int", "bool", "str", "tuple", "list"].contains T
theorem kit_sub {t T : String} (ht : ["NoneType", "int", "bool", "str", "tuple", "list"].contains t = true) (hT : okT T = true) : kitB t T = some (subT t T) := by
  have all : ∀ t ∈ ["NoneType", "int", "bool", "str", "tuple", "list"], ∀ T ∈ ["int", "bool", "str", "tuple", "list"], kitB t T = some (subT t T) := by decide +kernel
  exact all t (by simpa using ht) T (by simpa [okT] using hT)
theorem tyOf_in {st : Sto} {d : D} {t : String} (e : tyOf st d = some t) : ["NoneType", "int", "bool", "str", "tuple", "list"].contains t = true := by
  cases d <;> simp only [tyOf, Option.some.injEq, reduceCtorEq] at e
  case ref k =>
    split at e
    · cases e; decide
    · cases e
  all_goals (subst e; decide)
theorem e_isi {T : String} {a : Expr} {fa : EM D} {p p2 pos : Pos} {x : Str} (ha : PE X a (rdE S W fa)) (hm : X.mg "isinstance" = none) (hmT : X.mg x = none) (hT : okT T = true := by decide) (hvT : bootBuiltins x = some (.type T) := by decide +kernel)
    (hg : Gl X "isinstance" := by rfl) (hgT : Gl X x := by rfl) (hnT : x ≠ "__name__" := by decide) (hdT : (x == ("__debug__" : Str)) = false := by decide)
    (he : starEach [a, .Name x p2] X.env = (false, eval a X.env) :: starEach [.Name x p2] X.env := by rfl) (he2 : starEach [.Name x p2] X.env = (false, eval (.Name x p2) X.env) :: starEach [] X.env := by rfl)
    (hpl : (backTo pos (starEach [.Name x p2] X.env)).any (·.1) = false := by rfl) (hK : X.K = S.K := by rfl) :
    PE X (.Call (.Name "isinstance" p) [a, .Name x p2] [] pos) (rdE S W (m1 (oIsi T) fa)) := by
  refine PE.weak (pe_callB call_isi hg hm (by decide +kernel) (pa_cons ha (pa_cons (pe_bltn (v := .ty T) hgT hmT hvT rfl hnT hdT) pa_nil he2) he) (by decide) (by decide) he hpl) fun σ H Q h => ?_
  obtain ⟨r, env, st, o, eo, h⟩ := h
  refine ⟨r, env, st, o, eo, End.bind h fun d st1 r1 H1 v l1 o1 rx h1 => ?_⟩
  have h2 := h1.lift
  unfold oIsi at h2
  cases q : tyOf st1 d with
  | none => simp only [q] at h2; exact h2.elim
  | some t =>
    simp only [q] at h2
    refine ⟨v, .ty T, .type t, .type T, subT t T, rfl, .ty T, by rw [hK]; exact tyOf_ok o1 rx q, kit_ty (kit_sub (tyOf_in q) hT), end_ok o1 h2 rep_bl⟩
/-- isinstance(x, (T1, T2)) -/
def oIsi2 (T1 T2 : String) : O1 := fun d st => match tyOf st d with
  | some t => some (.bl (subT t T1 || subT t T2), st)
  | none => none
theorem e_isi2 {T1 T2 : String} {a : Expr} {fa : EM D} {p p2 p3 p4 pos : Pos} {k} {x1 x2 : Str} (ha : PE X a (rdE S W fa)) (hm : X.mg "isinstance" = none) (hm1 : X.mg x1 = none) (hm2 : X.mg x2 = none) (hT1 : okT T1 = true := by decide) (hT2 : okT T2 = true := by decide)
    (hv1 : bootBuiltins x1 = some (.type T1) := by decide +kernel) (hv2 : bootBuiltins x2 = some (.type T2) := by decide +kernel)
    (hg : Gl X "isinstance" := by rfl) (hg1 : Gl X x1 := by rfl) (hg2 : Gl X x2 := by rfl) (hn1 : x1 ≠ "__name__" := by decide) (hd1 : (x1 == ("__debug__" : Str)) = false := by decide) (hn2 : x2 ≠ "__name__" := by decide) (hd2 : (x2 == ("__debug__" : Str)) = false := by decide)
    (he : starEach [a, .Tuple [.Name x1 p2, .Name x2 p3] k p4] X.env = (false, eval a X.env) :: starEach [.Tuple [.Name x1 p2, .Name x2 p3] k p4] X.env := by rfl)
    (he2 : starEach [.Tuple [.Name x1 p2, .Name x2 p3] k p4] X.env = (false, eval (.Tuple [.Name x1 p2, .Name x2 p3] k p4) X.env) :: starEach [] X.env := by rfl)
    (he3 : starEach [.Name x1 p2, .Name x2 p3] X.env = (false, eval (.Name x1 p2) X.env) :: starEach [.Name x2 p3] X.env := by rfl) (he4 : starEach [.Name x2 p3] X.env = (false, eval (.Name x2 p3) X.env) :: starEach [] X.env := by rfl)
    (hpl : (backTo pos (starEach [.Tuple [.Name x1 p2, .Name x2 p3] k p4] X.env)).any (·.1) = false := by rfl) (hK : X.K = S.K := by rfl) :
    PE X (.Call (.Name "isinstance" p) [a, .Tuple [.Name x1 p2, .Name x2 p3] k p4] [] pos) (rdE S W (m1 (oIsi2 T1 T2) fa)) := by
  refine PE.weak (pe_callB call_isiT hg hm (by decide +kernel) (pa_cons ha (pa_cons (pe_tup (pa_cons (pe_bltn (v := .ty T1) hg1 hm1 hv1 rfl hn1 hd1) (pa_cons (pe_bltn (v := .ty T2) hg2 hm2 hv2 rfl hn2 hd2) pa_nil he4) he3)) pa_nil he2) he) (by decide) (by decide) he hpl) fun σ H Q h => ?_
  obtain ⟨r, env, st, o, eo, h⟩ := h
  refine ⟨r, env, st, o, eo, End.bind h fun d st1 r1 H1 v l1 o1 rx h1 => ?_⟩
  have h2 := h1.lift
  unfold oIsi2 at h2
  cases q : tyOf st1 d with
  | none => simp only [q] at h2; exact h2.elim
  | some t =>
    simp only [q] at h2
    refine ⟨by show 2 ≤ sizeLine; decide, fun tp hp => ?_⟩
    obtain ⟨l2, o2⟩ := o1.fresh (u := .tup [.ty T1, .ty T2]) hp
    have z1 := kit_ty (K := X.K) (kit_sub (tyOf_in q) hT1)
    have z2 := kit_ty (K := X.K) (kit_sub (tyOf_in q) hT2)
    refine ⟨v, tp, [.ty T1, .ty T2], .type t, [.type T1, .type T2], subT t T1 || subT t T2, rfl, upd_same, .cons (.ty T1) (.cons (.ty T2) .nil), by rw [hK]; exact tyOf_ok o2 (Rep.mono l2 _ _ rx) q, ?_, ?_⟩
    · refine kitAny_cons z1 (fun hb => ?_) fun hb => by rw [hb]; rfl
      rw [hb, Bool.false_or]
      refine kitAny_cons z2 (fun hb2 => ?_) fun hb2 => by rw [hb2]
      rw [hb2]
      exact kitAny_nil
    · exact h2 r1 _ _ l2 o2 rep_bl

/-! ### fields -/
def lookA : List Nat → List D → Nat → Option D
  | k :: ks, d :: ds, a => if k = a then some d else lookA ks ds a
  | _, _, _ => none
def putA : List Nat → List D → Nat → D → List Nat × List D
  | k :: ks, d :: ds, a, x => if k = a then (k :: ks, x :: ds) else
    let p := putA ks ds a x
    (k :: p.1, d :: p.2)
  | _, _, a, x => ([a], [x])
/-- classes and attributes as they stand behind the top -/
structure FldOk (S : Stat) (c a : Nat) : Prop where
  cl : Cls S.K (S.CA c)
  na : NoAttr S.K (S.CA c) (S.AN a)
theorem lookA_ok (hi : ∀ a b, S.AN a = S.AN b → a = b) {r : Rho} {n : Nat} {H : Hp} : ∀ {ks : List Nat} {ds : List D} {fs : List (Str × V)} {a : Nat} {d : D}, fs.map (·.1) = ks.map S.AN → RepL S r n H ds (fs.map (·.2)) → lookA ks ds a = some d →
    ∃ v, fs.lookup (S.AN a) = some v ∧ Rep S r n H d v
  | [], _, _, _, _, _, _, e => by simp [lookA] at e
  | _ :: _, [], _, _, _, _, _, e => by simp [lookA] at e
  | k :: ks, d :: ds, [], a, x, h1, h2, e => by simp at h1
  | k :: ks, d :: ds, (f, v) :: fs, a, x, h1, h2, e => by
    simp only [List.map_cons, List.cons.injEq] at h1
    obtain ⟨g1, g2⟩ := RepL.uncons h2
    unfold lookA at e
    by_cases hk : k = a
    · rw [if_pos hk] at e
      cases e
      subst hk
      exact ⟨v, by rw [List.lookup_cons, h1.1]; simp, g1⟩
    · rw [if_neg hk] at e
      obtain ⟨w, e1, e2⟩ := lookA_ok hi h1.2 g2 e
      refine ⟨w, ?_, e2⟩
      have : (S.AN a == f) = false := by
        rw [h1.1]
        simp only [beq_eq_false_iff_ne, ne_eq]
        exact fun z => hk (hi _ _ z).symm
      rw [List.lookup_cons, this]
      exact e1
def fldD (st : Sto) (cs : List Nat) (a : Nat) (d : D) : Option D := match d with
  | .obj c ks ds => if cs.contains c then lookA ks ds a else none
  | .ref k => match st[k]? with
    | some (.ins c ks ds) => if cs.contains c then lookA ks ds a else none
    | _ => none
  | _ => none
def mFld (cs : List Nat) (a : Nat) (fa : EM D) : EM D := fun env st => (fa env st).bind fun d st1 => match fldD st1 cs a d with
  | some x => .ok x st1
  | none => .bad
theorem e_fld {cs : List Nat} (a : Nat) {e : Expr} {f : Str} {fa : EM D} {pos : Pos} (he : PE X e (rdE S W fa)) (hf : ∀ c ∈ cs, FldOk S c a) (hi : ∀ a b, S.AN a = S.AN b → a = b) (hn : S.AN a = f := by rfl) (hb : attributeBase e f X.env (eval e X.env) = eval e X.env := by rfl) (hK : X.K = S.K := by rfl) :
    PE X (.Attribute e f pos) (rdE S W (mFld cs a fa)) := PE.weak (pe_fld he hb) fun σ H Q h => by
  obtain ⟨r, env, st, o, eo, h⟩ := h
  refine ⟨r, env, st, o, eo, End.bind h fun d st1 r1 H1 x l1 o1 rx h1 => ?_⟩
  have go : ∀ {c : Nat} {ks : List Nat} {ds : List D} {y : D} {p dx : Addr} {fs : List (Str × V)}, x = .ref p → H1 p = some (.ins (S.CA c) dx fs) → fs.map (·.1) = ks.map S.AN → RepL S r1 st1.length H1 ds (fs.map (·.2)) → cs.contains c = true → lookA ks ds a = some y →
      End S (Rep S) W σ r1 st1.length H1 Q (.ok y st1) → ∃ p C dx fs v, x = .ref p ∧ H1 p = some (.ins C dx fs) ∧ Cls X.K C ∧ NoAttr X.K C f ∧ fs.lookup f = some v ∧ Q v H1 := fun e1 e2 e3 e4 e5 e6 e7 => by
    obtain ⟨v, q1, q2⟩ := lookA_ok hi e3 e4 e6
    have F := hf _ (by simpa using e5)
    rw [hn] at q1
    refine ⟨_, _, _, _, v, e1, e2, by rw [hK]; exact F.cl, ?_, q1, e7 r1 H1 v o1.refl o1 q2⟩
    rw [hK, ← hn]
    exact F.na
  cases d with
  | obj c ks ds =>
    unfold Rep at rx
    obtain ⟨p, dx, fs, e1, e2, _, e3, e4⟩ := rx
    by_cases hc : cs.contains c = true
    · cases q : lookA ks ds a with
      | none => simp only [fldD, if_pos hc, q] at h1; exact h1.elim
      | some y =>
        simp only [fldD, if_pos hc, q] at h1
        exact go e1 e2 e3 e4 hc q h1
    · simp only [fldD, if_neg hc] at h1; exact h1.elim
  | ref k =>
    unfold Rep at rx
    cases qk : st1[k]? with
    | none => simp only [fldD, qk] at h1; exact h1.elim
    | some cell =>
      cases cell with
      | ins c ks ds =>
        obtain ⟨dx, fs, e2, e3, e4⟩ := o1.cel k _ qk
        by_cases hc : cs.contains c = true
        · cases q : lookA ks ds a with
          | none => simp only [fldD, qk, if_pos hc, q] at h1; exact h1.elim
          | some y =>
            simp only [fldD, qk, if_pos hc, q] at h1
            exact go rx.2 e2 e3 e4 hc q h1
        · simp only [fldD, qk, if_neg hc] at h1; exact h1.elim
      | _ => simp only [fldD, qk] at h1; exact h1.elim
  | _ => exact h1.elim

/-! ### methods of built-in types -/
abbrev OM := D → List D → Sto → Option (D × Sto)
def rM (S : Stat) (op : OM) : V → List V → Hp → VK → Prop := fun x xs H Q => ∃ r st d ds, Ok S r st H ∧ Rep S r st.length H d x ∧ RepL S r st.length H ds xs ∧ EndO S r st.length H Q (op d ds st)
def tyM (T : String) (d : D) (st : Sto) : Bool := match d with
  | .str _ => T == "str"
  | .lst _ => T == "list"
  | .scr _ => T == "list"
  | .ref k => match st[k]? with
    | some (.lst _) => T == "list"
    | some (.dK _ _) => T == "dict"
    | some (.dT _ _) => T == "dict"
    | _ => false
  | _ => false
theorem tyM_ok {r : Rho} {st : Sto} {H : Hp} {d : D} {v : V} {T : String} (o : Ok S r st H) (h : Rep S r st.length H d v) (e : tyM T d st = true) : tyV S.K T v H := by
  cases d with
  | str z =>
    unfold Rep at h
    subst h
    show T = "str"
    simpa [tyM] using e
  | lst ds =>
    unfold Rep at h
    obtain ⟨a, xs, rfl, h1, _⟩ := h
    exact .inl ⟨by simpa [tyM] using e, xs, SqL.of h1⟩
  | scr ns =>
    unfold Rep at h
    obtain ⟨a, rfl, h1⟩ := h
    exact .inl ⟨by simpa [tyM] using e, _, h1.sql⟩
  | ref k =>
    unfold Rep at h
    rw [h.2]
    cases q : st[k]? with
    | none => simp [tyM, q] at e
    | some c =>
      have e' : tyM T (.ref k) st = true := e
      cases c with
      | lst ds =>
        obtain ⟨xs, h1, _⟩ := o.cel k _ q
        simp only [tyM, q] at e
        exact .inl ⟨by simpa using e, xs, SqL.of h1⟩
      | dK ks ds =>
        obtain ⟨xs, h1, _⟩ := o.cel k _ q
        simp only [tyM, q] at e
        exact .inr (.inr (.inl ⟨by simpa using e, .inl ⟨xs, h1⟩⟩))
      | dT ks ds =>
        obtain ⟨xs, h1, _⟩ := o.cel k _ q
        simp only [tyM, q] at e
        exact .inr (.inr (.inl ⟨by simpa using e, .inr ⟨xs, h1⟩⟩))
      | ins _ _ _ => simp [tyM, q] at e
  | _ => simp [tyM] at e
def mMeth (T : String) (op : OM) (fo : EM D) (g : EM (List D)) : EM D := fun env st => (fo env st).bind fun d st1 => if tyM T d st1 = true then (g env st1).bind fun ds st2 => lift (op d ds st2) else .bad
theorem md_meth {T : String} {op : OM} {fo : EM D} {g : EM (List D)} (hK : X.K = S.K) : ∀ σ H Q, rdE S W (mMeth T op fo g) σ H Q → tBM X.K T (rM S op) (rdE S W fo) (rdA S W g) σ H Q := fun σ H Q h => by
  obtain ⟨r, env, st, o, eo, h⟩ := h
  refine ⟨r, env, st, o, eo, End.bind h fun d st1 r1 H1 x l1 o1 rx h1 => ?_⟩
  split at h1
  · rename_i ht
    refine ⟨by rw [hK]; exact tyM_ok o1 rx ht, r1, env, st1, o1, eo.mono l1, End.bind h1 fun ds st2 r2 H2 xs l2 o2 rxs h2 => ?_⟩
    exact ⟨r2, st2, d, ds, o2, Rep.mono l2 _ _ rx, rxs, h2.lift⟩
  · exact h1.elim
theorem md_meth0 {T : String} {op : OM} {fo : EM D} (hK : X.K = S.K) : ∀ σ H Q, rdE S W (mMeth T op fo mNil) σ H Q → tBM0 X.K T (rM S op) (rdE S W fo) σ H Q := fun σ H Q h => by
  obtain ⟨r, env, st, o, eo, h⟩ := h
  refine ⟨r, env, st, o, eo, End.bind h fun d st1 r1 H1 x l1 o1 rx h1 => ?_⟩
  split at h1
  · rename_i ht
    exact ⟨by rw [hK]; exact tyM_ok o1 rx ht, r1, st1, d, [], o1, rx, RepL.nil, h1.lift⟩
  · exact h1.elim
theorem MtR.weak {id : String} {t t' : V → List V → Hp → VK → Prop} (h : MtR X id t) (k : ∀ x xs H Q, t' x xs H Q → t x xs H Q) : MtR X id t' := fun pins s σ H x xs v us Q I rx rs q => h pins s σ H x xs v us Q I rx rs (k _ _ _ _ q)
theorem e_meth {T id : String} {op : OM} {fo : EM D} {g : EM (List D)} {o e : Expr} {es : List Expr} {name : Str} {apos cpos : Pos} (pa : PlainAttrs T) (slot : Slot T name id) (hty : typeOf (.builtin id) = pure (.type "method_descriptor")) (hm : MtR X id (rM S op))
    (ho : PE X o (rdE S W fo)) (ha : PA X (e :: es) (rdA S W g)) (hK : X.K = S.K := by rfl) (hbase : attributeBase o name X.env (eval o X.env) = eval o X.env := by rfl)
    (hfew : ((backTo cpos (starEach (e :: es) X.env)).all (fun x => !x.1) && (backToKw cpos (keywordEach [] X.env)).all (fun x => x.1.isSome)
      && decide ((e :: es).length + ([] : List Keyword).length + (if ([] : List Keyword).isEmpty then 0 else 1) < 30)) = true := by rfl)
    (hline : (apos.endLine == cpos.line) = true := by rfl) (hs : starEach (e :: es) X.env = (false, eval e X.env) :: starEach es X.env := by rfl) (hplain : (backTo cpos (starEach es X.env)).any (·.1) = false := by rfl) :
    PE X (.Call (.Attribute o name apos) (e :: es) [] cpos) (rdE S W (mMeth T op fo g)) := PE.weak (pe_bm pa slot hty hm ho ha hbase hfew hline hs hplain) (md_meth hK)
theorem e_meth0 {T id : String} {op : OM} {fo : EM D} {o : Expr} {name : Str} {apos cpos : Pos} (pa : PlainAttrs T) (slot : Slot T name id) (hty : typeOf (.builtin id) = pure (.type "method_descriptor")) (hm : MtR X id (rM S op))
    (ho : PE X o (rdE S W fo)) (hK : X.K = S.K := by rfl) (hbase : attributeBase o name X.env (eval o X.env) = eval o X.env := by rfl) (hline : (apos.endLine == cpos.line) = true := by rfl) :
    PE X (.Call (.Attribute o name apos) [] [] cpos) (rdE S W (mMeth T op fo mNil)) := PE.weak (pe_bm0 pa slot hty hm ho hbase hline) (md_meth0 hK)

/-! ### methods of lists: the receiver is a live cell -/
/-- the list of a live cell is written -/
def onCell (st : Sto) (d : D) (f : List D → Option (D × List D)) : Option (D × Sto) := match d with
  | .ref k => match st[k]? with
    | some (.lst ds) => match f ds with
      | some (x, es) => some (x, st.set k (.lst es))
      | none => none
    | _ => none
  | _ => none
theorem onCell_ok {r : Rho} {st : Sto} {H : Hp} {d : D} {v : V} {f : List D → Option (D × List D)} {Q : VK} (o : Ok S r st H) (h : Rep S r st.length H d v) (e : EndO S r st.length H Q (onCell st d f)) :
    ∃ p xs ds x es, v = .ref p ∧ H p = some (.lst xs) ∧ RepL S r st.length H ds xs ∧ f ds = some (x, es) ∧ ∀ u ys, Rep S r st.length H x u → RepL S r st.length H es ys → Q u (upd H p (.lst ys)) := by
  cases d with
  | ref k =>
    unfold Rep at h
    cases q : st[k]? with
    | none => simp only [onCell, q] at e; exact e.elim
    | some c =>
      cases c with
      | lst ds =>
        simp only [onCell, q] at e
        cases q2 : f ds with
        | none => simp only [q2] at e; exact e.elim
        | some p =>
          obtain ⟨x, es⟩ := p
          simp only [q2] at e
          obtain ⟨xs, h1, h2⟩ := o.cel k _ q
          refine ⟨r k, xs, ds, x, es, h.2, h1, h2, q2, fun u ys ru rys => ?_⟩
          obtain ⟨l1, o1⟩ := o.write (k := k) (u := .lst ys) (c := .lst es) h.1 trivial fun H' l' e' => ⟨ys, e', RepL.mono l' _ _ rys⟩
          exact e r _ u l1 o1 (Rep.mono l1 _ _ ru)
      | _ => simp only [onCell, q] at e; exact e.elim
  | _ => exact e.elim
def oAppend : OM := fun d as st => match as with
  | [y] => onCell st d fun ds => if ds.length < LIM then some (.non, ds ++ [y]) else none
  | _ => none
theorem m_append : MtR X "list.append" (rM S oAppend) := by
  intro pins s σ H x xs v us Q I rx rs h
  obtain ⟨r, st, d, ds, o, rd, rds, h⟩ := h
  match ds, rds, h with
  | [y], rds, h =>
    obtain ⟨p, ys, es, z, ws, e1, e2, e3, e4, k⟩ := onCell_ok o rd h
    unfold RepL at rds
    obtain ⟨yv, w, e5, r1, r2⟩ := rds
    unfold RepL at r2
    subst r2
    by_cases hl : es.length < LIM
    · rw [if_pos hl] at e4
      cases e4
      exact (by exact mt_append : MtR X "list.append" rAppend) pins s σ H x xs v us Q I rx rs ⟨p, ys, yv, e1, e5, e2, by rw [← e3.length]; exact lim_lt hl, k _ _ rep_non (e3.append (RepL.cons r1 RepL.nil))⟩
    · rw [if_neg hl] at e4; cases e4
  | [], _, h => exact h.elim
  | _ :: _ :: _, _, h => exact h.elim
end
end Cw

/-! Statements, targets, calls of defs, the promise of a def by its function. -/
namespace Cw
open PySem L2

inductive Out where
  | nx (env : En) (st : Sto)
  | rt (d : D) (st : Sto)
  | bk (env : En) (st : Sto)
  | ct (env : En) (st : Sto)
  | exc (c : Nat) (d : D) (env : En) (st : Sto)
  | bad
abbrev SM := En → Sto → Out
def Res.toS {α : Type} (x : Res α) (env : En) (g : α → Sto → Out) : Out := match x with
  | .ok a st => g a st
  | .exc c d st => .exc c d env st
  | .bad => .bad
def EndS (S : Stat) (W : WX) (r : Rho) (n : Nat) (H : Hp) (E : Ends) : Out → Prop
  | .nx env st => ∀ r' σ' H', Le r n H r' st.length H' → Ok S r' st H' → EnvOk S r' st.length H' env σ' → E.nx σ' H'
  | .rt d st => ∀ r' H' v, Le r n H r' st.length H' → Ok S r' st H' → Rep S r' st.length H' d v → E.rt v H'
  | .bk env st => ∀ r' σ' H', Le r n H r' st.length H' → Ok S r' st H' → EnvOk S r' st.length H' env σ' → E.bk σ' H'
  | .ct env st => ∀ r' σ' H', Le r n H r' st.length H' → Ok S r' st H' → EnvOk S r' st.length H' env σ' → E.ct σ' H'
  | .exc c d env st => ∀ r' σ' H' dx v, Le r n H r' st.length H' → Ok S r' st H' → EnvOk S r' st.length H' env σ' → H' dx = some (.xd [(S.EN c, v)]) → Rep S r' st.length H' d v → W (.ref (S.CA c)) (some dx) σ' H'
  | .bad => False
def rdS (S : Stat) (W : WX) (f : SM) : TS := fun E σ H => ∃ r env st, Ok S r st H ∧ EnvOk S r st.length H env σ ∧ EndS S W r st.length H E (f env st)
section
variable {S : Stat} {W : WX} {X : Cx} {r : Rho} {n : Nat} {H : Hp} {E E' : Ends} {σ : St} {env : En} {st : Sto}
theorem EndS.le {r1 : Rho} {n1 : Nat} {H1 : Hp} {x : Out} (l : Le r n H r1 n1 H1) (h : EndS S W r n H E x) : EndS S W r1 n1 H1 E x := by
  cases x with
  | nx env st => exact fun r' σ' H' l' => h r' σ' H' (l.trans l')
  | rt d st => exact fun r' H' v l' => h r' H' v (l.trans l')
  | bk env st => exact fun r' σ' H' l' => h r' σ' H' (l.trans l')
  | ct env st => exact fun r' σ' H' l' => h r' σ' H' (l.trans l')
  | exc c d env st => exact fun r' σ' H' dx v l' => h r' σ' H' dx v (l.trans l')
  | bad => exact h
/-- an expression's result, then the rest of a statement -/
theorem EndS.bind {α β : Type} {R : Rho → Nat → Hp → α → β → Prop} {Q' : β → Hp → Prop} {x : Res α} {g : α → Sto → Out} (h : EndS S W r n H E (x.toS env g)) (eo : EnvOk S r n H env σ)
    (k : ∀ a st1 r1 H1 v, Le r n H r1 st1.length H1 → Ok S r1 st1 H1 → R r1 st1.length H1 a v → EndS S W r1 st1.length H1 E (g a st1) → Q' v H1) : End S R W σ r n H Q' x := by
  cases x with
  | ok a st => exact fun r' H' v l o hr => k a st r' H' v l o hr (EndS.le l h)
  | exc c d st => exact fun r' H' dx v l o hx hr => h r' σ H' dx v l o (eo.mono l) hx hr
  | bad => exact h
theorem PE.by {e : Expr} {t : TE} (h : ∀ σ H Q, t σ H Q → ∃ t', PE X e t' ∧ t' σ H Q) : PE X e t := ⟨fun pins s σ H Q I q => let ⟨t', a, b⟩ := h σ H Q q; a.run pins s σ H Q I b⟩
theorem PI.by {tg e : Expr} {t : TI} (h : ∀ σ H R, t σ H R → ∃ t', PI X tg e t' ∧ t' σ H R) : PI X tg e t := ⟨fun pins s σ H Q I q => let ⟨t', a, b⟩ := h σ H Q q; a.run pins s σ H Q I b⟩
theorem PI.weak {tg e : Expr} {t t' : TI} (h : PI X tg e t) (k : ∀ σ H Q, t' σ H Q → t σ H Q) : PI X tg e t' := ⟨fun pins s σ H Q I q => h.run pins s σ H Q I (k σ H Q q)⟩

/-! ### blocks -/
def sNil : SM := fun env st => .nx env st
def sSeq (f g : SM) : SM := fun env st => match f env st with
  | .nx env' st' => g env' st'
  | o => o
def sIf (c : EM Bool) (f g : SM) : SM := fun env st => (c env st).toS env fun b st1 => if b = true then f env st1 else g env st1
def sExpr (f : EM D) : SM := fun env st => (f env st).toS env fun _ st1 => .nx env st1
def sRet (f : EM D) : SM := fun env st => (f env st).toS env fun d st1 => .rt d st1
def sRetN : SM := fun _ st => .rt .non st
def sBrk : SM := fun env st => .bk env st
def sCont : SM := fun env st => .ct env st
def sSet (i : Nat) (f : EM D) : SM := fun env st => (f env st).toS env fun d st1 => .nx (env.set i (some d)) st1
section
variable {f g : SM} {s1 : Stmt} {rest : List Stmt} {pos p1 : Pos} {a c : Expr} {fa : EM D} {fc : EM Bool}
theorem ss_nil : PSs X [] (rdS S W sNil) := PSs.weak pss_nil fun σ H E h => by
  obtain ⟨r, env, st, o, eo, h⟩ := h
  exact h r σ H o.refl o eo
theorem ss_one (h1 : PS X s1 (rdS S W f)) : PSs X [s1] (rdS S W f) := pss_one h1
theorem ss_cons (h1 : PS X s1 (rdS S W f)) (h2 : PSs X rest (rdS S W g)) : PSs X (s1 :: rest) (rdS S W (sSeq f g)) := PSs.weak (pss_cons h1 h2) fun σ H E h => by
  obtain ⟨r, env, st, o, eo, h⟩ := h
  refine ⟨r, env, st, o, eo, ?_⟩
  unfold sSeq at h
  cases q : f env st with
  | nx env' st' =>
    rw [q] at h
    exact fun r' σ' H' l' o' eo' => ⟨r', env', st', o', eo', EndS.le l' h⟩
  | rt d st' => rw [q] at h; exact h
  | bk env' st' => rw [q] at h; exact h
  | ct env' st' => rw [q] at h; exact h
  | exc c d env' st' => rw [q] at h; exact h
  | bad => rw [q] at h; exact h
theorem s_pass : PS X (.Pass pos) (rdS S W sNil) := PS.weak ps_pass fun σ H E h => by
  obtain ⟨r, env, st, o, eo, h⟩ := h
  exact h r σ H o.refl o eo
theorem s_brk : PS X (.Break pos) (rdS S W sBrk) := PS.weak ps_break fun σ H E h => by
  obtain ⟨r, env, st, o, eo, h⟩ := h
  exact h r σ H o.refl o eo
theorem s_cont : PS X (.Continue pos) (rdS S W sCont) := PS.weak ps_continue fun σ H E h => by
  obtain ⟨r, env, st, o, eo, h⟩ := h
  exact h r σ H o.refl o eo
theorem s_if {b1 b2 : List Stmt} (hc : PT X c (rdB S W fc)) (h1 : PSs X b1 (rdS S W f)) (h2 : PSs X b2 (rdS S W g)) : PS X (.If c b1 b2 pos) (rdS S W (sIf fc f g)) := PS.weak (ps_if hc h1 h2) fun σ H E h => by
  obtain ⟨r, env, st, o, eo, h⟩ := h
  refine ⟨r, env, st, o, eo, EndS.bind h eo fun b st1 r1 H1 v l1 o1 rx h1 => ?_⟩
  obtain rfl : v = b := rx
  cases v with
  | true => exact iteT ⟨r1, env, st1, o1, eo.mono l1, h1⟩
  | false => exact iteF ⟨r1, env, st1, o1, eo.mono l1, h1⟩
theorem s_expr (he : PE X a (rdE S W fa)) (hs : swapsWith a none pos.line X.env = pure false := by rfl) : PS X (.Expr a pos) (rdS S W (sExpr fa)) := PS.weak (ps_expr he hs) fun σ H E h => by
  obtain ⟨r, env, st, o, eo, h⟩ := h
  refine ⟨r, env, st, o, eo, EndS.bind h eo fun d st1 r1 H1 v l1 o1 rx h1 => ?_⟩
  exact h1 r1 σ H1 o1.refl o1 (eo.mono l1)
theorem s_ret (he : PE X a (rdE S W fa)) : PS X (.Return (some a) pos) (rdS S W (sRet fa)) := PS.weak (ps_ret he) fun σ H E h => by
  obtain ⟨r, env, st, o, eo, h⟩ := h
  refine ⟨r, env, st, o, eo, EndS.bind h eo fun d st1 r1 H1 v l1 o1 rx h1 => ?_⟩
  exact h1 r1 H1 v o1.refl o1 rx
theorem s_retN : PS X (.Return none pos) (rdS S W sRetN) := PS.weak ps_retN fun σ H E h => by
  obtain ⟨r, env, st, o, eo, h⟩ := h
  exact h r H .non o.refl o rep_non
theorem s_set (i : Nat) {x : Str} (he : PE X a (rdE S W fa)) (hN : X.N.Nodup) (hi : X.N[i]? = some x := by rfl) (hx : Loc X.env.scope x := by first | exact Or.inl rfl | exact Or.inr rfl) (hs : swapsWith a (some (.Name x p1)) pos.line X.env = pure false := by rfl)
    (hf : X.fn x = true ∨ X.env.scope.names.lookup x = some .local := by first | exact .inl rfl | exact .inr rfl) : PS X (.Assign [.Name x p1] a pos) (rdS S W (sSet i fa)) := PS.weak (ps_set hN hi hx he hs hf) fun σ H E h => by
  obtain ⟨r, env, st, o, eo, h⟩ := h
  refine ⟨r, env, st, o, eo, EndS.bind h eo fun d st1 r1 H1 v l1 o1 rx h1 => ?_⟩
  exact h1 r1 _ H1 o1.refl o1 ((eo.mono l1).set rx)
end

/-! ### targets -/
abbrev GM := D → En → Sto → Option (En × Sto)
def EndG (S : Stat) (r : Rho) (n : Nat) (H : Hp) (Q : St → Hp → Prop) : Option (En × Sto) → Prop
  | some (env, st) => ∀ r' σ' H', Le r n H r' st.length H' → Ok S r' st H' → EnvOk S r' st.length H' env σ' → Q σ' H'
  | none => False
def rdG (S : Stat) (g : GM) : TG := fun v σ H Q => ∃ r env st d, Ok S r st H ∧ EnvOk S r st.length H env σ ∧ Rep S r st.length H d v ∧ EndG S r st.length H Q (g d env st)
def rdGs (S : Stat) (g : List D → En → Sto → Option (En × Sto)) : TGs := fun vs σ H Q => ∃ r env st ds, Ok S r st H ∧ EnvOk S r st.length H env σ ∧ RepL S r st.length H ds vs ∧ EndG S r st.length H Q (g ds env st)
theorem EndG.le {r1 : Rho} {n1 : Nat} {H1 : Hp} {Q : St → Hp → Prop} {x : Option (En × Sto)} (l : Le r n H r1 n1 H1) (h : EndG S r n H Q x) : EndG S r1 n1 H1 Q x := by
  cases x with
  | none => exact h
  | some p => exact fun r' σ' H' l' => h r' σ' H' (l.trans l')
theorem PG.weak {e : Expr} {t t' : TG} (h : PG X e t) (k : ∀ v σ H Q, t' v σ H Q → t v σ H Q) : PG X e t' := ⟨fun pins s σ H v u Q I rv q => h.run pins s σ H v u Q I rv (k v σ H Q q)⟩
theorem PGs.weak {e : List Expr} {t t' : TGs} (h : PGs X e t) (k : ∀ v σ H Q, t' v σ H Q → t v σ H Q) : PGs X e t' := ⟨fun pins s σ H v u Q I rv q => h.run pins s σ H v u Q I rv (k v σ H Q q)⟩
def gN (i : Nat) : GM := fun d env st => some (env.set i (some d), st)
def gsNil : List D → En → Sto → Option (En × Sto) := fun ds env st => if ds.isEmpty then some (env, st) else none
def gsCons (g : GM) (gs : List D → En → Sto → Option (En × Sto)) : List D → En → Sto → Option (En × Sto) := fun ds env st => match ds with
  | d :: ds => match g d env st with
    | some (env1, st1) => gs ds env1 st1
    | none => none
  | [] => none
def gT (n : Nat) (gs : List D → En → Sto → Option (En × Sto)) : GM := fun d env st => match d with
  | .tup ds => if ds.length = n then gs ds env st else none
  | _ => none
theorem g_name (i : Nat) {x : Str} {pos : Pos} (hN : X.N.Nodup) (hi : X.N[i]? = some x := by rfl) (hx : Loc X.env.scope x := by first | exact Or.inl rfl | exact Or.inr rfl) (hf : X.fn x = true ∨ X.env.scope.names.lookup x = some .local := by first | exact .inl rfl | exact .inr rfl) :
    PG X (.Name x pos) (rdG S (gN i)) := PG.weak (pg_name hN hi hx hf) fun v σ H Q h => by
  obtain ⟨r, env, st, d, o, eo, rv, h⟩ := h
  exact h r _ H o.refl o (eo.set rv)
theorem gs_nil : PGs X [] (rdGs S gsNil) := PGs.weak pgs_nil fun v σ H Q h => by
  obtain ⟨r, env, st, ds, o, eo, rv, h⟩ := h
  cases ds with
  | nil =>
    unfold RepL at rv
    exact ⟨rv, h r _ H o.refl o eo⟩
  | cons d ds => exact h.elim
theorem gs_cons {e : Expr} {es : List Expr} {g : GM} {gs : List D → En → Sto → Option (En × Sto)} (h1 : PG X e (rdG S g)) (h2 : PGs X es (rdGs S gs))
    (hs : (assignEach (e :: es) X.env).map (·.2) = assign e X.env :: (assignEach es X.env).map (·.2) := by rfl) : PGs X (e :: es) (rdGs S (gsCons g gs)) := PGs.weak (pgs_cons h1 h2 hs) fun v σ H Q h => by
  obtain ⟨r, env, st, ds, o, eo, rv, h⟩ := h
  cases ds with
  | nil => exact h.elim
  | cons d ds =>
    unfold RepL at rv
    obtain ⟨v1, w, e1, r1, r2⟩ := rv
    refine ⟨v1, w, e1, r, env, st, d, o, eo, r1, ?_⟩
    unfold gsCons at h
    cases q : g d env st with
    | none => simp only [q] at h; exact h.elim
    | some p =>
      obtain ⟨env1, st1⟩ := p
      simp only [q] at h
      exact fun r' σ' H' l' o' eo' => ⟨r', env1, st1, ds, o', eo', RepL.mono l' _ _ r2, EndG.le l' h⟩
theorem g_tup {es : List Expr} {k : Nat} {pos : Pos} {gs : List D → En → Sto → Option (En × Sto)} {n : Nat} (h : PGs X es (rdGs S gs)) (hn : (assignEach es X.env).length = n := by rfl) (hc : X.calm = true := by rfl)
    (hst : (assignEach es X.env).findIdx? (·.1) = none := by rfl) (hK : X.K = S.K := by rfl) : PG X (.Tuple es k pos) (rdG S (gT n gs)) := PG.weak (pg_tup hc h hn hst) fun v σ H Q h => by
  obtain ⟨r, env, st, d, o, eo, rv, h⟩ := h
  cases d with
  | tup ds =>
    unfold Rep at rv
    obtain ⟨p, xs, e1, e2, e3⟩ := rv
    unfold gT at h
    by_cases hl : ds.length = n
    · simp only [if_pos hl] at h
      exact ⟨p, xs, e1, sqT_of e2, by rw [← e3.length]; exact hl, r, env, st, ds, o, eo, e3, h⟩
    · simp only [if_neg hl] at h; exact h.elim
  | _ => exact h.elim
/-- o[i] = .. of a live list -/
def gSet (fo fi : EM D) : GM := fun v env st => match fo env st with
  | .ok d st1 => match fi env st1 with
    | .ok (.int i) st2 => match d with
      | .ref k => match st2[k]? with
        | some (.lst ds) => match ixN ds.length i with
          | some j => some (env, st2.set k (.lst (ds.set j v)))
          | none => none
        | _ => none
      | _ => none
    | _ => none
  | _ => none
theorem g_sub {o i : Expr} {fo fi : EM D} {pos : Pos} (ho : PE X o (rdE S W fo)) (hi : PE X i (rdE S W fi)) (ha : ∀ v, assign (.Subscript o i pos) X.env v = (do
      let ov ← holding [v] (eval o X.env)
      let iv ← holding [v, ov] (eval i X.env)
      standAt pos
      holding [v, ov, iv] (setItem ov iv v)
      release [v, ov, iv] []) := by intro _; rfl) : PG X (.Subscript o i pos) (rdG S (gSet fo fi)) := PG.weak (pg_sub ho hi set_list ha) fun v σ H Q h => by
  obtain ⟨r, env, st, d, o, eo, rv, h⟩ := h
  refine ⟨r, env, st, o, eo, ?_⟩
  unfold gSet at h
  cases q1 : fo env st with
  | ok dl st1 =>
    simp only [q1] at h
    intro r1 H1 x l1 o1 rx
    refine ⟨r1, env, st1, o1, eo.mono l1, ?_⟩
    cases q2 : fi env st1 with
    | ok di st2 =>
      simp only [q2] at h
      intro r2 H2 y l2 o2 ry
      cases di with
      | int i =>
        simp only at h
        cases dl with
        | ref k =>
          simp only at h
          cases q3 : st2[k]? with
          | none => simp only [q3] at h; exact h.elim
          | some c =>
            cases c with
            | lst ds =>
              simp only [q3] at h
              cases q4 : ixN ds.length i with
              | none => simp only [q4] at h; exact h.elim
              | some j =>
                simp only [q4] at h
                have rx2 := Rep.mono l2 _ _ rx
                unfold Rep at rx2 ry
                obtain ⟨xs, e1, e2⟩ := o2.cel k _ q3
                refine ⟨r2 k, xs, i, j, rx2.2, ry, e1, by rw [← e2.length]; exact q4, ?_⟩
                have rv2 := Rep.mono (l1.trans l2) _ _ rv
                obtain ⟨l3, o3⟩ := o2.write (k := k) (u := .lst (xs.set j v)) (c := .lst (ds.set j d)) rx2.1 trivial fun H' l' e' => ⟨_, e', RepL.mono l' _ _ (e2.set rv2)⟩
                exact h r2 σ _ (l1.trans (l2.trans l3)) o3 (eo.mono (l1.trans (l2.trans l3)))
            | _ => simp only [q3] at h; exact h.elim
        | _ => exact h.elim
      | _ => exact h.elim
    | exc c d st2 => simp only [q2] at h; exact h.elim
    | bad => simp only [q2] at h; exact h.elim
  | exc c d st2 => simp only [q1] at h; exact h.elim
  | bad => simp only [q1] at h; exact h.elim
def sAsg (g : GM) (f : EM D) : SM := fun env st => (f env st).toS env fun d st1 => match g d env st1 with
  | some (env', st') => .nx env' st'
  | none => .bad
theorem s_asg {tg a : Expr} {fa : EM D} {g : GM} {pos : Pos} (he : PE X a (rdE S W fa)) (hg : PG X tg (rdG S g)) (hs : swapsWithSole [tg] a pos.line X.env = pure false := by rfl) (hw : swappedStores [tg] a X.env = pure none := by rfl)
    (h1 : (assignEach [tg] X.env).map (·.2) = [assign tg X.env] := by rfl) : PS X (.Assign [tg] a pos) (rdS S W (sAsg g fa)) := PS.weak (ps_asg he hg hs hw h1) fun σ H E h => by
  obtain ⟨r, env, st, o, eo, h⟩ := h
  refine ⟨r, env, st, o, eo, EndS.bind h eo fun d st1 r1 H1 v l1 o1 rx h1 => ⟨r1, env, st1, d, o1, eo.mono l1, rx, ?_⟩⟩
  cases q : g d env st1 with
  | none => simp only [q] at h1; exact h1.elim
  | some p =>
    obtain ⟨env', st'⟩ := p
    simp only [q] at h1
    exact h1
/-- x += e, x -= e of ints -/
def sAug (i : Nat) (f : Int → Int → Int) (fe : EM D) : SM := fun env st => match env[i]? with
  | some (some (.int a)) => (fe env st).toS env fun d st1 => match d with
    | .int b => .nx (env.set i (some (.int (f a b)))) st1
    | _ => .bad
  | _ => .bad
theorem s_aug (i : Nat) {op : Operator} {f : Int → Int → Int} {x : Str} {a : Expr} {fa : EM D} {pos p1 : Pos} (ho : PIp X op (ipI f)) (he : PE X a (rdE S W fa)) (hN : X.N.Nodup) (hi : X.N[i]? = some x := by rfl) (hx : Loc X.env.scope x := by first | exact Or.inl rfl | exact Or.inr rfl)
    (hf : X.fn x = true ∨ X.env.scope.names.lookup x = some .local := by first | exact .inl rfl | exact .inr rfl) : PS X (.AugAssign (.Name x p1) op a pos) (rdS S W (sAug i f fa)) := PS.weak (ps_aug hN hi hx he ho hf) fun σ H E h => by
  obtain ⟨r, env, st, o, eo, h⟩ := h
  unfold sAug at h
  cases q : env[i]? with
  | none => simp only [q] at h; exact h.elim
  | some y =>
    cases y with
    | none => simp only [q] at h; exact h.elim
    | some d =>
      cases d with
      | int n =>
        simp only [q] at h
        obtain ⟨v, e1, e2⟩ := eo.at_ i _ q
        unfold Rep at e2
        subst e2
        refine ⟨.int n, e1, r, env, st, o, eo, EndS.bind h eo fun d st1 r1 H1 w l1 o1 rx h1 => ?_⟩
        cases d with
        | int m =>
          unfold Rep at rx
          exact ⟨n, m, rfl, rx, h1 r1 _ H1 o1.refl o1 ((eo.mono l1).set rep_int)⟩
        | _ => exact h1.elim
      | _ => simp only [q] at h; exact h.elim
/-! ### while -/
def sWhile (c : EM Bool) (b : SM) : Nat → SM
  | 0 => fun _ _ => .bad
  | m + 1 => fun env st => (c env st).toS env fun t st1 => if t = true then match b env st1 with
    | .nx env2 st2 => sWhile c b m env2 st2
    | .ct env2 st2 => sWhile c b m env2 st2
    | .bk env2 st2 => .nx env2 st2
    | o => o else .nx env st1
theorem s_while (m : Nat) {c : Expr} {body : List Stmt} {fc : EM Bool} {fb : SM} {pos : Pos} (hp : PassesOwn (model X.prog X.w) X.A X.env X.xe) (hc : PT X c (rdB S W fc)) (hb : PSs X body (rdS S W fb)) : PS X (.While c body [] pos) (rdS S W (sWhile fc fb m)) :=
  PS.weak (ps_while hp hc hb) fun σ H E h => by
  refine ⟨fun k σ H => rdS S W (sWhile fc fb k) E σ H, ⟨m, h⟩, ?_⟩
  rintro k σ1 H1 ⟨r, env, st, o, eo, h⟩
  cases k with
  | zero => exact h.elim
  | succ k =>
    refine ⟨r, env, st, o, eo, EndS.bind h eo fun t st1 r1 H2 v l1 o1 rx h1 => ?_⟩
    obtain rfl : v = t := rx
    cases v with
    | false => exact iteF (h1 r1 σ1 H2 o1.refl o1 (eo.mono l1))
    | true =>
      refine iteT ⟨fun σ' H' => rdS S W (sWhile fc fb k) E σ' H', fun σ' H' z => ⟨k, Nat.lt_succ_self k, z⟩, r1, env, st1, o1, eo.mono l1, ?_⟩
      rw [if_pos rfl] at h1
      cases q : fb env st1 with
      | nx env' st' => rw [q] at h1; exact fun r' σ' H' l' o' eo' => ⟨r', env', st', o', eo', EndS.le l' h1⟩
      | ct env' st' => rw [q] at h1; exact fun r' σ' H' l' o' eo' => ⟨r', env', st', o', eo', EndS.le l' h1⟩
      | bk env' st' => rw [q] at h1; exact h1
      | rt d st' => rw [q] at h1; exact h1
      | exc c d env' st' => rw [q] at h1; exact h1
      | bad => rw [q] at h1; exact h1
end

/-! ### a def's end: what it made is frozen and dropped -/
mutual
def below (n : Nat) : D → Bool
  | .tup ds => belowL n ds
  | .lst ds => belowL n ds
  | .obj _ _ ds => belowL n ds
  | .ref k => decide (k < n)
  | .exn _ _ => false
  | _ => true
def belowL (n : Nat) : List D → Bool
  | [] => true
  | d :: ds => below n d && belowL n ds
end
def belowC (n : Nat) : Cell → Bool
  | .lst ds => belowL n ds
  | .ins _ _ ds => belowL n ds
  | .dK _ ds => belowL n ds
  | .dT _ ds => belowL n ds
mutual
def dbeq : D → D → Bool
  | .non, .non => true
  | .bl a, .bl b => a == b
  | .int a, .int b => a == b
  | .str a, .str b => decide (a = b)
  | .tup a, .tup b => dbeqL a b
  | .lst a, .lst b => dbeqL a b
  | .scr a, .scr b => a == b
  | .obj c ks a, .obj c' ks' b => c == c' && ks == ks' && dbeqL a b
  | .ref a, .ref b => a == b
  | .exn c a, .exn c' b => c == c' && dbeq a b
  | _, _ => false
def dbeqL : List D → List D → Bool
  | [], [] => true
  | a :: as, b :: bs => dbeq a b && dbeqL as bs
  | _, _ => false
end
mutual
theorem dbeq_eq : ∀ a b : D, dbeq a b = true → a = b
  | .non, b, h => by cases b <;> simp [dbeq] at h; rfl
  | .bl a, b, h => by cases b <;> simp [dbeq] at h; rw [h]
  | .int a, b, h => by cases b <;> simp [dbeq] at h; rw [h]
  | .str a, b, h => by cases b <;> simp [dbeq] at h; rw [h]
  | .tup a, b, h => by
    cases b <;> simp [dbeq] at h
    rw [dbeqL_eq _ _ h]
  | .lst a, b, h => by
    cases b <;> simp [dbeq] at h
    rw [dbeqL_eq _ _ h]
  | .scr a, b, h => by cases b <;> simp [dbeq] at h; rw [h]
  | .obj c ks a, b, h => by
    cases b <;> simp [dbeq] at h
    rw [h.1.1, h.1.2, dbeqL_eq _ _ h.2]
  | .ref a, b, h => by cases b <;> simp [dbeq] at h; rw [h]
  | .exn c a, b, h => by
    cases b <;> simp [dbeq] at h
    rw [h.1, dbeq_eq _ _ h.2]
theorem dbeqL_eq : ∀ a b : List D, dbeqL a b = true → a = b
  | [], b, h => by cases b <;> simp [dbeqL] at h; rfl
  | a :: as, b, h => by
    cases b with
    | nil => simp [dbeqL] at h
    | cons b bs =>
      simp [dbeqL] at h
      rw [dbeq_eq a b h.1, dbeqL_eq as bs h.2]
end
mutual
theorem dbeq_refl : ∀ a : D, dbeq a a = true
  | .non => by simp [dbeq]
  | .bl a => by simp [dbeq]
  | .int a => by simp [dbeq]
  | .str a => by simp [dbeq]
  | .tup a => by simp [dbeq, dbeqL_refl a]
  | .lst a => by simp [dbeq, dbeqL_refl a]
  | .scr a => by simp [dbeq]
  | .obj c ks a => by simp [dbeq, dbeqL_refl a]
  | .ref a => by simp [dbeq]
  | .exn c a => by simp [dbeq, dbeq_refl a]
theorem dbeqL_refl : ∀ a : List D, dbeqL a a = true
  | [] => by simp [dbeqL]
  | a :: as => by simp [dbeqL, dbeq_refl a, dbeqL_refl as]
end
def cbeq : Cell → Cell → Bool
  | .lst a, .lst b => dbeqL a b
  | .ins c ks a, .ins c' ks' b => c == c' && ks == ks' && dbeqL a b
  | .dK ks a, .dK ks' b => decide (ks = ks') && dbeqL a b
  | .dT ks a, .dT ks' b => decide (ks = ks') && dbeqL a b
  | _, _ => false
theorem cbeq_eq {a b : Cell} (h : cbeq a b = true) : a = b := by
  cases a <;> cases b <;> simp [cbeq] at h
  · rw [dbeqL_eq _ _ h]
  · rw [h.1.1, h.1.2, dbeqL_eq _ _ h.2]
  · rw [h.1, dbeqL_eq _ _ h.2]
  · rw [h.1, dbeqL_eq _ _ h.2]
theorem cbeq_refl (a : Cell) : cbeq a a = true := by cases a <;> simp [cbeq, dbeqL_refl]
def popB (st st' : Sto) : Bool := (List.range st.length).all fun k => match st[k]?, st'[k]? with
  | some a, some b => cbeq a b || belowC st.length b
  | _, _ => false
mutual
def frzG (on : Nat → Option D) : D → Option D
  | .ref k => on k
  | .tup ds => match frzL on ds with
    | some es => some (.tup es)
    | none => none
  | .lst ds => match frzL on ds with
    | some es => some (.lst es)
    | none => none
  | .obj c ks ds => match frzL on ds with
    | some es => some (.obj c ks es)
    | none => none
  | .exn _ _ => none
  | d => some d
def frzL (on : Nat → Option D) : List D → Option (List D)
  | [] => some []
  | d :: ds => match frzG on d, frzL on ds with
    | some e, some es => some (e :: es)
    | _, _ => none
end
def frz (st : Sto) (n : Nat) : Nat → D → Option D
  | 0 => frzG fun k => if k < n then some (.ref k) else none
  | f + 1 => frzG fun k => if k < n then some (.ref k) else match st[k]? with
    | some (.lst ds) => match frzL (fun j => frz st n f (.ref j)) ds with
      | some es => some (.lst es)
      | none => none
    | some (.ins c ks ds) => match frzL (fun j => frz st n f (.ref j)) ds with
      | some es => some (.obj c ks es)
      | none => none
    | _ => none
def popR (keep : Bool) (st : Sto) (x : Res D) : Res D := if keep then x else match x with
  | .ok d st' => match frz st' st.length 5 d with
    | some e => if popB st st' = true then .ok e (st'.take st.length) else .bad
    | none => .bad
  | .exc c d st' => if (popB st st' && below st.length d) = true then .exc c d (st'.take st.length) else .bad
  | .bad => .bad
def bodyR : Out → Res D
  | .nx _ st => .ok .non st
  | .rt d st => .ok d st
  | .exc c d _ st => .exc c d st
  | _ => .bad
def runF (keep : Bool) (slots : Nat) (f : SM) (ds : List D) (st : Sto) : Res D := popR keep st (bodyR (f (ds.map some ++ List.replicate (slots - ds.length) none) st))
section
variable {S : Stat} {r : Rho} {n n' : Nat} {H : Hp} {st : Sto}
mutual
theorem below_of (hx : S.ex = none) : ∀ (d : D) (v : V), Rep S r n H d v → below n d = true
  | .tup ds, v, h => by
    unfold Rep at h
    obtain ⟨_, _, _, _, h⟩ := h
    exact (by simpa [below] using belowL_of hx ds _ h)
  | .lst ds, v, h => by
    unfold Rep at h
    obtain ⟨_, _, _, _, _, h⟩ := h
    exact (by simpa [below] using belowL_of hx ds _ h)
  | .obj c ks ds, v, h => by
    unfold Rep at h
    obtain ⟨_, _, _, _, _, _, _, h⟩ := h
    exact (by simpa [below] using belowL_of hx ds _ h)
  | .ref k, v, h => by
    unfold Rep at h
    simpa [below] using h.1
  | .non, _, _ => rfl
  | .bl _, _, _ => rfl
  | .int _, _, _ => rfl
  | .str _, _, _ => rfl
  | .scr _, _, _ => rfl
  | .exn _ _, v, h => by
    unfold Rep at h
    obtain ⟨_, _, _, e, _⟩ := h
    rw [hx] at e
    cases e
theorem belowL_of (hx : S.ex = none) : ∀ (ds : List D) (vs : List V), RepL S r n H ds vs → belowL n ds = true
  | [], _, _ => rfl
  | d :: ds, vs, h => by
    unfold RepL at h
    obtain ⟨v, w, _, h1, h2⟩ := h
    simp [belowL, below_of hx d v h1, belowL_of hx ds w h2]
end
theorem Off.cut {a : Addr} (hn : n ≤ n') (h : Off r n' a) : Off r n a := fun k hk => h k (Nat.lt_of_lt_of_le hk hn)
mutual
theorem Rep.cut (hn : n ≤ n') : ∀ (d : D) (v : V), Rep S r n' H d v → below n d = true → Rep S r n H d v
  | .tup ds, v, h, b => by
    unfold Rep at h ⊢
    obtain ⟨a, xs, e, h1, h2⟩ := h
    exact ⟨a, xs, e, h1, RepL.cut hn ds xs h2 (by simpa [below] using b)⟩
  | .lst ds, v, h, b => by
    unfold Rep at h ⊢
    obtain ⟨a, xs, e, h1, ho, h2⟩ := h
    exact ⟨a, xs, e, h1, ho.cut hn, RepL.cut hn ds xs h2 (by simpa [below] using b)⟩
  | .obj c ks ds, v, h, b => by
    unfold Rep at h ⊢
    obtain ⟨a, dx, fs, e, h1, ho, h2, h3⟩ := h
    exact ⟨a, dx, fs, e, h1, ho.cut hn, h2, RepL.cut hn ds _ h3 (by simpa [below] using b)⟩
  | .ref k, v, h, b => by
    unfold Rep at h ⊢
    exact ⟨by simpa [below] using b, h.2⟩
  | .non, v, h, b => by unfold Rep at h ⊢; exact h
  | .bl _, v, h, b => by unfold Rep at h ⊢; exact h
  | .int _, v, h, b => by unfold Rep at h ⊢; exact h
  | .str _, v, h, b => by unfold Rep at h ⊢; exact h
  | .scr _, v, h, b => by unfold Rep at h ⊢; exact h
  | .exn _ _, v, h, b => by simp [below] at b
theorem RepL.cut (hn : n ≤ n') : ∀ (ds : List D) (vs : List V), RepL S r n' H ds vs → belowL n ds = true → RepL S r n H ds vs
  | [], vs, h, b => by unfold RepL at h ⊢; exact h
  | d :: ds, vs, h, b => by
    unfold RepL at h ⊢
    obtain ⟨v, w, e, h1, h2⟩ := h
    have b' : below n d = true ∧ belowL n ds = true := by simpa [belowL] using b
    exact ⟨v, w, e, Rep.cut hn d v h1 b'.1, RepL.cut hn ds w h2 b'.2⟩
end
mutual
theorem frzG_ok {on : Nat → Option D} (hn : n ≤ n') (hon : ∀ k d v, Rep S r n' H (.ref k) v → on k = some d → Rep S r n H d v) : ∀ (d e : D) (v : V), Rep S r n' H d v → frzG on d = some e → Rep S r n H e v
  | .ref k, e, v, h, q => hon k e v h (by simpa [frzG] using q)
  | .tup ds, e, v, h, q => by
    unfold frzG at q
    unfold Rep at h
    obtain ⟨a, xs, e1, h1, h2⟩ := h
    split at q
    · rename_i es q2
      cases q
      unfold Rep
      exact ⟨a, xs, e1, h1, frzL_ok hn hon ds es xs h2 q2⟩
    · cases q
  | .lst ds, e, v, h, q => by
    unfold frzG at q
    unfold Rep at h
    obtain ⟨a, xs, e1, h1, ho, h2⟩ := h
    split at q
    · rename_i es q2
      cases q
      unfold Rep
      exact ⟨a, xs, e1, h1, ho.cut hn, frzL_ok hn hon ds es xs h2 q2⟩
    · cases q
  | .obj c ks ds, e, v, h, q => by
    unfold frzG at q
    unfold Rep at h
    obtain ⟨a, dx, fs, e1, h1, ho, h2, h3⟩ := h
    split at q
    · rename_i es q2
      cases q
      unfold Rep
      exact ⟨a, dx, fs, e1, h1, ho.cut hn, h2, frzL_ok hn hon ds es _ h3 q2⟩
    · cases q
  | .non, e, v, h, q => by unfold frzG at q; cases q; unfold Rep at h ⊢; exact h
  | .bl _, e, v, h, q => by unfold frzG at q; cases q; unfold Rep at h ⊢; exact h
  | .int _, e, v, h, q => by unfold frzG at q; cases q; unfold Rep at h ⊢; exact h
  | .str _, e, v, h, q => by unfold frzG at q; cases q; unfold Rep at h ⊢; exact h
  | .scr _, e, v, h, q => by unfold frzG at q; cases q; unfold Rep at h ⊢; exact h
  | .exn _ _, e, v, h, q => by unfold frzG at q; cases q
theorem frzL_ok {on : Nat → Option D} (hn : n ≤ n') (hon : ∀ k d v, Rep S r n' H (.ref k) v → on k = some d → Rep S r n H d v) : ∀ (ds es : List D) (vs : List V), RepL S r n' H ds vs → frzL on ds = some es → RepL S r n H es vs
  | [], es, vs, h, q => by
    unfold frzL at q
    cases q
    unfold RepL at h ⊢
    exact h
  | d :: ds, es, vs, h, q => by
    unfold frzL at q
    unfold RepL at h
    obtain ⟨v, w, e, h1, h2⟩ := h
    split at q
    · rename_i e1 es1 q1 q2
      cases q
      unfold RepL
      exact ⟨v, w, e, frzG_ok hn hon d e1 v h1 q1, frzL_ok hn hon ds es1 w h2 q2⟩
    · cases q
end
theorem frz_ok (o : Ok S r st H) (hn : n ≤ st.length) : ∀ (f : Nat) (d e : D) (v : V), Rep S r st.length H d v → frz st n f d = some e → Rep S r n H e v
  | 0, d, e, v, h, q => by
    refine frzG_ok hn (fun k d' w h' q' => ?_) d e v h q
    split at q'
    · rename_i hk
      cases q'
      unfold Rep at h' ⊢
      exact ⟨hk, h'.2⟩
    · cases q'
  | f + 1, d, e, v, h, q => by
    refine frzG_ok hn (fun k d' w h' q' => ?_) d e v h q
    unfold Rep at h'
    split at q'
    · rename_i hk
      cases q'
      unfold Rep
      exact ⟨hk, h'.2⟩
    · rename_i hk
      have off : Off r n (r k) := fun j hj e => hk (o.inj j k (Nat.lt_of_lt_of_le hj hn) h'.1 e ▸ hj)
      cases q1 : st[k]? with
      | none => simp only [q1] at q'; cases q'
      | some c =>
        have hon := fun (j : Nat) (d2 : D) (v2 : V) (h2 : Rep S r st.length H (.ref j) v2) (e2 : frz st n f (.ref j) = some d2) => frz_ok o hn f (.ref j) d2 v2 h2 e2
        cases c with
        | lst ds =>
          simp only [q1] at q'
          split at q'
          · rename_i es q2
            cases q'
            obtain ⟨xs, e1, e2⟩ := o.cel k _ q1
            unfold Rep
            exact ⟨r k, xs, h'.2, e1, off, frzL_ok hn hon ds es xs e2 q2⟩
          · cases q'
        | ins c ks ds =>
          simp only [q1] at q'
          split at q'
          · rename_i es q2
            cases q'
            obtain ⟨dx, fs, e1, e2, e3⟩ := o.cel k _ q1
            unfold Rep
            exact ⟨r k, dx, fs, h'.2, e1, off, e2, frzL_ok hn hon ds es _ e3 q2⟩
          · cases q'
        | _ => simp only [q1] at q'; cases q'
theorem belowC_of (hx : S.ex = none) {a : Addr} {c : Cell} (h : CellOk S r n H a c) : belowC n c = true := by
  cases c with
  | lst ds => obtain ⟨_, _, h⟩ := h; exact belowL_of hx _ _ h
  | ins c ks ds => obtain ⟨_, _, _, _, h⟩ := h; exact belowL_of hx _ _ h
  | dK ks ds => obtain ⟨_, _, _, h⟩ := h; exact belowL_of hx _ _ h
  | dT ks ds => obtain ⟨_, _, _, h⟩ := h; exact belowL_of hx _ _ h
theorem CellOk.cut {a : Addr} {c : Cell} (hn : n ≤ n') (h : CellOk S r n' H a c) (b : belowC n c = true) : CellOk S r n H a c := by
  cases c with
  | lst ds => obtain ⟨xs, e, h⟩ := h; exact ⟨xs, e, RepL.cut hn _ _ h b⟩
  | ins c ks ds => obtain ⟨dx, fs, e, e2, h⟩ := h; exact ⟨dx, fs, e, e2, RepL.cut hn _ _ h b⟩
  | dK ks ds => obtain ⟨xs, e, e2, h⟩ := h; exact ⟨xs, e, e2, RepL.cut hn _ _ h b⟩
  | dT ks ds => obtain ⟨xs, e, e2, h⟩ := h; exact ⟨xs, e, e2, RepL.cut hn _ _ h b⟩
theorem pop_ok (hx : S.ex = none) {r' : Rho} {H' : Hp} {st' : Sto} (o : Ok S r st H) (l : Le r st.length H r' st'.length H') (o' : Ok S r' st' H') (hb : popB st st' = true) :
    Le r st.length H r' (st'.take st.length).length H' ∧ Ok S r' (st'.take st.length) H' := by
  have hl : (st'.take st.length).length = st.length := by
    rw [List.length_take]
    have := l.len
    omega
  rw [hl]
  refine ⟨⟨Nat.le_refl _, l.eq, l.liv, fun b u h ho => ⟨(l.keep b u h ho).1, (l.keep b u h ho).2.cut l.len⟩⟩, ⟨fun j k hj hk => o'.inj j k ?_ ?_, fun k c e => ?_⟩⟩
  · have := l.len; omega
  · have := l.len; omega
  · have hk : k < st.length := by
      have := (List.getElem?_eq_some_iff.mp e).1
      omega
    rw [List.getElem?_take_of_lt hk] at e
    have q := List.all_eq_true.mp hb k (List.mem_range.mpr hk)
    have e0 : st[k]? = some st[k] := by simp [hk]
    rw [e0, e] at q
    simp only [Bool.or_eq_true] at q
    rw [hl]
    refine CellOk.cut l.len (o'.cel k c e) ?_
    rcases q with q | q
    · rw [← cbeq_eq q]
      exact belowC_of hx (o.cel k _ e0)
    · exact q
end

/-! ### the promise of a def -/
open PyProof.Rows
def WC (E : XK) : WX := fun c d _ H => E c d H
def spM (S : Stat) (ar : Nat) (cf : List D → Sto → Res D) : Sp := fun vs H Q E => vs.length = ar ∧ ∃ r st ds, Ok S r st H ∧ RepL S r st.length H ds vs ∧ End S (Rep S) (WC E) [] r st.length H Q (cf ds st)
theorem End.wish {S : Stat} {r : Rho} {n : Nat} {H : Hp} {Q : VK} {W W' : WX} {σ σ' : L2.St} {x : Res D} (h : End S (Rep S) W σ r n H Q x) (k : ∀ c d H, W c d σ H → W' c d σ' H) : End S (Rep S) W' σ' r n H Q x := by
  cases x with
  | ok a st => exact h
  | exc c d st => exact fun r' H' dx v l o hx hr => k _ _ _ (h r' H' dx v l o hx hr)
  | bad => exact h
section
variable {S : Stat} {P : Program} {w : World} {K : PySem.W.Frag} {mg : Str → Option Value} {base : Heap}
theorem def_ok (hx0 : S.ex = none) {x qual : Str} {st : Stmt} {f : Addr} {fd : FuncData} {N ps : List Str} {k : Nat} (keep : Bool) {fb : SM} (F : Fun K x qual st f fd) (sc : FnScope N ps (defScope st))
    (hb : ∀ (cdv : Value) (A : Around) (outer : List Env) (s : Shared) (H : Hp) (E : XK), Room k (A.deeper (envOfC qual (defScope st) s.heap.objs.size f cdv)) →
      PSs (cxOf (L2.CX P w) P w K mg base N qual (defScope st) f cdv A outer s H E) (defBody st) (rdS S (WC E) fb)) :
    FnOk P w K mg base (L2.CX P w) (k + 1) f fd ps (spM S ps.length (runF keep N.length fb)) := by
  refine F.okX sc (fun vs H Q E h => h.1) fun cdv A outer s H vs Q E hr h => ⟨_, hb cdv A outer s H E hr, ?_⟩
  obtain ⟨hl, r, s0, ds, o, rv, h⟩ := h
  refine ⟨r, ds.map some ++ List.replicate (N.length - ds.length) none, s0, o, ?_, ?_⟩
  · refine ⟨by unfold L2.start; simp [rv.length], fun i d e => ?_⟩
    by_cases hi : i < ds.length
    · rw [List.getElem?_append_left (by simpa using hi), List.getElem?_map] at e
      have e' : ds[i]? = some d := by
        cases q : ds[i]? with
        | none => rw [q] at e; cases e
        | some z => rw [q] at e; simpa using e
      obtain ⟨v, e1, e2⟩ := rv.get e'
      refine ⟨v, ?_, e2⟩
      unfold L2.start
      rw [List.getElem?_append_left (by rw [List.length_map, ← rv.length]; exact hi), List.getElem?_map, e1]
      rfl
    · rw [List.getElem?_append_right (by simpa using hi)] at e
      have := List.getElem?_replicate ▸ e
      split at this <;> cases this
  · unfold runF at h
    generalize fb (ds.map some ++ List.replicate (N.length - ds.length) none) s0 = out at h ⊢
    have ret : ∀ d st', End S (Rep S) (WC E) [] r s0.length H Q (popR keep s0 (.ok d st')) → ∀ r' H' v, Le r s0.length H r' st'.length H' → Ok S r' st' H' → Rep S r' st'.length H' d v → Q v H' := fun d st' h r' H' v l o' rv => by
      unfold popR at h
      cases keep with
      | true => exact h r' H' v l o' rv
      | false =>
        simp only [Bool.false_eq_true, if_false] at h
        cases q : frz st' s0.length 5 d with
        | none => simp only [q] at h; exact h.elim
        | some e =>
          simp only [q] at h
          by_cases hp : popB s0 st' = true
          · simp only [if_pos hp] at h
            obtain ⟨l2, o2⟩ := pop_ok hx0 o l o' hp
            have hlen : (st'.take s0.length).length = s0.length := by
              rw [List.length_take]
              have := l.len
              omega
            exact h r' H' v l2 o2 (by rw [hlen]; exact frz_ok o' l.len 5 d e v rv q)
          · simp only [if_neg hp] at h; exact h.elim
    cases out with
    | nx env' st' => exact fun r' σ' H' l o' _ => ret .non st' h r' H' .non l o' rep_non
    | rt d st' => exact ret d st' h
    | bk env' st' =>
      have : False := by
        unfold bodyR popR at h
        cases keep <;> exact h
      exact this.elim
    | ct env' st' =>
      have : False := by
        unfold bodyR popR at h
        cases keep <;> exact h
      exact this.elim
    | bad =>
      have : False := by
        unfold bodyR popR at h
        cases keep <;> exact h
      exact this.elim
    | exc c d env' st' =>
      intro r' σ' H' dx v l o' _ hx hr
      unfold bodyR popR at h
      cases keep with
      | true => exact h r' H' dx v l o' hx hr
      | false =>
        simp only [Bool.false_eq_true, if_false] at h
        by_cases hp : (popB s0 st' && below s0.length d) = true
        · simp only [if_pos hp] at h
          have hp2 := (Bool.and_eq_true_iff.mp hp)
          obtain ⟨l2, o2⟩ := pop_ok hx0 o l o' hp2.1
          have hlen : (st'.take s0.length).length = s0.length := by
            rw [List.length_take]
            have := l.len
            omega
          exact h r' H' dx v l2 o2 hx (by rw [hlen]; exact Rep.cut l.len d v hr hp2.2)
        · simp only [if_neg hp] at h; exact h.elim
end

/-! ### calls -/
def mCall (cf : List D → Sto → Res D) (g : EM (List D)) : EM D := fun env st => (g env st).bind fun ds st1 => cf ds st1
section
variable {S : Stat} {X : Cx} {W : WX} {k ar : Nat} {f : Addr} {fd : FuncData} {ps : List Str} {x : Str} {e : Expr} {es : List Expr} {g : EM (List D)} {cf : List D → Sto → Res D} {p pos : Pos}
theorem md_call : ∀ σ H Q, rdE S W (fun env st => (g env st).bind fun ds st1 => if ds.length = ar then cf ds st1 else .bad) σ H Q → tCallSD (spM S ar cf) [] (L2.WE W) (rdA S W g) σ H Q := fun σ H Q h => by
  obtain ⟨r, env, st, o, eo, h⟩ := h
  refine ⟨r, env, st, o, eo, End.bind h fun ds st1 r1 H1 vs l1 o1 rx h1 => ?_⟩
  split at h1
  · rename_i hl
    refine ⟨by rw [List.append_nil, ← rx.length]; exact hl, r1, st1, ds, o1, by rw [List.append_nil]; exact rx, h1.wish fun c d H z => z⟩
  · exact h1.elim
def mCallN (ar : Nat) (cf : List D → Sto → Res D) (g : EM (List D)) : EM D := fun env st => (g env st).bind fun ds st1 => if ds.length = ar then cf ds st1 else .bad
theorem e_call (F : FnOk X.prog X.w X.K X.mg X.base (L2.CX X.prog X.w) k f fd ps (spM S ar cf)) (hr : Room k X.A) (hm : X.mg x = some (.ref f)) (hk : PySem.W.keepIn X.K (.ref f) = true) (hb : Binds X.K fd ps []) (tk : Takes X W)
    (ha : PA X (e :: es) (rdA S W g)) (hg : Gl X x := by rfl) (hdb : (x == ("__debug__" : Str)) = false := by decide) (he : starEach (e :: es) X.env = (false, eval e X.env) :: starEach es X.env := by rfl) (hpl : (backTo pos (starEach es X.env)).any (·.1) = false := by rfl) :
    PE X (.Call (.Name x p) (e :: es) [] pos) (rdE S W (mCallN ar cf g)) := PE.weak (pe_callSD F hr hg hm hk hb .nil (passAt tk) ha hdb he hpl) md_call
end
end Cw

/-! What is walked; for; comprehensions. -/
namespace Cw
open PySem L2

/-- what a loop walks: its items, and the live lists that must stay as they are meanwhile -/
structure IterD where
  items : List D
  lock : List (Nat × List D)
def lockB (l : List (Nat × List D)) (st : Sto) : Bool := l.all fun p => match st[p.1]? with
  | some c => cbeq c (.lst p.2)
  | none => false
structure WalkD (S : Stat) (it : IterD) (r0 : Rho) (n0 : Nat) (H0 : Hp) (J : It) : Prop where
  go : ∀ i r st H, i < it.items.length → Le r0 n0 H0 r st.length H → Ok S r st H → lockB it.lock st = true → J.go i H
  stop : ∀ r st H, Le r0 n0 H0 r st.length H → Ok S r st H → lockB it.lock st = true → J.stop it.items.length H
  yld : ∀ (i : Nat) r st H x H' (d : D), it.items[i]? = some d → Le r0 n0 H0 r st.length H → Ok S r st H → lockB it.lock st = true → J.yld i H x H' → Le r st.length H r st.length H' ∧ Ok S r st H' ∧ Rep S r st.length H' d x
def EndI (S : Stat) (W : WX) (σ : L2.St) (r : Rho) (n : Nat) (H : Hp) (R : It → Hp → Prop) : Res IterD → Prop
  | .ok it st' => ∀ r' H' J, Le r n H r' st'.length H' → Ok S r' st' H' → WalkD S it r' st'.length H' J → R J H'
  | .exc c d st' => ∀ r' H' dx v, Le r n H r' st'.length H' → Ok S r' st' H' → H' dx = some (.xd [(S.EN c, v)]) → Rep S r' st'.length H' d v → W (.ref (S.CA c)) (some dx) σ H'
  | .bad => False
def rdI (S : Stat) (W : WX) (f : EM IterD) : TI := fun σ H R => ∃ r env st, Ok S r st H ∧ EnvOk S r st.length H env σ ∧ EndI S W σ r st.length H R (f env st)
section
variable {S : Stat} {W : WX} {X : Cx} {r : Rho} {n : Nat} {H : Hp} {σ : L2.St} {env : En} {st : Sto}
theorem EndI.le {r1 : Rho} {n1 : Nat} {H1 : Hp} {R : It → Hp → Prop} {x : Res IterD} (l : Le r n H r1 n1 H1) (h : EndI S W σ r n H R x) : EndI S W σ r1 n1 H1 R x := by
  cases x with
  | ok it st => exact fun r' H' J l' => h r' H' J (l.trans l')
  | exc c d st => exact fun r' H' dx v l' => h r' H' dx v (l.trans l')
  | bad => exact h
theorem EndI.bind {α β : Type} {R : Rho → Nat → Hp → α → β → Prop} {Q' : β → Hp → Prop} {R' : It → Hp → Prop} {x : Res α} {g : α → Sto → Res IterD} (h : EndI S W σ r n H R' (x.bind g))
    (k : ∀ a st1 r1 H1 v, Le r n H r1 st1.length H1 → Ok S r1 st1 H1 → R r1 st1.length H1 a v → EndI S W σ r1 st1.length H1 R' (g a st1) → Q' v H1) : End S R W σ r n H Q' x := by
  cases x with
  | ok a st => exact fun r' H' v l o hr => k a st r' H' v l o hr (EndI.le l h)
  | exc c d st => exact h
  | bad => exact h
theorem lock_nil : lockB [] st = true := rfl
theorem lock_one {k : Nat} {ds : List D} (h : lockB [(k, ds)] st = true) : st[k]? = some (.lst ds) := by
  unfold lockB at h
  simp only [List.all_cons, List.all_nil, Bool.and_true] at h
  cases q : st[k]? with
  | none => simp only [q] at h; cases h
  | some c =>
    simp only [q] at h
    rw [cbeq_eq h]
/-- the items of a sequence, and what must stay -/
def iterOf (st : Sto) (d : D) : Option IterD := match d with
  | .tup ds => some ⟨ds, []⟩
  | .lst ds => some ⟨ds, []⟩
  | .scr ns => some ⟨ns.map D.int, []⟩
  | .str z => some ⟨z.cps.toList.map fun c => .str ⟨#[c]⟩, []⟩
  | .ref k => match st[k]? with
    | some (.lst ds) => some ⟨ds, [(k, ds)]⟩
    | _ => none
  | _ => none
def iSeq (fa : EM D) : EM IterD := fun env st => (fa env st).bind fun d st1 => match iterOf st1 d with
  | some it => .ok it st1
  | none => .bad
/-- a list that is walked: it is readable at all later states -/
def LstAt (S : Stat) (it : IterD) (r0 : Rho) (n0 : Nat) (H0 : Hp) (a : Addr) (xs : List V) : Prop :=
  ∀ r st H, Le r0 n0 H0 r st.length H → Ok S r st H → lockB it.lock st = true → ∃ ys, SqL S.K H a ys ∧ RepL S r st.length H it.items ys
theorem walk_lstD {it : IterD} {a : Addr} {xs : List V} (h : LstAt S it r n H a xs) : WalkD S it r n H (Itl S.K a) := by
  refine ⟨fun i r1 st1 H1 hi l o k => ?_, fun r1 st1 H1 l o k => ?_, fun i r1 st1 H1 x H' d hd l o k y => ?_⟩
  · obtain ⟨ys, q1, q2⟩ := h r1 st1 H1 l o k
    exact walk_list.goes i H1 (by rw [← q2.length]; exact hi) q1
  · obtain ⟨ys, q1, q2⟩ := h r1 st1 H1 l o k
    rw [q2.length]
    exact walk_list.stops H1 q1
  · obtain ⟨ys, q1, q2⟩ := h r1 st1 H1 l o k
    obtain ⟨v, e1, e2⟩ := q2.get hd
    obtain ⟨z1, z2⟩ := walk_list.yields i H1 x H' (by
      have := (List.getElem?_eq_some_iff.mp e1).1
      exact this) q1 y
    subst z1
    rw [e1] at z2
    cases z2
    exact ⟨o.refl, o, e2⟩
theorem lstAt_frz {ds : List D} {v : V} (h : Rep S r n H (.lst ds) v) : ∃ a xs, v = .ref a ∧ SqL S.K H a xs ∧ LstAt S ⟨ds, []⟩ r n H a xs := by
  have h' := h
  unfold Rep at h
  obtain ⟨a, xs, e, h1, h2, h3⟩ := h
  refine ⟨a, xs, e, SqL.of h1, fun r1 st1 H1 l o _ => ⟨xs, SqL.of (l.keep a _ h1 h2).1, RepL.mono l _ _ h3⟩⟩
theorem lstAt_scr {ns : List Int} {v : V} (h : Rep S r n H (.scr ns) v) : ∃ a xs, v = .ref a ∧ SqL S.K H a xs ∧ LstAt S ⟨ns.map D.int, []⟩ r n H a xs := by
  unfold Rep at h
  obtain ⟨a, e, h1⟩ := h
  refine ⟨a, _, e, h1.sql, fun r1 st1 H1 l o _ => ⟨_, ?_, repL_ints ns⟩⟩
  rcases h1 with ⟨u, h1⟩ | h1
  · exact .inl (.inr ⟨u, (l.keep a _ h1 (l.off_tup h1 fun z => z)).1⟩)
  · exact .inr h1
theorem lstAt_cel {k : Nat} {ds : List D} {v : V} (o0 : Ok S r st H) (h : Rep S r st.length H (.ref k) v) (q : st[k]? = some (.lst ds)) : ∃ a xs, v = .ref a ∧ SqL S.K H a xs ∧ LstAt S ⟨ds, [(k, ds)]⟩ r st.length H a xs := by
  unfold Rep at h
  obtain ⟨xs, e1, e2⟩ := o0.cel k _ q
  refine ⟨r k, xs, h.2, SqL.of e1, fun r1 st1 H1 l o hk => ?_⟩
  obtain ⟨ys, g1, g2⟩ := o.cel k _ (lock_one hk)
  rw [l.eq k h.1] at g1
  exact ⟨ys, SqL.of g1, g2⟩
theorem walk_tupD {ds : List D} {a : Addr} {xs : List V} (h1 : SqT S.K H a xs) (h2 : RepL S r n H ds xs) : WalkD S ⟨ds, []⟩ r n H (Itt S.K a) := by
  refine ⟨fun i r1 st1 H1 hi l o k => walk_tup.goes i H1 (by rw [← h2.length]; exact hi) (sqT_mono l h1), fun r1 st1 H1 l o k => ?_, fun i r1 st1 H1 x H' d hd l o k y => ?_⟩
  · show (Itt S.K a).stop ds.length H1
    rw [h2.length]
    exact walk_tup.stops H1 (sqT_mono l h1)
  · obtain ⟨v, e1, e2⟩ := (RepL.mono l _ _ h2).get hd
    obtain ⟨z1, z2⟩ := walk_tup.yields i H1 x H' (List.getElem?_eq_some_iff.mp e1).1 (sqT_mono l h1) y
    subst z1
    rw [e1] at z2
    cases z2
    exact ⟨o.refl, o, e2⟩
theorem walk_strD {z : Str} : WalkD S ⟨z.cps.toList.map fun c => .str ⟨#[c]⟩, []⟩ r n H (Its z) := by
  refine ⟨fun i r1 st1 H1 hi l o k => walk_str.goes i H1 (by simpa using hi) trivial, fun r1 st1 H1 l o k => ?_, fun i r1 st1 H1 x H' d hd l o k y => ?_⟩
  · have := (walk_str (z := z)).stops H1 trivial
    simpa using this
  · have hi : i < z.cps.size := by
      have := (List.getElem?_eq_some_iff.mp hd).1
      simpa using this
    obtain ⟨z1, c, z2, z3⟩ := walk_str.yields i H1 x H' hi trivial y
    subst z1 z3
    rw [List.getElem?_map] at hd
    have e2 : z.cps.toList[i]? = some c := by simpa using z2
    rw [e2] at hd
    cases hd
    exact ⟨o.refl, o, rep_str⟩
theorem i_seq {tg e : Expr} {fa : EM D} (he : PE X e (rdE S W fa)) (hK : X.K = S.K := by rfl) : PI X tg e (rdI S W (iSeq fa)) := by
  refine PI.by fun σ H R h => ?_
  obtain ⟨r, env, st, o, eo, h⟩ := h
  have lists : ∀ t, (∀ d st1 r1 H1 v, fa env st = .ok d st1 → Ok S r1 st1 H1 → Rep S r1 st1.length H1 d v → EndI S W σ r1 st1.length H1 R (match iterOf st1 d with
      | some it => .ok it st1
      | none => .bad) → t v H1) → rdE S W fa σ H t := fun t k => by
    refine ⟨r, env, st, o, eo, ?_⟩
    unfold iSeq at h
    cases q : fa env st with
    | ok d st1 =>
      rw [q] at h
      intro r1 H1 v l1 o1 rv
      exact k d st1 r1 H1 v q o1 rv (EndI.le l1 h)
    | exc c d st1 => rw [q] at h; exact h
    | bad => rw [q] at h; exact h
  cases q : fa env st with
  | ok d st1 =>
    cases d with
    | tup ds =>
      refine ⟨_, pi_tup he, lists _ fun d' st' r1 H1 v e o1 rv h1 => ?_⟩
      rw [q] at e
      cases e
      unfold Rep at rv
      obtain ⟨a, xs, e1, e2, e3⟩ := rv
      rw [hK]
      exact ⟨a, e1, ⟨xs, sqT_of e2⟩, h1 r1 H1 _ o1.refl o1 (walk_tupD (sqT_of e2) e3)⟩
    | lst ds =>
      refine ⟨_, pi_list he, lists _ fun d' st' r1 H1 v e o1 rv h1 => ?_⟩
      rw [q] at e
      cases e
      obtain ⟨a, xs, e1, e2, e3⟩ := lstAt_frz rv
      rw [hK]
      exact ⟨a, e1, ⟨xs, e2⟩, h1 r1 H1 _ o1.refl o1 (walk_lstD e3)⟩
    | scr ns =>
      refine ⟨_, pi_list he, lists _ fun d' st' r1 H1 v e o1 rv h1 => ?_⟩
      rw [q] at e
      cases e
      obtain ⟨a, xs, e1, e2, e3⟩ := lstAt_scr rv
      rw [hK]
      exact ⟨a, e1, ⟨xs, e2⟩, h1 r1 H1 _ o1.refl o1 (walk_lstD e3)⟩
    | str z =>
      refine ⟨_, pi_str he, lists _ fun d' st' r1 H1 v e o1 rv h1 => ?_⟩
      rw [q] at e
      cases e
      unfold Rep at rv
      exact ⟨z, rv, h1 r1 H1 _ o1.refl o1 walk_strD⟩
    | ref k =>
      refine ⟨_, pi_list he, lists _ fun d' st' r1 H1 v e o1 rv h1 => ?_⟩
      rw [q] at e
      cases e
      cases q2 : st1[k]? with
      | none => simp only [iterOf, q2] at h1; exact h1.elim
      | some c =>
        cases c with
        | lst ds =>
          simp only [iterOf, q2] at h1
          obtain ⟨a, xs, e1, e2, e3⟩ := lstAt_cel o1 rv q2
          rw [hK]
          exact ⟨a, e1, ⟨xs, e2⟩, h1 r1 H1 _ o1.refl o1 (walk_lstD e3)⟩
        | _ => simp only [iterOf, q2] at h1; exact h1.elim
    | _ => unfold iSeq at h; rw [q] at h; exact h.elim
  | exc c d st1 =>
    refine ⟨_, pi_list he, lists _ fun d' st' r1 H1 v e o1 rv h1 => ?_⟩
    rw [q] at e
    cases e
  | bad => unfold iSeq at h; rw [q] at h; exact h.elim
/-! ### ranges -/
def small62 (i : Int) : Bool := decide (i.natAbs < 4611686018427387904)
theorem small62_iff {i : Int} : small62 i = true ↔ (-(2 ^ 62) ≤ i ∧ i < 2 ^ 62) ∧ i.natAbs < 4611686018427387904 := by
  unfold small62
  rw [decide_eq_true_eq]
  omega
def rngD (lo : Int) (n : Nat) : IterD := ⟨(List.range n).map fun k => .int (lo + (k : Nat)), []⟩
def iRg1 (fa : EM D) : EM IterD := fun env st => (fa env st).bind fun d st1 => match d with
  | .int j => if small62 j = true then .ok (rngD 0 j.toNat) st1 else .bad
  | _ => .bad
def iRg2 (fa fb : EM D) : EM IterD := fun env st => (fa env st).bind fun a st1 => (fb env st1).bind fun b st2 => match a, b with
  | .int i, .int j => if (small62 i && small62 j) = true then .ok (rngD i (j - i).toNat) st2 else .bad
  | _, _ => .bad
theorem walk_rngD {lo : Int} {m : Nat} : WalkD S (rngD lo m) r n H (Itr lo m) := by
  refine ⟨fun i r1 st1 H1 hi l o k => walk_range.goes i H1 (by simpa [rngD] using hi) trivial, fun r1 st1 H1 l o k => ?_, fun i r1 st1 H1 x H' d hd l o k y => ?_⟩
  · have := (walk_range (lo := lo) (n := m)).stops H1 trivial
    simpa [rngD] using this
  · have hi : i < m := by
      have := (List.getElem?_eq_some_iff.mp hd).1
      simpa [rngD] using this
    obtain ⟨z1, z2⟩ := walk_range.yields i H1 x H' hi trivial y
    subst z1 z2
    unfold rngD at hd
    rw [List.getElem?_map, List.getElem?_range hi] at hd
    cases hd
    exact ⟨o.refl, o, rep_int⟩
theorem i_rg1 {tg a : Expr} {fa : EM D} {p pos : Pos} (ha : PE X a (rdE S W fa)) (hm : X.mg "range" = none) (hg : Gl X "range" := by rfl) (hs : starEach [a] X.env = [(false, eval a X.env)] := by rfl) :
    PI X tg (.Call (.Name "range" p) [a] [] pos) (rdI S W (iRg1 fa)) := PI.weak (pi_range1 hg hm (a_cons ha a_nil hs) hs) fun σ H R h => by
  obtain ⟨r, env, st, o, eo, h⟩ := h
  refine ⟨r, env, st, o, eo, ?_⟩
  unfold iRg1 at h
  unfold mCons mNil
  cases q : fa env st with
  | ok d st1 =>
    rw [q] at h
    intro r1 H1 vs l1 o1 rv
    cases d with
    | int j =>
      unfold RepL at rv
      obtain ⟨v, w, e1, r1', r2'⟩ := rv
      unfold RepL at r2'
      unfold Rep at r1'
      subst r1' r2' e1
      simp only [Res.bind] at h
      split at h
      · rename_i hb
        have hb := (small62_iff.mp hb).1
        exact ⟨j, rfl, hb.1, hb.2, h r1 H1 _ l1 o1 walk_rngD⟩
      · exact h.elim
    | _ => exact h.elim
  | exc c d st1 => rw [q] at h; exact h
  | bad => rw [q] at h; exact h
theorem i_rg2 {tg a b : Expr} {fa fb : EM D} {p pos : Pos} (ha : PE X a (rdE S W fa)) (hb : PE X b (rdE S W fb)) (hm : X.mg "range" = none) (hg : Gl X "range" := by rfl) (hs : starEach [a, b] X.env = [(false, eval a X.env), (false, eval b X.env)] := by rfl) (hs2 : starEach [b] X.env = [(false, eval b X.env)] := by rfl) :
    PI X tg (.Call (.Name "range" p) [a, b] [] pos) (rdI S W (iRg2 fa fb)) := PI.weak (pi_range2 hg hm (a_cons ha (a_cons hb a_nil hs2) (by rw [hs, hs2])) hs hs2) fun σ H R h => by
  obtain ⟨r, env, st, o, eo, h⟩ := h
  refine ⟨r, env, st, o, eo, ?_⟩
  unfold iRg2 at h
  unfold mCons mNil
  cases q : fa env st with
  | ok da st1 =>
    rw [q] at h
    simp only [Res.bind] at h ⊢
    cases q2 : fb env st1 with
    | ok db st2 =>
      rw [q2] at h
      simp only [Res.bind] at h ⊢
      intro r1 H1 vs l1 o1 rv
      cases da with
      | int i =>
        cases db with
        | int j =>
          unfold RepL at rv
          obtain ⟨v, w, e1, ra, rv⟩ := rv
          unfold RepL at rv
          obtain ⟨v2, w2, e2, rb, rv⟩ := rv
          unfold RepL at rv
          unfold Rep at ra rb
          subst ra rb rv e2 e1
          simp only at h
          split at h
          · rename_i hb
            have hb := Bool.and_eq_true_iff.mp hb
            have hb := And.intro (small62_iff.mp hb.1).1 (small62_iff.mp hb.2).1
            exact ⟨i, j, rfl, ⟨hb.1.1, hb.1.2, hb.2.1, hb.2.2⟩, h r1 H1 _ l1 o1 walk_rngD⟩
          · exact h.elim
        | _ => exact h.elim
      | _ => exact h.elim
    | exc c d st1 => rw [q2] at h; exact h
    | bad => rw [q2] at h; exact h
  | exc c d st1 => rw [q] at h; exact h
  | bad => rw [q] at h; exact h

/-! ### for -/
def forL (lock : List (Nat × List D)) (g : GM) (b : SM) : List D → SM
  | [] => fun env st => if lockB lock st = true then .nx env st else .bad
  | x :: xs => fun env st => if lockB lock st = true then match g x env st with
    | some (env1, st1) => match b env1 st1 with
      | .nx env2 st2 => forL lock g b xs env2 st2
      | .ct env2 st2 => forL lock g b xs env2 st2
      | .bk env2 st2 => .nx env2 st2
      | o => o
    | none => .bad else .bad
def sFor (fi : EM IterD) (g : GM) (b : SM) : SM := fun env st => (fi env st).toS env fun it st1 => forL it.lock g b it.items env st1
theorem s_for {tg iter : Expr} {body : List Stmt} {fi : EM IterD} {g : GM} {fb : SM} {pos : Pos} (hp : PassesOwn (model X.prog X.w) X.A X.env X.xe) (hi : PI X tg iter (rdI S W fi)) (hg : PG X tg (rdG S g)) (hb : PSs X body (rdS S W fb))
    (hc : X.calm = true := by rfl) (hs : ∀ x, foldedSetIterable iter X.env x = pure x := by intro _; rfl) : PS X (.For tg iter body [] pos) (rdS S W (sFor fi g fb)) := PS.weak (ps_for hp hc hi hg hb hs) fun σ H E h => by
  obtain ⟨r, env, st, o, eo, h⟩ := h
  refine ⟨r, env, st, o, eo, ?_⟩
  unfold sFor at h
  cases q : fi env st with
  | exc c d st1 => rw [q] at h; exact fun r' H' dx v l o hx hr => h r' σ H' dx v l o (eo.mono l) hx hr
  | bad => rw [q] at h; exact h
  | ok it st1 =>
    rw [q] at h
    simp only [Res.toS] at h
    intro r1 H1 J l1 o1 wk
    refine ⟨fun i m σ H => m = it.items.length - i ∧ i ≤ it.items.length ∧ ∃ r env st, Le r1 st1.length H1 r st.length H ∧ Ok S r st H ∧ EnvOk S r st.length H env σ ∧ EndS S W r st.length H E (forL it.lock g fb (it.items.drop i) env st),
      ⟨_, rfl, Nat.zero_le _, r1, env, st1, o1.refl, o1, eo.mono l1, by simpa using EndS.le l1 h⟩, ?_⟩
    rintro i m σ2 H2 ⟨rfl, hi, r2, env2, st2, l2, o2, eo2, h2⟩
    by_cases hlt : i < it.items.length
    · have hd : it.items[i]? = some it.items[i] := by simp [hlt]
      rw [List.drop_eq_getElem_cons hlt] at h2
      unfold forL at h2
      by_cases hk : lockB it.lock st2 = true
      · simp only [if_pos hk] at h2
        refine .inr ⟨wk.go i r2 st2 H2 hlt l2 o2 hk, fun σ' H' => ∃ r env st, Le r1 st1.length H1 r st.length H' ∧ Ok S r st H' ∧ EnvOk S r st.length H' env σ' ∧ EndS S W r st.length H' E (forL it.lock g fb (it.items.drop (i + 1)) env st), fun σ' H' z => ⟨it.items.length - (i + 1), by omega, rfl, hlt, z⟩, fun x H' y => ?_⟩
        obtain ⟨l3, o3, rx⟩ := wk.yld i r2 st2 H2 x H' _ hd l2 o2 hk y
        refine ⟨r2, env2, st2, it.items[i], o3, eo2.mono l3, rx, ?_⟩
        cases q2 : g it.items[i] env2 st2 with
        | none => simp only [q2] at h2; exact h2.elim
        | some p =>
          obtain ⟨env3, st3⟩ := p
          simp only [q2] at h2
          intro r4 σ4 H4 l4 o4 eo4
          refine ⟨r4, env3, st3, o4, eo4, ?_⟩
          have l34 := l3.trans l4
          cases q3 : fb env3 st3 with
          | nx env' st' => simp only [q3] at h2; exact fun r' σ' H' l' o' eo' => ⟨r', env', st', l2.trans (l34.trans l'), o', eo', EndS.le (l34.trans l') h2⟩
          | ct env' st' => simp only [q3] at h2; exact fun r' σ' H' l' o' eo' => ⟨r', env', st', l2.trans (l34.trans l'), o', eo', EndS.le (l34.trans l') h2⟩
          | bk env' st' => simp only [q3] at h2; exact fun r' σ' H' l' o' eo' => h2 r' σ' H' (l34.trans l') o' eo'
          | rt d st' => simp only [q3] at h2; exact fun r' H' v l' o' rv => h2 r' H' v (l34.trans l') o' rv
          | exc c d env' st' => simp only [q3] at h2; exact fun r' σ' H' dx v l' o' eo' hx rv => h2 r' σ' H' dx v (l34.trans l') o' eo' hx rv
          | bad => simp only [q3] at h2; exact h2
      · simp only [if_neg hk] at h2; exact h2.elim
    · have e : i = it.items.length := by omega
      subst e
      rw [List.drop_length] at h2
      unfold forL at h2
      by_cases hk : lockB it.lock st2 = true
      · simp only [if_pos hk] at h2
        exact .inl ⟨wk.stop r2 st2 H2 l2 o2 hk, h2 r2 σ2 H2 o2.refl o2 eo2⟩
      · simp only [if_neg hk] at h2; exact h2.elim

/-! ### comprehensions -/
theorem popR_ok (hx0 : S.ex = none) {keep : Bool} {W : WX} {σ : L2.St} {Q : VK} {r' : Rho} {H' : Hp} {d : D} {st' : Sto} {v : V} (o : Ok S r st H) (h : End S (Rep S) W σ r st.length H Q (popR keep st (.ok d st'))) (l : Le r st.length H r' st'.length H') (o' : Ok S r' st' H') (rv : Rep S r' st'.length H' d v) : Q v H' := by
  unfold popR at h
  cases keep with
  | true => exact h r' H' v l o' rv
  | false =>
    simp only [Bool.false_eq_true, if_false] at h
    cases q : frz st' st.length 5 d with
    | none => simp only [q] at h; exact h.elim
    | some e =>
      simp only [q] at h
      by_cases hp : popB st st' = true
      · simp only [if_pos hp] at h
        obtain ⟨l2, o2⟩ := pop_ok hx0 o l o' hp
        have hlen : (st'.take st.length).length = st.length := by
          rw [List.length_take]
          have := l.len
          omega
        exact h r' H' v l2 o2 (by rw [hlen]; exact frz_ok o' l.len 5 d e v rv q)
      · simp only [if_neg hp] at h; exact h.elim
def wipeE (env : En) : List Nat → En
  | [] => env
  | v :: vs => (wipeE env vs).set v none
theorem EnvOk.wipe (h : EnvOk S r n H env σ) : ∀ vs : List Nat, EnvOk S r n H (wipeE env vs) (L2.wipe σ vs)
  | [] => h
  | v :: vs => (EnvOk.wipe h vs).unset
/-- a target of a comprehension: a name, or names in a tuple -/
inductive Tgt where
  | nm (i : Nat)
  | tp (is : List Nat)
def setAll (env : En) : List Nat → List D → En
  | i :: is, d :: ds => setAll (env.set i (some d)) is ds
  | _, _ => env
def tgtD (t : Tgt) (d : D) (env : En) : Option En := match t with
  | .nm i => some (env.set i (some d))
  | .tp is => match d with
    | .tup ds => if ds.length = is.length then some (setAll env is ds) else none
    | _ => none
def gNames : List Nat → TGs
  | [] => gNil
  | i :: is => gCons (gName i) (gNames is)
def tgtV (K : PySem.W.Frag) : Tgt → TG
  | .nm i => gName i
  | .tp is => gTup K is.length (gNames is)
def Tgt.slots : Tgt → List Nat
  | .nm i => [i]
  | .tp is => is
theorem wipe_set {σ : L2.St} {i : Nat} {x : Option V} : ∀ {vs : List Nat}, i ∈ vs → L2.wipe (σ.set i x) vs = L2.wipe σ vs
  | v :: vs, h => by
    unfold L2.wipe
    by_cases hi : i ∈ vs
    · rw [wipe_set hi]
    · have e : i = v := by
        rcases List.mem_cons.mp h with h | h
        · exact h
        · exact absurd h hi
      subst e
      have : ∀ (ws : List Nat) (σ : L2.St), i ∉ ws → L2.wipe (σ.set i x) ws = (L2.wipe σ ws).set i x := by
        intro ws
        induction ws with
        | nil => intro σ _; rfl
        | cons w ws ih =>
          intro σ hn
          have h1 : i ≠ w := fun z => hn (by simp [z])
          have h2 : i ∉ ws := fun z => hn (by simp [z])
          unfold L2.wipe
          rw [ih σ h2, List.set_comm _ _ h1]
      rw [this vs σ hi, List.set_set]
theorem gNames_ok {vs : List Nat} {Q : L2.St → Hp → Prop} {σ0 : L2.St} : ∀ {is : List Nat} {ds : List D} {xs : List V} {env : En} {σ : L2.St}, ds.length = is.length → (∀ i ∈ is, i ∈ vs) → RepL S r n H ds xs → EnvOk S r n H env σ → L2.wipe σ vs = L2.wipe σ0 vs →
    (∀ σ', EnvOk S r n H (setAll env is ds) σ' → L2.wipe σ' vs = L2.wipe σ0 vs → Q σ' H) → gNames is xs σ H Q
  | [], ds, xs, env, σ, hl, hv, h, eo, hw, k => by
    have e : ds = [] := List.length_eq_zero_iff.mp hl
    subst e
    unfold RepL at h
    exact ⟨h, k σ eo hw⟩
  | i :: is, [], xs, env, σ, hl, hv, h, eo, hw, k => by simp at hl
  | i :: is, d :: ds, xs, env, σ, hl, hv, h, eo, hw, k => by
    unfold RepL at h
    obtain ⟨v, w, e, h1, h2⟩ := h
    refine ⟨v, w, e, gNames_ok (env := env.set i (some d)) (ds := ds) (by simpa using hl) (fun j hj => hv j (List.mem_cons_of_mem _ hj)) h2 (eo.set h1) ?_ k⟩
    rw [wipe_set (hv i List.mem_cons_self)]
    exact hw
theorem tgt_ok {t : Tgt} {vs : List Nat} {d : D} {x : V} {env1 : En} {Q : L2.St → Hp → Prop} (hK : X.K = S.K) (hv : ∀ i ∈ t.slots, i ∈ vs) (rx : Rep S r n H d x) (eo : EnvOk S r n H (wipeE env vs) (L2.wipe σ vs)) (e : tgtD t d (wipeE env vs) = some env1)
    (hw : L2.wipe (L2.wipe σ vs) vs = L2.wipe σ vs) (k : ∀ σ2, EnvOk S r n H env1 σ2 → L2.wipe σ2 vs = L2.wipe σ vs → Q σ2 H) : tgtV X.K t x (L2.wipe σ vs) H Q := by
  cases t with
  | nm i =>
    cases e
    refine k _ (eo.set rx) ?_
    rw [wipe_set (hv i (by simp [Tgt.slots]))]
    exact hw
  | tp is =>
    cases d with
    | tup ds =>
      simp only [tgtD] at e
      split at e
      · rename_i hl
        cases e
        unfold Rep at rx
        obtain ⟨a, xs, e1, e2, e3⟩ := rx
        exact ⟨a, xs, e1, sqT_of e2, by rw [← e3.length]; exact hl, gNames_ok (σ0 := σ) hl hv e3 eo hw k⟩
      · cases e
    | _ => cases e
theorem wipe_idem {σ : L2.St} : ∀ vs : List Nat, L2.wipe (L2.wipe σ vs) vs = L2.wipe σ vs := fun vs => by
  have key : ∀ (ws : List Nat), (∀ i ∈ ws, i ∈ vs) → L2.wipe (L2.wipe σ ws) vs = L2.wipe σ vs := by
    intro ws
    induction ws with
    | nil => intro _; rfl
    | cons w ws ih =>
      intro h
      show L2.wipe ((L2.wipe σ ws).set w none) vs = L2.wipe σ vs
      rw [wipe_set (h w List.mem_cons_self)]
      exact ih fun i hi => h i (List.mem_cons_of_mem _ hi)
  exact key vs fun _ h => h
def compL (lock : List (Nat × List D)) (vs : List Nat) (t : Tgt) (ft : EM Bool) (fe : EM D) (env : En) (k : Nat) : List D → Sto → Res D
  | [], st => if lockB lock st = true then .ok (.ref k) st else .bad
  | x :: xs, st => if lockB lock st = true then match tgtD t x (wipeE env vs) with
    | some env1 => match ft env1 st with
      | .ok true st1 => match fe env1 st1 with
        | .ok d st2 => match st2[k]? with
          | some (.lst acc) => if acc.length < LIM then compL lock vs t ft fe env k xs (st2.set k (.lst (acc ++ [d]))) else .bad
          | _ => .bad
        | _ => .bad
      | .ok false st1 => compL lock vs t ft fe env k xs st1
      | _ => .bad
    | none => .bad else .bad
def mComp (keep : Bool) (fi : EM IterD) (vs : List Nat) (t : Tgt) (ft : EM Bool) (fe : EM D) : EM D := fun env st => (fi env st).bind fun it st1 => popR keep st1 (compL it.lock vs t ft fe env st1.length it.items (st1 ++ [Cell.lst []]))
def W0 : WX := fun _ _ _ _ => False
theorem popR_bad {keep : Bool} : popR keep st (.bad : Res D) = .bad := by cases keep <;> rfl
theorem md_comp (hx0 : S.ex = none) {keep : Bool} {fi : EM IterD} {vs : List Nat} {t : Tgt} {ft : EM Bool} {fe : EM D} (hK : X.K = S.K) (hv : ∀ i ∈ t.slots, i ∈ vs) : ∀ σ H Q, rdE S W (mComp keep fi vs t ft fe) σ H Q → tLc (rdI S W fi) (tgtV X.K t) (rdB S W0 ft) (rdE S W0 fe) vs σ H Q := fun σ H Q h => by
  obtain ⟨r, env, st, o, eo, h⟩ := h
  refine ⟨r, env, st, o, eo, ?_⟩
  unfold mComp at h
  cases q : fi env st with
  | exc c d st1 => rw [q] at h; exact h
  | bad => rw [q] at h; exact h
  | ok it st1 =>
    rw [q] at h
    simp only [Res.bind] at h
    intro r1 H1 J l1 o1 wk a ha
    have h := End.le l1 h
    have eo1 := eo.mono l1
    obtain ⟨la, oa⟩ := o1.alloc (u := .lst []) (c := .lst []) ha fun r' n' H' l' e => ⟨[], e, RepL.nil⟩
    refine ⟨fun i m H => m = it.items.length - i ∧ i ≤ it.items.length ∧ ∃ r st, Le r1 st1.length H1 r st.length H ∧ Ok S r st H ∧ st1.length < st.length ∧ r st1.length = a ∧ End S (Rep S) W σ r1 st1.length H1 Q (popR keep st1 (compL it.lock vs t ft fe env st1.length (it.items.drop i) st)),
      ⟨_, rfl, Nat.zero_le _, _, _, la, oa, by simp, ext_same, by simpa using h⟩, ?_⟩
    rintro i m H2 ⟨rfl, hi, r2, st2, l2, o2, hk2, ra2, h2⟩
    by_cases hlt : i < it.items.length
    · have hd : it.items[i]? = some it.items[i] := by simp [hlt]
      rw [List.drop_eq_getElem_cons hlt] at h2
      unfold compL at h2
      by_cases hk : lockB it.lock st2 = true
      · simp only [if_pos hk] at h2
        refine .inr ⟨wk.go i r2 st2 H2 hlt l2 o2 hk, fun H' => ∃ r st, Le r1 st1.length H1 r st.length H' ∧ Ok S r st H' ∧ st1.length < st.length ∧ r st1.length = a ∧ End S (Rep S) W σ r1 st1.length H1 Q (popR keep st1 (compL it.lock vs t ft fe env st1.length (it.items.drop (i + 1)) st)), fun H' z => ⟨it.items.length - (i + 1), by omega, rfl, hlt, z⟩, fun x H' y => ?_⟩
        obtain ⟨l3, o3, rx⟩ := wk.yld i r2 st2 H2 x H' _ hd l2 o2 hk y
        cases q2 : tgtD t it.items[i] (wipeE env vs) with
        | none => simp only [q2, popR_bad] at h2; exact h2.elim
        | some env3 =>
          simp only [q2] at h2
          refine tgt_ok hK hv rx ((eo1.mono (l2.trans l3)).wipe vs) q2 (wipe_idem vs) fun σ2 eo2 hw2 => ⟨hw2, r2, env3, st2, o3, eo2, ?_⟩
          cases q3 : ft env3 st2 with
          | exc c d st' => simp only [q3, popR_bad] at h2; exact h2.elim
          | bad => simp only [q3, popR_bad] at h2; exact h2.elim
          | ok b st4 =>
            intro r4 H4 b' l4 o4 eb
            obtain rfl : b' = b := eb
            cases b' with
            | false =>
              simp only [q3] at h2
              exact iteF ⟨r4, st4, l2.trans (l3.trans l4), o4, Nat.lt_of_lt_of_le hk2 l4.len, by rw [l4.eq _ hk2]; exact ra2, h2⟩
            | true =>
              simp only [q3] at h2
              refine iteT ⟨r4, env3, st4, o4, eo2.mono l4, ?_⟩
              cases q4 : fe env3 st4 with
              | exc c d st' => simp only [q4, popR_bad] at h2; exact h2.elim
              | bad => simp only [q4, popR_bad] at h2; exact h2.elim
              | ok d st5 =>
                simp only [q4] at h2
                intro r5 H5 yv l5 o5 ry
                cases q5 : st5[st1.length]? with
                | none => simp only [q5, popR_bad] at h2; exact h2.elim
                | some c =>
                  cases c with
                  | lst acc =>
                    simp only [q5] at h2
                    have l45 := l4.trans l5
                    have hk5 : st1.length < st5.length := Nat.lt_of_lt_of_le hk2 l45.len
                    have ra5 : r5 st1.length = a := by rw [l45.eq _ hk2]; exact ra2
                    obtain ⟨xs, e1, e2⟩ := o5.cel _ _ q5
                    by_cases hl : acc.length < LIM
                    · simp only [if_pos hl] at h2
                      refine ⟨xs, by rw [← ra5]; exact e1, by rw [← e2.length]; exact lim_lt hl, ?_⟩
                      obtain ⟨l6, o6⟩ := o5.write (k := st1.length) (u := .lst (xs ++ [yv])) (c := .lst (acc ++ [d])) hk5 trivial fun H' l' e' => ⟨_, e', RepL.mono l' _ _ (e2.append (RepL.cons ry RepL.nil))⟩
                      rw [ra5] at l6 o6
                      exact ⟨r5, _, l2.trans (l3.trans (l45.trans l6)), o6, by simpa using hk5, ra5, h2⟩
                    · simp only [if_neg hl, popR_bad] at h2; exact h2.elim
                  | _ => simp only [q5, popR_bad] at h2; exact h2.elim
      · simp only [if_neg hk, popR_bad] at h2; exact h2.elim
    · have e : i = it.items.length := by omega
      subst e
      rw [List.drop_length] at h2
      unfold compL at h2
      by_cases hk : lockB it.lock st2 = true
      · simp only [if_pos hk] at h2
        refine .inl ⟨wk.stop r2 st2 H2 l2 o2 hk, popR_ok hx0 o1 h2 l2 o2 ?_⟩
        unfold Rep
        exact ⟨hk2, by rw [ra2]⟩
      · simp only [if_neg hk, popR_bad] at h2; exact h2.elim
def mYes : EM Bool := fun _ st => .ok true st
theorem ts_nil : PTs X [] (rdB S W mYes) := ⟨fun pins s σ H Q I h => (pts_nil (X := X)).run pins s σ H Q I (by
  obtain ⟨r, env, st, o, eo, h⟩ := h
  exact h r H true o.refl o rfl)⟩
theorem ts_one {c : Expr} {fc : EM Bool} (h : PT X c (rdB S W fc)) : PTs X [c] (rdB S W fc) := pts_one h
theorem tg_nm (i : Nat) {K : PySem.W.Frag} {x : Str} {pos : Pos} (hN : X.N.Nodup) (hi : X.N[i]? = some x := by rfl) (hx : Loc X.env.scope x := by first | exact Or.inl rfl | exact Or.inr rfl) (hf : X.fn x = true ∨ X.env.scope.names.lookup x = some .local := by first | exact .inl rfl | exact .inr rfl) :
    PG X (.Name x pos) (tgtV K (.nm i)) := pg_name hN hi hx hf
end
end Cw

/-! Comprehensions and methods as written; raise and try. -/
namespace Cw
open PySem L2

section
variable {S : Stat} {X : Cx} {W : WX}
theorem hu65 {k : Nat} {A : Around} (hr : Room k A) : A.units + 65 < cLine := by
  have := hr.un
  omega
theorem e_comp (keep : Bool) (t : Tgt) {own : List (Str × Nat)} {elt tg iter : Expr} {ifs : List Expr} {scope : Scope} {pos : Pos} {fi : EM IterD} {ft : EM Bool} {fe : EM D} (hN : X.N.Nodup) (hi : PI X tg iter (rdI S W fi)) (ok : BlkOk X.N X.env.scope scope own)
    (hg : ∀ (s : Shared) (H : Hp) (C : Addr) (cl : List (Str × Addr)) (fp : List Addr), PG (X.blk s H scope (compEnvC scope cl C X.env) fp) tg (tgtV X.K t))
    (ht : ∀ (s : Shared) (H : Hp) (C : Addr) (cl : List (Str × Addr)) (fp : List Addr), PTs (X.blk s H scope (compEnvC scope cl C X.env) fp) ifs (rdB S W0 ft))
    (he : ∀ (s : Shared) (H : Hp) (C : Addr) (cl : List (Str × Addr)) (fp : List Addr), PE (X.blk s H scope (compEnvC scope cl C X.env) fp) elt (rdE S W0 fe))
    (hv : ∀ i ∈ t.slots, i ∈ own.map (·.2) := by decide) (hx : S.ex = none := by rfl) (hc : X.calm = true := by rfl) (hK : X.K = S.K := by rfl) (hs : ∀ x, foldedSetIterable iter X.env x = pure x := by intro _; rfl) :
    PE X (.ListComp elt [⟨tg, iter, ifs, 0⟩] scope pos) (rdE S W (mComp keep fi (own.map (·.2)) t ft fe)) := PE.weak (pe_lc hc hN hi ok hg ht he hs) (md_comp hx hK hv)
theorem s_comp (i : Nat) (keep : Bool) (t : Tgt) {own : List (Str × Nat)} {y : Str} {py : Pos} {elt tg iter : Expr} {ifs : List Expr} {scope : Scope} {pos spos : Pos} {fi : EM IterD} {ft : EM Bool} {fe : EM D} (hN : X.N.Nodup) (hi : PI X tg iter (rdI S W fi)) (ok : BlkOk X.N X.env.scope scope own)
    (hg : ∀ (s : Shared) (H : Hp) (C : Addr) (cl : List (Str × Addr)) (fp : List Addr), PG (X.blk s H scope (compEnvC scope cl C X.env) fp) tg (tgtV X.K t))
    (ht : ∀ (s : Shared) (H : Hp) (C : Addr) (cl : List (Str × Addr)) (fp : List Addr), PTs (X.blk s H scope (compEnvC scope cl C X.env) fp) ifs (rdB S W0 ft))
    (he : ∀ (s : Shared) (H : Hp) (C : Addr) (cl : List (Str × Addr)) (fp : List Addr), PE (X.blk s H scope (compEnvC scope cl C X.env) fp) elt (rdE S W0 fe))
    (hsw : swapsWith (.ListComp elt [⟨tg, iter, ifs, 0⟩] scope pos) (some (.Name y py)) spos.line X.env = pure true := by exact sw_true rfl rfl rfl (by decide +kernel))
    (hv : ∀ i ∈ t.slots, i ∈ own.map (·.2) := by decide) (hx : S.ex = none := by rfl) (hy : X.N[i]? = some y := by rfl) (hyl : X.env.scope.names.lookup y = some .local := by rfl) (hc : X.calm = true := by rfl) (hK : X.K = S.K := by rfl) (hs : ∀ x, foldedSetIterable iter X.env x = pure x := by intro _; rfl) :
    PS X (.Assign [.Name y py] (.ListComp elt [⟨tg, iter, ifs, 0⟩] scope pos) spos) (rdS S W (sSet i (mComp keep fi (own.map (·.2)) t ft fe))) := PS.weak (ps_setLc hc hN hy hyl hsw hi ok hg ht he hs) fun σ H E h => by
  obtain ⟨r, env, st, o, eo, h⟩ := h
  refine md_comp hx hK hv σ H _ ⟨r, env, st, o, eo, EndS.bind h eo fun d st1 r1 H1 v l1 o1 rx h1 => ?_⟩
  exact h1 r1 _ H1 o1.refl o1 ((eo.mono l1).set rx)
theorem tg_tp (is : List Nat) {K : PySem.W.Frag} {es : List Expr} {k : Nat} {pos : Pos} (h : PGs X es (gNames is)) (hK : X.K = K := by rfl) (hn : (assignEach es X.env).length = is.length := by rfl) (hc : X.calm = true := by rfl)
    (hst : (assignEach es X.env).findIdx? (·.1) = none := by rfl) : PG X (.Tuple es k pos) (tgtV K (.tp is)) := by
  subst hK
  exact pg_tup hc h hn hst
theorem gn_nil : PGs X [] (gNames []) := pgs_nil
theorem gn_cons (i : Nat) {is : List Nat} {x : Str} {pos : Pos} {es : List Expr} (hN : X.N.Nodup) (h2 : PGs X es (gNames is)) (hi : X.N[i]? = some x := by rfl) (hx : Loc X.env.scope x := by first | exact Or.inl rfl | exact Or.inr rfl)
    (hf : X.fn x = true ∨ X.env.scope.names.lookup x = some .local := by first | exact .inl rfl | exact .inr rfl)
    (hs : (assignEach (.Name x pos :: es) X.env).map (·.2) = assign (.Name x pos) X.env :: (assignEach es X.env).map (·.2) := by rfl) : PGs X (.Name x pos :: es) (gNames (i :: is)) := pgs_cons (pg_name hN hi hx hf) h2 hs

/-! ### more methods of lists -/
theorem mtM {id : String} {t : V → List V → Hp → VK → Prop} (h : MtM X id t) : MtR X id t := h
theorem repL1 {r : Rho} {n : Nat} {H : Hp} {d : D} {xs : List V} (h : RepL S r n H [d] xs) : ∃ v, xs = [v] ∧ Rep S r n H d v := by
  unfold RepL at h
  obtain ⟨v, w, e, h1, h2⟩ := h
  unfold RepL at h2
  subst h2
  exact ⟨v, e, h1⟩
theorem repL0 {r : Rho} {n : Nat} {H : Hp} {xs : List V} (h : RepL S r n H [] xs) : xs = [] := by
  unfold RepL at h
  exact h
theorem RepL.erase {r : Rho} {n : Nat} {H : Hp} : ∀ {ds : List D} {xs : List V} (k : Nat), RepL S r n H ds xs → RepL S r n H (ds.eraseIdx k) (xs.eraseIdx k)
  | [], xs, k, h => by
    have := repL0 h
    subst this
    simpa using h
  | d :: ds, xs, 0, h => by
    unfold RepL at h
    obtain ⟨v, w, rfl, h1, h2⟩ := h
    simpa using h2
  | d :: ds, xs, k + 1, h => by
    unfold RepL at h
    obtain ⟨v, w, rfl, h1, h2⟩ := h
    simpa using RepL.cons h1 (RepL.erase k h2)
/-- xs.pop(i), 0 ≤ i -/
def oPopAt : OM := fun d as st => match as with
  | [.int i] => onCell st d fun ds => if 0 ≤ i ∧ i < 2 ^ 63 then match ds[i.toNat]? with
    | some x => some (x, ds.eraseIdx i.toNat)
    | none => none else none
  | _ => none
theorem seqIx {i : Int} {n : Nat} (h : 0 ≤ i) (h2 : i.toNat < n) : seqIndex? i n = some i.toNat := seqIndex_of h (by omega)
theorem m_popAt : MtR X "list.pop" (rM S oPopAt) := MtR.weak (mtM mt_popAt) fun x xs H Q h => by
  obtain ⟨r, st, d, ds, o, rd, rds, h⟩ := h
  cases ds with
  | nil => exact h.elim
  | cons y0 ds =>
    cases ds with
    | cons _ _ => cases y0 <;> exact h.elim
    | nil =>
      cases y0 with
      | int i =>
        obtain ⟨yv, e5, r1⟩ := repL1 rds
        unfold Rep at r1
        subst r1
        obtain ⟨p, ys, es, z, ws, e1, e2, e3, e4, k⟩ := onCell_ok o rd h
        by_cases hl : 0 ≤ i ∧ i < 2 ^ 63
        · rw [if_pos hl] at e4
          cases q : es[i.toNat]? with
          | none => rw [q] at e4; cases e4
          | some w =>
            rw [q] at e4
            cases e4
            obtain ⟨wv, q1, q2⟩ := e3.get q
            have hlen := (List.getElem?_eq_some_iff.mp q1).1
            exact ⟨p, ys, i, i.toNat, wv, e1, e5, e2, by omega, hl.2, seqIx hl.1 hlen, q1, k _ _ q2 (e3.erase _)⟩
        · rw [if_neg hl] at e4; cases e4
      | _ => exact h.elim
def oPop : OM := fun d as st => match as with
  | [] => onCell st d fun ds => match ds[ds.length - 1]? with
    | some x => some (x, ds.dropLast)
    | none => none
  | _ => none
theorem m_pop : MtR X "list.pop" (rM S oPop) := MtR.weak (mtM mt_pop) fun x xs H Q h => by
  obtain ⟨r, st, d, ds, o, rd, rds, h⟩ := h
  match ds, rds, h with
  | [], rds, h =>
    have e5 := repL0 rds
    obtain ⟨p, ys, es, z, ws, e1, e2, e3, e4, k⟩ := onCell_ok o rd h
    cases q : es[es.length - 1]? with
    | none => rw [q] at e4; cases e4
    | some w =>
      rw [q] at e4
      cases e4
      obtain ⟨wv, q1, q2⟩ := e3.get q
      rw [e3.length] at q1
      refine ⟨p, ys, wv, e1, e5, e2, q1, k _ _ q2 ?_⟩
      rw [List.dropLast_eq_take, List.dropLast_eq_take, e3.length]
      exact e3.take _
  | _ :: _, _, h => exact h.elim
def oExtend : OM := fun d as st => match as with
  | [b] => match seqW st b with
    | some bs => onCell st d fun ds => if ds.length + bs.length ≤ LIM then some (.non, ds ++ bs) else none
    | none => none
  | _ => none
theorem m_extend : MtR X "list.extend" (rM S oExtend) := MtR.weak (mtM mt_extend) fun x xs H Q h => by
  obtain ⟨r, st, d, ds, o, rd, rds, h⟩ := h
  match ds, rds, h with
  | [b], rds, h =>
    obtain ⟨yv, e5, r1⟩ := repL1 rds
    cases q : seqW st b with
    | none => simp only [oExtend, q] at h; exact h.elim
    | some bs =>
      simp only [oExtend, q] at h
      obtain ⟨c, zs, g1, g2, g3⟩ := seqW_ok o r1 q
      obtain ⟨p, ys, es, z, ws, e1, e2, e3, e4, k⟩ := onCell_ok o rd h
      by_cases hl : es.length + bs.length ≤ LIM
      · rw [if_pos hl] at e4
        cases e4
        exact ⟨p, c, ys, zs, e1, by rw [e5, g1], e2, g2, by rw [← e3.length, ← g3.length]; exact lim_ok hl, k _ _ rep_non (e3.append g3)⟩
      · rw [if_neg hl] at e4; cases e4
  | [], _, h => exact h.elim
  | _ :: _ :: _, _, h => exact h.elim
def oInsert : OM := fun d as st => match as with
  | [.int i, y] => onCell st d fun ds => if ds.length < LIM ∧ 0 ≤ i ∧ i < 2 ^ 63 then some (.non, ds.take i.toNat ++ [y] ++ ds.drop i.toNat) else none
  | _ => none
theorem m_insert : MtR X "list.insert" (rM S oInsert) := MtR.weak mt_insert fun x xs H Q h => by
  obtain ⟨r, st, d, ds, o, rd, rds, h⟩ := h
  cases ds with
  | nil => exact h.elim
  | cons y0 ds =>
    cases ds with
    | nil => cases y0 <;> exact h.elim
    | cons y ds =>
      cases ds with
      | cons _ _ => cases y0 <;> exact h.elim
      | nil =>
        cases y0 with
        | int i =>
          unfold RepL at rds
          obtain ⟨v1, w1, f1, r1, rds⟩ := rds
          obtain ⟨yv, e5, r2⟩ := repL1 rds
          unfold Rep at r1
          obtain ⟨p, ys, es, z, ws, e1, e2, e3, e4, k⟩ := onCell_ok o rd h
          by_cases hl : es.length < LIM ∧ 0 ≤ i ∧ i < 2 ^ 63
          · rw [if_pos hl] at e4
            cases e4
            exact ⟨p, ys, i, yv, e1, by rw [f1, r1, e5], e2, by rw [← e3.length]; exact lim_lt hl.1, hl.2.1, hl.2.2, k _ _ rep_non (((e3.take _).append (RepL.cons r2 RepL.nil)).append (e3.drop _))⟩
          · rw [if_neg hl] at e4; cases e4
        | _ => exact h.elim
def oClear : OM := fun d as st => match as with
  | [] => onCell st d fun _ => some (.non, [])
  | _ => none
theorem m_clear : MtR X "list.clear" (rM S oClear) := MtR.weak (mtM mt_clear) fun x xs H Q h => by
  obtain ⟨r, st, d, ds, o, rd, rds, h⟩ := h
  match ds, rds, h with
  | [], rds, h =>
    have e5 := repL0 rds
    obtain ⟨p, ys, es, z, ws, e1, e2, e3, e4, k⟩ := onCell_ok (f := fun _ => some (D.non, [])) o rd h
    cases e4
    exact ⟨p, ys, e1, e5, e2, k _ _ rep_non RepL.nil⟩
  | _ :: _, _, h => exact h.elim
theorem e_append {o e : Expr} {fo fe : EM D} {apos cpos : Pos} (ho : PE X o (rdE S W fo)) (he : PE X e (rdE S W fe)) (hK : X.K = S.K := by rfl) (hbase : attributeBase o "append" X.env (eval o X.env) = eval o X.env := by rfl)
    (hfew : ((backTo cpos (starEach [e] X.env)).all (fun x => !x.1) && (backToKw cpos (keywordEach [] X.env)).all (fun x => x.1.isSome)
      && decide ([e].length + ([] : List Keyword).length + (if ([] : List Keyword).isEmpty then 0 else 1) < 30)) = true := by rfl)
    (hline : (apos.endLine == cpos.line) = true := by rfl) (hs : starEach [e] X.env = (false, eval e X.env) :: starEach [] X.env := by rfl) (hplain : (backTo cpos (starEach [] X.env)).any (·.1) = false := by rfl) :
    PE X (.Call (.Attribute o "append" apos) [e] [] cpos) (rdE S W (mMeth "list" oAppend fo (mCons fe mNil))) :=
  e_meth PySem.F.plainAttrs_list PySem.F.slot_list_append PySem.F.type_list_append m_append ho (a_cons he a_nil hs) hK hbase hfew hline hs hplain

/-! ### raise -/
/-- a class of errors with one argument, kept in one attribute -/
def tMkE (C : Addr) (f : Str) (te : TE) : L2.St → Hp → XK → Prop := fun σ H Q => te σ H fun v H1 => ∀ d, H1 d = none → Q (.ref C) (some d) (upd H1 d (.xd [(f, v)]))
def sRaise (c : Nat) (fa : EM D) : SM := fun env st => (fa env st).toS env fun d st1 => .exc c d env st1
theorem s_raise (c : Nat) {e : Expr} {fa : EM D} {pos : Pos} (tk : Takes X W) (he : PMk X e (tMkE (S.CA c) (S.EN c) (rdE S W fa))) (hc : X.calm = true := by rfl) : PS X (.Raise (some e) none pos) (rdS S W (sRaise c fa)) := PS.weak (ps_raise hc tk he) fun σ H E h => by
  obtain ⟨r, env, st, o, eo, h⟩ := h
  refine ⟨r, env, st, o, eo, EndS.bind h eo fun d st1 r1 H1 v l1 o1 rx h1 dx hd => ?_⟩
  obtain ⟨l2, o2⟩ := o1.fresh (u := .xd [(S.EN c, v)]) hd
  exact h1 r1 σ _ dx v l2 o2 (eo.mono (l1.trans l2)) upd_same (Rep.mono l2 _ _ rx)

/-! ### try: body, except x as n: suite -/
def withX (S : Stat) (a dx : Addr) (cls : Value) : Stat := { S with ex := some (a, dx, cls) }
section
variable {r : Rho} {n : Nat} {H : Hp} {a dx : Addr} {cls : Value}
mutual
theorem Rep.toX (hx : S.ex = none) : ∀ (d : D) (v : V), Rep S r n H d v → Rep (withX S a dx cls) r n H d v
  | .non, _, h => by unfold Rep at h ⊢; exact h
  | .bl _, _, h => by unfold Rep at h ⊢; exact h
  | .int _, _, h => by unfold Rep at h ⊢; exact h
  | .str _, _, h => by unfold Rep at h ⊢; exact h
  | .scr _, _, h => by unfold Rep at h ⊢; exact h
  | .ref _, _, h => by unfold Rep at h ⊢; exact h
  | .tup ds, _, h => by
    unfold Rep at h ⊢
    obtain ⟨p, xs, e, h1, h2⟩ := h
    exact ⟨p, xs, e, h1, RepL.toX hx ds xs h2⟩
  | .lst ds, _, h => by
    unfold Rep at h ⊢
    obtain ⟨p, xs, e, h1, ho, h2⟩ := h
    exact ⟨p, xs, e, h1, ho, RepL.toX hx ds xs h2⟩
  | .obj c ks ds, _, h => by
    unfold Rep at h ⊢
    obtain ⟨p, dx, fs, e, h1, ho, h2, h3⟩ := h
    exact ⟨p, dx, fs, e, h1, ho, h2, RepL.toX hx ds _ h3⟩
  | .exn c x, _, h => by
    unfold Rep at h
    obtain ⟨_, _, _, e, _⟩ := h
    rw [hx] at e
    cases e
theorem RepL.toX (hx : S.ex = none) : ∀ (ds : List D) (vs : List V), RepL S r n H ds vs → RepL (withX S a dx cls) r n H ds vs
  | [], _, h => by unfold RepL at h ⊢; exact h
  | d :: ds, _, h => by
    unfold RepL at h ⊢
    obtain ⟨v, w, e, h1, h2⟩ := h
    exact ⟨v, w, e, Rep.toX hx d v h1, RepL.toX hx ds w h2⟩
end
mutual
theorem Rep.ofX {m : Nat} : ∀ (d : D) (v : V), Rep (withX S a dx cls) r n H d v → below m d = true → Rep S r n H d v
  | .non, _, h, _ => by unfold Rep at h ⊢; exact h
  | .bl _, _, h, _ => by unfold Rep at h ⊢; exact h
  | .int _, _, h, _ => by unfold Rep at h ⊢; exact h
  | .str _, _, h, _ => by unfold Rep at h ⊢; exact h
  | .scr _, _, h, _ => by unfold Rep at h ⊢; exact h
  | .ref _, _, h, _ => by unfold Rep at h ⊢; exact h
  | .tup ds, _, h, b => by
    unfold Rep at h ⊢
    obtain ⟨p, xs, e, h1, h2⟩ := h
    exact ⟨p, xs, e, h1, RepL.ofX ds xs h2 (by simpa [below] using b)⟩
  | .lst ds, _, h, b => by
    unfold Rep at h ⊢
    obtain ⟨p, xs, e, h1, ho, h2⟩ := h
    exact ⟨p, xs, e, h1, ho, RepL.ofX ds xs h2 (by simpa [below] using b)⟩
  | .obj c ks ds, _, h, b => by
    unfold Rep at h ⊢
    obtain ⟨p, dx, fs, e, h1, ho, h2, h3⟩ := h
    exact ⟨p, dx, fs, e, h1, ho, h2, RepL.ofX ds _ h3 (by simpa [below] using b)⟩
  | .exn c x, _, h, b => by simp [below] at b
theorem RepL.ofX {m : Nat} : ∀ (ds : List D) (vs : List V), RepL (withX S a dx cls) r n H ds vs → belowL m ds = true → RepL S r n H ds vs
  | [], _, h, _ => by unfold RepL at h ⊢; exact h
  | d :: ds, _, h, b => by
    unfold RepL at h ⊢
    obtain ⟨v, w, e, h1, h2⟩ := h
    have b' : below m d = true ∧ belowL m ds = true := by simpa [belowL] using b
    exact ⟨v, w, e, Rep.ofX d v h1 b'.1, RepL.ofX ds w h2 b'.2⟩
end
theorem CellOk.toX (hx : S.ex = none) {p : Addr} {c : Cell} (h : CellOk S r n H p c) : CellOk (withX S a dx cls) r n H p c := by
  cases c with
  | lst ds => obtain ⟨xs, e, h⟩ := h; exact ⟨xs, e, RepL.toX hx _ _ h⟩
  | ins c ks ds => obtain ⟨q, fs, e, e2, h⟩ := h; exact ⟨q, fs, e, e2, RepL.toX hx _ _ h⟩
  | dK ks ds => obtain ⟨xs, e, e2, h⟩ := h; exact ⟨xs, e, e2, RepL.toX hx _ _ h⟩
  | dT ks ds => obtain ⟨xs, e, e2, h⟩ := h; exact ⟨xs, e, e2, RepL.toX hx _ _ h⟩
theorem CellOk.ofX {m : Nat} {p : Addr} {c : Cell} (h : CellOk (withX S a dx cls) r n H p c) (b : belowC m c = true) : CellOk S r n H p c := by
  cases c with
  | lst ds => obtain ⟨xs, e, h⟩ := h; exact ⟨xs, e, RepL.ofX _ _ h b⟩
  | ins c ks ds => obtain ⟨q, fs, e, e2, h⟩ := h; exact ⟨q, fs, e, e2, RepL.ofX _ _ h b⟩
  | dK ks ds => obtain ⟨xs, e, e2, h⟩ := h; exact ⟨xs, e, e2, RepL.ofX _ _ h b⟩
  | dT ks ds => obtain ⟨xs, e, e2, h⟩ := h; exact ⟨xs, e, e2, RepL.ofX _ _ h b⟩
theorem Ok.toX (hx : S.ex = none) {st : Sto} (o : Ok S r st H) : Ok (withX S a dx cls) r st H := ⟨o.inj, fun k c e => (o.cel k c e).toX hx⟩
end
/-- nothing of the exception is left in the store, in the slots -/
def chkS (st st' : Sto) : Bool := (List.range st'.length).all fun k => match st'[k]? with
  | some b => (match st[k]? with
    | some a => cbeq a b
    | none => false) || belowC st'.length b
  | none => true
def chkE (m : Nat) (env env' : En) : Bool := (List.range env'.length).all fun k => match env'[k]? with
  | some (some b) => (match env[k]? with
    | some (some a) => dbeq a b
    | _ => false) || below m b
  | _ => true
/-- a suite's end: slot i goes -/
def endX (i : Option Nat) (env : En) (st : Sto) : Out → Out
  | .nx env' st' => if (chkS st st' && chkE st'.length env (un i env')) = true then .nx (un i env') st' else .bad
  | .rt d st' => if (chkS st st' && below st'.length d) = true then .rt d st' else .bad
  | _ => .bad
where un (i : Option Nat) (env : En) : En := match i with
  | some i => env.set i none
  | none => env
def sTry (mt : Nat → Option Bool) (i : Option Nat) (fb fs : SM) : SM := fun env st => match fb env st with
  | .exc c d env' st' => match mt c with
    | some true => endX i env' st' (fs (match i with
      | some i => env'.set i (some (.exn c d))
      | none => env') st')
    | some false => .exc c d env' st'
    | none => .bad
  | o => o
theorem chkS_ok (hx : S.ex = none) {a dx : Addr} {cls : Value} {r r' : Rho} {H H' : Hp} {st st' : Sto} (o : Ok S r st H) (l : Le r st.length H r' st'.length H') (o' : Ok (withX S a dx cls) r' st' H') (h : chkS st st' = true) : Ok S r' st' H' := by
  refine ⟨o'.inj, fun k c e => ?_⟩
  have hk := (List.getElem?_eq_some_iff.mp e).1
  have q := List.all_eq_true.mp h k (List.mem_range.mpr hk)
  rw [e] at q
  simp only [Bool.or_eq_true] at q
  rcases q with q | q
  · cases q2 : st[k]? with
    | none => rw [q2] at q; cases q
    | some c0 =>
      rw [q2] at q
      have ec := cbeq_eq q
      subst ec
      have hk0 := (List.getElem?_eq_some_iff.mp q2).1
      exact (o'.cel k _ e).ofX (belowC_of hx ((o.cel k _ q2)))
  · exact (o'.cel k c e).ofX q
theorem chkE_ok (hx : S.ex = none) {a dx : Addr} {cls : Value} {r r' : Rho} {n n' m : Nat} {H H' : Hp} {env env' : En} {σ σ' : L2.St} (eo : EnvOk S r n H env σ) (eo' : EnvOk (withX S a dx cls) r' n' H' env' σ') (h : chkE m env env' = true) : EnvOk S r' n' H' env' σ' := by
  refine ⟨eo'.len, fun k d e => ?_⟩
  obtain ⟨v, e1, e2⟩ := eo'.at_ k d e
  refine ⟨v, e1, ?_⟩
  have hk := (List.getElem?_eq_some_iff.mp e).1
  have q := List.all_eq_true.mp h k (List.mem_range.mpr hk)
  rw [e] at q
  simp only [Bool.or_eq_true] at q
  rcases q with q | q
  · cases q2 : env[k]? with
    | none => rw [q2] at q; cases q
    | some d0 =>
      cases d0 with
      | none => rw [q2] at q; cases q
      | some d0 =>
        rw [q2] at q
        have ed := dbeq_eq _ _ q
        subst ed
        obtain ⟨w, _, g2⟩ := eo.at_ k _ q2
        exact Rep.ofX _ _ e2 (below_of hx _ _ g2)
  · exact Rep.ofX _ _ e2 q
def tsX (S : Stat) (fs : SM) : Addr → Value → Option Addr → TS := fun a cls d => match d with
  | some dx => rdS (withX S a dx cls) W0 fs
  | none => fun _ _ _ => False
theorem s_tryAs (i : Nat) {x n : Str} {c : Value} {mt : Nat → Option Bool} {body suite : List Stmt} {b0 : Stmt} {np pos pos' : Pos} {fb fs : SM} (hx : S.ex = none) (hs : X.stack = X.env :: X.outer) (hf : X.env.frame = some X.env.locals) (hN : X.N.Nodup) (hc : Names X x c) (tk : Takes X W)
    (hm : ∀ k b, mt k = some b → PySem.W.exmOne X.K (.ref (S.CA k)) c = some b)
    (hb : ∀ (W' : WX) (pn : List (Addr × Obj)) (xe : Value → Shared → Prop), Takes (X.tr pn xe) W' → PassesOwn (model X.prog X.w) X.A X.env xe → PSs (X.tr pn xe) body (rdS S W' fb))
    (hsu : ∀ (a dx : Addr) (oe : Obj) (cls : Value) (pn : List (Addr × Obj)), Zc cls (some dx) oe → (∃ vs, oe.data = .fields vs) → PSs (X.suite a ((a, oe) :: pn)) (b0 :: suite) (rdS (withX S a dx cls) W0 fs))
    (hi : X.N[i]? = some n := by rfl) (hln : X.env.kindOf n = some .local := by rfl) :
    PS X (.Try body [.ExceptHandler (some (.Name x np)) (some n) (b0 :: suite) pos'] [] [] pos) (rdS S W (sTry mt (some i) fb fs)) := by
  refine PS.weak (ps_try_as (ts := tsX S fs) hs hf hN hi hln hc tk hb fun a oe cls d pn z1 z2 => ?_) fun σ H E h => ?_
  · cases d with
    | some dx => exact hsu a dx oe cls pn z1 z2
    | none => exact PSs.weak pss_never fun _ _ _ z => z
  · obtain ⟨r, env, st, o, eo, h⟩ := h
    refine ⟨r, env, st, o, eo, ?_⟩
    unfold sTry at h
    cases q : fb env st with
    | exc k d env' st' =>
      rw [q] at h
      intro r1 σ1 H1 dx v l1 o1 eo1 hx1 rv
      simp only at h
      cases q2 : mt k with
      | none => simp only [q2] at h; exact h.elim
      | some b =>
        refine ⟨b, hm k b q2, fun hb1 a ha => ?_, fun hb1 => ?_⟩
        · subst hb1
          simp only [q2] at h
          refine ⟨r1, env'.set i (some (.exn k d)), st', o1.toX hx, ?_, ?_⟩
          · refine EnvOk.set ⟨eo1.len, fun j d' e => ?_⟩ ?_
            · obtain ⟨w, g1, g2⟩ := eo1.at_ j d' e
              exact ⟨w, g1, Rep.toX hx _ _ g2⟩
            · unfold Rep
              exact ⟨a, dx, v, rfl, rfl, hx1, Rep.toX hx _ _ rv⟩
          · cases q3 : fs (env'.set i (some (.exn k d))) st' with
            | nx env2 st2 =>
              simp only [q3, endX] at h
              split at h
              · rename_i hk
                have hk := Bool.and_eq_true_iff.mp hk
                intro r2 σ2 H2 l2 o2 eo2
                exact h r2 _ H2 (l1.trans l2) (chkS_ok hx o1 l2 o2 hk.1) (chkE_ok hx eo1 eo2.unset hk.2)
              · exact h.elim
            | rt d2 st2 =>
              simp only [q3, endX] at h
              split at h
              · rename_i hk
                have hk := Bool.and_eq_true_iff.mp hk
                intro r2 H2 v2 l2 o2 rv2
                exact h r2 H2 v2 (l1.trans l2) (chkS_ok hx o1 l2 o2 hk.1) (Rep.ofX _ _ rv2 hk.2)
              · exact h.elim
            | bk _ _ => simp only [q3, endX] at h; exact h.elim
            | ct _ _ => simp only [q3, endX] at h; exact h.elim
            | exc _ _ _ _ => simp only [q3, endX] at h; exact h.elim
            | bad => simp only [q3, endX] at h; exact h.elim
        · subst hb1
          simp only [q2] at h
          exact h r1 σ1 H1 dx v l1 o1 eo1 hx1 rv
    | nx env' st' => rw [q] at h; exact h
    | rt d st' => rw [q] at h; exact h
    | bk env' st' => rw [q] at h; exact h
    | ct env' st' => rw [q] at h; exact h
    | bad => rw [q] at h; exact h
/-- .. except x: suite -/
theorem s_tryOnly {x : Str} {c : Value} {mt : Nat → Option Bool} {body suite : List Stmt} {b0 : Stmt} {np pos pos' : Pos} {fb fs : SM} (hx : S.ex = none) (hs : X.stack = X.env :: X.outer) (hf : X.env.frame = some X.env.locals) (hc : Names X x c) (tk : Takes X W)
    (hm : ∀ k b, mt k = some b → PySem.W.exmOne X.K (.ref (S.CA k)) c = some b)
    (hb : ∀ (W' : WX) (pn : List (Addr × Obj)) (xe : Value → Shared → Prop), Takes (X.tr pn xe) W' → PassesOwn (model X.prog X.w) X.A X.env xe → PSs (X.tr pn xe) body (rdS S W' fb))
    (hsu : ∀ (a dx : Addr) (oe : Obj) (cls : Value) (pn : List (Addr × Obj)), Zc cls (some dx) oe → (∃ vs, oe.data = .fields vs) → PSs (X.suite a ((a, oe) :: pn)) (b0 :: suite) (rdS (withX S a dx cls) W0 fs)) :
    PS X (.Try body [.ExceptHandler (some (.Name x np)) none (b0 :: suite) pos'] [] [] pos) (rdS S W (sTry mt none fb fs)) := by
  refine PS.weak (ps_try_only (ts := tsX S fs) hs hf hc tk hb fun a oe cls d pn z1 z2 => ?_) fun σ H E h => ?_
  · cases d with
    | some dx => exact hsu a dx oe cls pn z1 z2
    | none => exact PSs.weak pss_never fun _ _ _ z => z
  · obtain ⟨r, env, st, o, eo, h⟩ := h
    refine ⟨r, env, st, o, eo, ?_⟩
    unfold sTry at h
    cases q : fb env st with
    | exc k d env' st' =>
      rw [q] at h
      intro r1 σ1 H1 dx v l1 o1 eo1 hx1 rv
      simp only at h
      cases q2 : mt k with
      | none => simp only [q2] at h; exact h.elim
      | some b =>
        refine ⟨b, hm k b q2, fun hb1 a ha => ?_, fun hb1 => ?_⟩
        · subst hb1
          simp only [q2] at h
          refine ⟨r1, env', st', o1.toX hx, ⟨eo1.len, fun j d' e => ?_⟩, ?_⟩
          · obtain ⟨w, g1, g2⟩ := eo1.at_ j d' e
            exact ⟨w, g1, Rep.toX hx _ _ g2⟩
          · cases q3 : fs env' st' with
            | nx env2 st2 =>
              simp only [q3, endX] at h
              split at h
              · rename_i hk
                have hk := Bool.and_eq_true_iff.mp hk
                intro r2 σ2 H2 l2 o2 eo2
                exact h r2 _ H2 (l1.trans l2) (chkS_ok hx o1 l2 o2 hk.1) (chkE_ok hx eo1 eo2 hk.2)
              · exact h.elim
            | rt d2 st2 =>
              simp only [q3, endX] at h
              split at h
              · rename_i hk
                have hk := Bool.and_eq_true_iff.mp hk
                intro r2 H2 v2 l2 o2 rv2
                exact h r2 H2 v2 (l1.trans l2) (chkS_ok hx o1 l2 o2 hk.1) (Rep.ofX _ _ rv2 hk.2)
              · exact h.elim
            | bk _ _ => simp only [q3, endX] at h; exact h.elim
            | ct _ _ => simp only [q3, endX] at h; exact h.elim
            | exc _ _ _ _ => simp only [q3, endX] at h; exact h.elim
            | bad => simp only [q3, endX] at h; exact h.elim
        · subst hb1
          simp only [q2] at h
          exact h r1 σ1 H1 dx v l1 o1 eo1 hx1 rv
    | nx env' st' => rw [q] at h; exact h
    | rt d st' => rw [q] at h; exact h
    | bk env' st' => rw [q] at h; exact h
    | ct env' st' => rw [q] at h; exact h
    | bad => rw [q] at h; exact h
end
end Cw

/-! Own errors: class X(Base) with an __init__ that says super().__init__(text) and stores one attribute. -/
namespace Cw
open PySem PySem.W PySem.Calls PyProof.Rows PySem.HandSPX
theorem one_size (v : Value) : [v].length ≤ sizeLine := by
  rw [sizeLine_eq]
  exact (by decide : 1 ≤ 16777216)
theorem tail_typ (B : Addr) (X : String) : (Value.ref B :: ESX.exTail).contains (.type X) = ESX.exTail.contains (.type X) := by
  rw [List.contains_cons]
  have : (Value.type X == Value.ref B) = false := by
    simp
  rw [this, Bool.false_or]
theorem tail_mem {C B : Addr} (X : String) (hX : ESX.exTail.contains (.type X) = true) : (Value.ref C :: .ref B :: ESX.exTail).contains (.type X) = true := by
  rw [List.contains_cons, tail_typ, hX, Bool.or_true]
theorem mro_has2 {K : W.Frag} {C B : Addr} {cd : ClassData} (hcd : W.clsIn K C = some cd) (hm : cd.mro = .ref C :: .ref B :: ESX.exTail) {b : Value} (hb : (Value.ref C :: .ref B :: ESX.exTail).contains b = true) : W.mroIn K C b = some true := by
  unfold W.mroIn
  rw [hcd, Option.bind_some, hm, if_neg (show ¬ (List.isEmpty (Value.ref C :: .ref B :: ESX.exTail) = true) from Bool.false_ne_true), hb]
section
open Builtin Builtin.ObjectAttr
variable {prog : Program} {w : World} {A : Around} {E : Value → Shared → Prop} {R : Result → Shared → Prop} {hp : Heap} {g : Array GenState} {d : Drawn} {t : Nat} {os : OsState}
theorem osa_exc2 {K : W.Frag} {name : Str} {tk : Tok} {v : Value} {x C B : Addr} {ox : Obj} {od : Option Obj} {cd : ClassData}
    (X : K.In hp) (I : W.InstAt hp x ox C od) (hcd : W.clsIn K C = some cd) (hm : cd.mro = .ref C :: .ref B :: ESX.exTail) (ha : W.findIn K (.ref C) name = some none)
    (hq : wpAny (model prog w) A.in1 (storeInOwnDict (.ref x) (.ref C) (.str name tk) name v false)
      (fun fin s' => match fin with | .done f => R (.ok f) s' | .again c' => c'.quiet = true ∧ codeAny (model prog w) A c' R s') (fun e s' => R (.error e) s') ⟨hp, g, d, t, os⟩) :
    codeAny (model prog w) A (.call (.builtin "object.__setattr__") ⟨[.ref x, .str name tk, v], []⟩) R ⟨hp, g, d, t, os⟩ := by
  have SF := F.store_object
  have sub : W.Looks (model prog w) hp (isInstance (.ref x) (.type "object")) true := I.type.andThen (W.looks_mroIn X (mro_has2 hcd hm (tail_mem "object" (by decide +kernel))))
  refine codeAny_call_builtin SF.slot.plain SF.entry (@W.check_slot (model prog w) _ _ ⟨hp, g, d, t, os⟩ "object.__setattr__" "object" "__setattr__" (.ref x) [.str name tk, v] [] _ SF.kind SF.split sub (SF.args (.ref x) (.str name tk) v) ?_)
  have hmr : W.Looks (model prog w) hp (mroOf (.ref C)) cd.mro := (W.looks_clsIn X hcd).andThen .now
  have L3 : W.Looks (model prog w) hp (storeTaker? none) none := .now
  have hpass : refuseLoop (.ref x) "__setattr__" cd.mro = pure () := by
    rw [hm, refuseLoop_ref, refuseLoop_ref]
    exact F.store_Exception.passes _
  rw [W.osa_eq, refuse_eq]
  refine wpAny_bind (wpAny_bind (I.type.at (wpAny_bind (hmr.at ?_))))
  rw [hpass]
  refine wpAny_pure (wpAny_bind (I.type.at (wpAny_bind ((W.looks_findIn X ha).at (wpAny_bind (L3.at ?_))))))
  exact hq
theorem osa_new2 {K : W.Frag} {name : Str} {tk : Tok} {v : Value} {x C B : Addr} {fv : Array Value} {cd : ClassData}
    (X : K.In hp) (hx : hp.get? x = some { cls := .ref C, data := .fields fv }) (hcd : W.clsIn K C = some cd) (hm : cd.mro = .ref C :: .ref B :: ESX.exTail) (hh : cd.hasDict = true) (ha : W.findIn K (.ref C) name = some none)
    (hq : ∀ h' tk' dx, (∀ b o, b ≠ x → hp.get? b = some o → h'.get? b = some o) → hp.objs.size ≤ dx → dx ≠ x → h'.get? x = some { cls := .ref C, dict := some dx, data := .fields fv } →
      h'.Ns1 dx (fun y => if y = name then some v else none) → R (.ok (.ret .none)) ⟨h', g, d, tk', os⟩) :
    codeAny (model prog w) A (.call (.builtin "object.__setattr__") ⟨[.ref x, .str name tk, v], []⟩) R ⟨hp, g, d, t, os⟩ := by
  have I : W.InstAt hp x { cls := .ref C, data := .fields fv } C none := ⟨hx, rfl, rfl, trivial⟩
  have hxs : x ≠ hp.objs.size := Nat.ne_of_lt (Heap.lt_size hx)
  refine osa_exc2 X I hcd hm ha ?_
  have hcls : W.Looks (model prog w) hp (classData C) cd := W.looks_clsIn X hcd
  obtain ⟨nm, bs, mro, ns, qn, hd, sn, sb, ab, col, del⟩ := cd
  dsimp only at hh
  subst hh
  unfold storeInOwnDict ownDictForStores
  repeat (first | with_reducible refine HandSPX.store_in_new ?_ ?_ | with_reducible refine wpAny_loadPart_at hx ?_ | with_reducible refine hcls.at ?_ | wp_step)
  · exact ⟨_, #[], _, (Heap.get?_update_ne _ _ _ _ hxs.symm).trans (Heap.get?_push_at rfl rfl), rfl, fun e he => absurd he (by simp), fun _ => rfl⟩
  · intro h' tk' hn' hs
    have hx₁ : (hp.push { cls := .type "dict", data := .dict #[] }).get? x = some { cls := .ref C, data := .fields fv } := Heap.get?_push_of_some _ hx
    refine hq h' tk' hp.objs.size (fun b o hb ho => ?_) (Nat.le_refl _) hxs.symm ?_ hn'
    · exact (hs.2 b (Nat.ne_of_lt (Heap.lt_size ho))).trans ((Heap.get?_update_ne _ _ _ _ hb).trans (Heap.get?_push_of_some _ ho))
    · exact (hs.2 x hxs).trans (Heap.get?_update_self _ hx₁ rfl)
end
theorem at_meth {prog : Program} {w : World} {A : Around} {c : Code} {E : Value → Shared → Prop} {s : Shared} {env : Env} {o : Expr} {name : Str} {apos pos : Pos} {args : List Expr} {Q : Value → Shared → Prop} (hline : (apos.endLine == pos.line) = true)
    (h : _root_.PySem.wpAt (model prog w) A c (attributeBase o name env (eval o env)) (fun ov s₁ => ∀ pl, wpAny (model prog w) A (getMethod ov name pl) (fun fx s₂ => wpAny (model prog w) A (callWith pos fx.1 fx.2 (backTo pos (starEach args env)) []) Q E s₂) E s₁) E s)
    (hform : methodCallForm (args.length + ([] : List Keyword).length) (backTo pos (starEach args env)) (backToKw pos (keywordEach [] env)) = true := by rfl) :
    _root_.PySem.wpAt (model prog w) A c (eval (.Call (.Attribute o name apos) args [] pos) env) Q E s := by
  rw [arm_eval_Call]
  refine _root_.PySem.wpAt_bind (_root_.PySem.wpAt_mono h (fun ov s₁ h₁ => _root_.PySem.wpAt_of_wpAny (wpAny_bind (wpAny_standAt ?_))) fun _ _ x => x)
  have hpos : methodCallPos true o env apos pos = pure pos := by unfold methodCallPos; simp [hline]
  unfold methodCall
  rw [hform]
  refine wpAny_bind (wpAny_holding (wpAny_mono (h₁ _) (fun fx s₂ h₂ => ?_) fun _ _ x => x))
  exact wpAny_bind (wpAny_of_eq hpos h₂)
/-- the class beneath, straight over Exception -/
def BaseC (K : Frag) (B : Addr) : Prop := ∃ (N : Addr) (n2 q : Str) (bs sub : List Value) (sn : List Str) (ab : Bool) (col : Option Bool) (dd : Option Addr) (k0 k1 k2 k3 k5 : Option Value), K.lookup B = some (excClassObj n2 q B N bs ESX.exTail true sn sub ab col dd k0 k1 k2 k3 k5 "Exception.__new__")
/-- the facts of one class, but for its text -/
structure ErrC (prog : Program) (K : Frag) (mg : Str → Option Value) (nm f : Str) (C fI : Addr) : Prop where
  gC : mg nm = some (.ref C)
  cls : ∃ (B N : Addr) (n2 q : Str) (bs sub : List Value) (sn : List Str) (ab : Bool) (col : Option Bool) (dd : Option Addr) (k0 k1 k2 k3 k5 : Option Value), K.lookup C = some (excClassObj n2 q C N bs (.ref B :: ESX.exTail) true sn sub ab col dd k0 k1 k2 k3 k5 "Exception.__new__") ∧ W.findIn K (.ref B) "__init__" = some (some (.builtin "Exception.__init__")) ∧ BaseC K B
  sa : findIn K (.ref C) "__setattr__" = some (some (.builtin "object.__setattr__"))
  ga : findIn K (.ref C) "__getattribute__" = some (some (.builtin "BaseException.__getattribute__"))
  gg : findIn K (.ref C) "__getattr__" = some none
  noN : findIn K (.ref C) f = some none
  iC : findIn K (.ref C) "__init__" = some (some (.ref fI))
  tC : typeIn K (.ref fI) = some (.type "function")
  kC : keepIn K (.ref C) = true
  exC : subIn K (.ref C) (.type "BaseException") = some true
  tyC : typeIn K (.ref C) = some (.type "type")
  hdC : hasDictIn K C = true
  opq : nsIn K cStatics "thirdparty.any" = some none
  sup : mg "super" = none
  htop : (prog.main.scope.names.lookup ("super" : Str)).isSome = false
theorem kept_but {K : Frag} {h h' : Heap} {x : Addr} (X : K.In h) (hx : K.lookup x = none) (k : ∀ b o, b ≠ x → h.get? b = some o → h'.get? b = some o) : K.In h' := fun a o e =>
  k a o (fun z => by rw [z, hx] at e; cases e) (X a o e)
theorem alongB {K : W.Frag} {B : Addr} (h : W.findIn K (.ref B) "__init__" = some (some (.builtin "Exception.__init__"))) (b : BaseC K B) : W.alongIn K "__init__" (.ref B :: ESX.exTail) = some (some (.builtin "Exception.__init__")) := by
  obtain ⟨N, n2, q, bs, sub, sn, ab, col, dd, k0, k1, k2, k3, k5, e⟩ := b
  unfold W.findIn at h
  rw [show (Value.ref B) = Value.ref B from rfl] at h
  simp only [e] at h
  exact h

/-! ### the attribute at -/
namespace E_at
def iA (p1 p2 : Pos) : Arguments := { posonlyargs := [], args := [{ arg := "self", annotation := none, pos := p1 }, { arg := "at", annotation := none, pos := p2 }], vararg := none, kwonlyargs := [], kw_defaults := [], kwarg := none, defaults := [] }
def iB (tx : Str) (k : Nat) (p1 p2 p3 p4 p5 p6 q1 q2 q3 q4 : Pos) : List Stmt := [.Expr (.Call (.Attribute (.Call (.Name "super" p1) [] [] p2) "__init__" p3) [.Constant (.str tx) k p4] [] p5) p6, .Assign [.Attribute (.Name "self" q1) "at" q2] (.Name "at" q3) q4]
def iS : Scope := { kind := .function, names := [(PySem.Str.ofString "self", .local), (PySem.Str.ofString "at", .local), (PySem.Str.ofString "__class__", .free), (PySem.Str.ofString "super", .globalImplicit)], isGenerator := false, isCoroutine := false, more := [] }
/-- what the written part says of the class at C -/
structure Txt (prog : Program) (K : Frag) (mg : Str → Option Value) (nm : Str) (C fI : Addr) : Prop extends ErrC prog K mg nm "at" C fI where
  fn : ∃ (oc : Value) (od : Option Addr) (doc pm : Value) (an : Option Addr) (cda : Addr) (ct : Value) (osl : Array (Option Value)) (cc : Addr) (qual tx : Str) (k : Nat) (a1 a2 p1 p2 p3 p4 p5 p6 q1 q2 q3 q4 : Pos) (ccl : Value) (cdd : Option Addr) (vs : Array Value) (ccs : Array (Option Value)) (file : Str) (tf : Tok) (cl : Value) (cld : Option Addr) (csl : Array (Option Value)),
    K.lookup fI = some ⟨oc, od, .func (ksFn "__init__" qual (iA a1 a2) (iB tx k p1 p2 p3 p4 p5 p6 q1 q2 q3 q4) iS .none .none doc pm an (.ref cda) ct cc), osl⟩ ∧ codeIn K (.ref cda) qual = true ∧
    K.lookup cda = some ⟨ccl, cdd, .fields vs, ccs⟩ ∧ vs[2]? = some (.str file tf) ∧ ((prog.main.file : Str) == file) = true ∧ K.lookup cc = some ⟨cl, cld, .cell (some (.ref C)), csl⟩ ∧ (p3.endLine == p5.line) = true
/-- what __init__ leaves of a fresh exception at x -/
structure InitEnd (h h' : Heap) (x C dx t1 : Addr) (v : Value) : Prop where
  keep : ∀ b o, b ≠ x → h.get? b = some o → h'.get? b = some o
  obj : h'.get? x = some { cls := .ref C, dict := some dx, data := .fields #[.ref t1, .none, .none, .none, .bool false, .none] }
  dbig : h.objs.size ≤ dx
  dne : dx ≠ x
  ns : h'.Ns1 dx (fun y => if y = "at" then some v else none)
/-- a made error -/
structure OwnMade (h h' : Heap) (e C d : Addr) (v : Value) : Prop where
  keep : ∀ b o, h.get? b = some o → h'.get? b = some o
  new : h.objs.size ≤ e
  obj : ∃ oe vs, h'.get? e = some oe ∧ oe.cls = .ref C ∧ oe.dict = some d ∧ oe.data = .fields vs ∧ vs[1]? = some .none
  dbig : h.objs.size ≤ d
  dne : d ≠ e
  ns : h'.Ns1 d (fun y => if y = "at" then some v else none)
section
variable {prog : Program} {w : World} {A : Around} {E : Value → Shared → Prop} {R : Result → Shared → Prop} {s : Shared} {K : Frag} {mg : Str → Option Value} {nm : Str} {C fI : Addr} {base : Heap}
theorem init_ok (T : Txt prog K mg nm C fI) (hM : L2.Mod K mg base) (bk : ∀ b o, base.get? b = some o → s.heap.get? b = some o) {x t0 : Addr} {v : Value} (hlim : s.heap.NoLimit) (hx : s.heap.get? x = some (excO C t0)) (hnx : K.lookup x = none) (hroom : A.depth + 2 < recursionLimit)
    (hq : ∀ h' tk dx t1, InitEnd s.heap h' x C dx t1 v → R (.ok (.ret .none)) { s with heap := h', toks := tk }) :
    codeAny (model prog w) A (.call (.ref fI) ⟨[.ref x, v], []⟩) R s := by
  obtain ⟨oc, od, doc, pm, an, cda, ct, osl, cc, qual, tx, k, a1, a2, p1, p2, p3, p4, p5, p6, q1, q2, q3, q4, ccl, cdd, vs, ccs, file, tf, cl, cld, csl, ho, hcd, hcode, hvs, hfile, hcell, hline⟩ := T.fn
  obtain ⟨B, N, n2, q, bs, sub, sn, ab, col, dd, k0, k1, k2, k3, k5, hC, hBi, hBc⟩ := T.cls
  obtain ⟨mb, hmb, hmb2⟩ := hM.blt
  have X : K.In s.heap := hM.kin.keeps bk
  have hcl : clsIn K C = some { name := n2, bases := bs, mro := .ref C :: .ref B :: ESX.exTail, ns := N, qualname := q, hasDict := true, slotNames := sn, subclasses := sub, abstract := ab, collection := col, hasDel := false } := by unfold clsIn; rw [hC] <;> rfl
  refine ks_codeAny_call_defAt (fd := ksFn "__init__" qual (iA a1 a2) (iB tx k p1 p2 p3 p4 p5 p6 q1 q2 q3 q4) iS .none .none doc pm an (.ref cda) ct cc) (body := iB tx k p1 p2 p3 p4 p5 p6 q1 q2 q3 q4) (binds := [("self", .ref x), ("at", v)]) (by omega) (X _ _ ho) rfl hlim (codeRec_of X hcd) rfl
    (BindsTo.of_eq (by first | rfl | with_unfolding_all rfl)) (show ∀ y ∈ iS.names, y.2 ≠ .cell by decide) (fun y hy => ?_) (fun h₀ hns k₀ => ?_) rfl rfl rfl
  · rcases List.mem_cons.mp hy with rfl | hy
    · rfl
    · rcases List.mem_cons.mp hy with rfl | hy
      · rfl
      · cases hy
  have X₀ : K.In h₀ := X.keeps k₀
  have hx₀ := k₀ _ _ hx
  have bk₀ : ∀ b o, base.get? b = some o → h₀.get? b = some o := fun b o e => k₀ _ _ (bk b o e)
  obtain ⟨hp, g, d, t, os⟩ := s
  -- super().__init__(text)
  refine ks_wpAt_execs_cons (ks_wpAt_Expr_any (at_meth hline ?_))
  refine ks_wpAt_super_base (f := fI) (cc := cda) rfl rfl (by decide) rfl (X₀ _ _ ho) rfl rfl rfl (X₀ _ _ hcode) rfl hvs hfile T.htop ?_
  refine ks_loadName_global rfl rfl (loadGlobal_builtin (mg := mg) (mb := mb) (hM.glob.keeps bk₀) T.sup (hmb.keeps bk₀) ((hmb2 _ (by decide)).trans (by decide +kernel : bootBuiltins "super" = some (.type "super"))) ⟨rfl, ?_⟩)
  refine wpAny_loadName_free (c := cc) rfl rfl rfl ⟨_, X₀ _ _ hcell, rfl⟩ ?_
  refine wpAny_loadName_local (v := .ref x) rfl rfl hns rfl ?_
  refine ks_wpAny_isType_cls (X₀ _ _ hC) rfl ⟨rfl, ?_⟩
  have I0 : InstAt h₀ x (excO C t0) C none := ⟨hx₀, rfl, rfl, trivial⟩
  have hxC : x ≠ C := ks_ne X₀ I0 hcl
  refine ks_wpAny_call_super (X₀ _ _ hC) rfl hx₀ rfl (fun c e => by cases e) (looks_mroIn X₀ (mro_has2 hcl rfl (by simp))) (fun h₁ e₁ k₁ => ?_)
  have X₁ := X₀.keeps k₁
  have hx₁ := k₁ _ _ hx₀
  have I1 : InstAt h₁ x (excO C t0) C none := ⟨hx₁, rfl, rfl, trivial⟩
  intro pl
  -- its __init__
  refine ESX.getMethod_super (l₀ := .ref C :: .ref B :: ESX.exTail) (l := .ref B :: ESX.exTail) (K := K) e₁ (looks_opaque X₁ T.opq) ((looks_clsIn X₁ hcl).andThen .now) (ESX.drop_own C _) X₁ ?along hxC (by decide) (I1.type.andThen (looks_mroIn X₁ (mro_has2 hcl rfl (tail_mem "Exception" (by decide +kernel))))) ?_
  · exact alongB hBi hBc
  have X₂ : K.In (h₁.push (ESX.bw x)) := X₁.keeps fun b o e => Heap.get?_push_of_some _ e
  show wpAny _ _ (callWith p5 (.ref h₁.objs.size) [] (backTo p5 (starEach [.Constant (.str tx) k p4] _)) []) _ _ _
  refine ESX.callWith_bound (x := x) (Calls.spliced_cons (wpAny_Constant_str (k := k) (pos := p4) (Calls.spliced_nil ⟨Heap.get?_push_at rfl rfl, ?_⟩))) rfl rfl
  refine ESX.call_bw (X₂ _ _ hC) (Heap.get?_push_of_some _ hx₁) (Heap.get?_push_at rfl rfl) (one_size _) fun h₂ t1 k₂ hx₂ => ?_
  have k0x : ∀ b o, b ≠ x → h₀.get? b = some o → h₂.get? b = some o := fun b o hb e => k₂ b o hb (Heap.get?_push_of_some _ (k₁ _ _ e))
  have X3 : K.In h₂ := kept_but X₀ hnx k0x
  have hxL : hp.objs.size ≠ x := Nat.ne_of_gt (Heap.lt_size hx)
  have hns₂ : h₂.Ns hp.objs.size (fun y => [(("self" : Str), Value.ref x), (("at" : Str), v)].reverse.lookup y) := by
    obtain ⟨oL, es, ep, hL, r⟩ := hns
    exact ⟨oL, es, ep, k0x _ _ hxL hL, r⟩
  have z : hp.objs.size < h₀.objs.size := hns.lt
  -- self.f = f
  refine ks_wpAt_execs_cons (_root_.PySem.wpAt_of_wpAny (plainObj_wpAny_Assign_Attribute ?_))
  refine ESX.ldL (v := v) hns₂ (by first | rfl | with_unfolding_all rfl | kernel_rfl) (ESX.ldL (v := .ref x) hns₂ (by first | rfl | with_unfolding_all rfl | kernel_rfl) ?_)
  refine set_plain X3 (ox := excO C t1) (od := none) ⟨hx₂, rfl, rfl, trivial⟩ T.sa ?_
  refine osa_new2 X3 hx₂ hcl rfl rfl T.noN (fun h₃ tk₃ dx k₃ dn dne hx₃ hn₃ => ?_)
  show _root_.PySem.wpAt _ _ _ (execs [] _) _ _ _
  refine _root_.PySem.wpAt_of_wpAny (wpAny_execs_nil (hq h₃ tk₃ dx t1 ⟨fun b o hb e => k₃ b o hb (k0x b o hb (k₀ b o e)), hx₃, ?_, dne, hn₃⟩))
  exact Nat.le_of_lt (Nat.lt_of_lt_of_le hns₂.lt dn)
theorem made (T : Txt prog K mg nm C fI) (hM : L2.Mod K mg base) (bk : ∀ b o, base.get? b = some o → s.heap.get? b = some o) {v : Value} (hlim : s.heap.NoLimit) (hroom : A.depth + 3 < recursionLimit)
    (hq : ∀ h' tk e d, OwnMade s.heap h' e C d v → R (.ok (.ret (.ref e))) { s with heap := h', toks := tk }) :
    codeAny (model prog w) A (.call (.ref C) ⟨[v], []⟩) R s := by
  obtain ⟨B, N, n2, q, bs, sub, sn, ab, col, dd, k0, k1, k2, k3, k5, hC, hBi, hBc⟩ := T.cls
  obtain ⟨hp, g, dr, tk, os⟩ := s
  have X : K.In hp := hM.kin.keeps bk
  have k : ∀ b o, hp.get? b = some o → ((hp.push (kdv_tup [v])).push (excO C hp.objs.size)).get? b = some o := fun b o e => Heap.get?_push_of_some _ (Heap.get?_push_of_some _ e)
  have hget : ((hp.push (kdv_tup [v])).push (excO C hp.objs.size)).get? (hp.objs.size + 1) = some (excO C hp.objs.size) := by heap_get
  have hnx : K.lookup (hp.objs.size + 1) = none := by
    cases e : K.lookup (hp.objs.size + 1) with
    | none => rfl
    | some o =>
      have z : hp.get? (hp.objs.size + 1) = some o := X _ _ e
      exact absurd (Nat.lt_of_succ_lt (Heap.lt_size z)) (Nat.lt_irrefl _)
  refine call_own F.excBase_Exception (fun Y => tail_typ B Y) (X _ _ hC) (looks_findIn X T.iC) (fun self => bind_fn X self T.tC) (one_size v) ?_
  refine init_ok (s := ⟨(hp.push (kdv_tup [v])).push (excO C hp.objs.size), g, dr, tk, os⟩) T hM (fun b o e => k b o (bk b o e)) (hlim.keeps k) hget hnx ?_ fun h' tk' dx t1 ⟨k', hx, dn, dne, hns⟩ => ?_
  · show A.depth + 1 + 2 < recursionLimit
    omega
  · have old : ∀ b o, hp.get? b = some o → h'.get? b = some o := fun b o e => k' b o (Nat.ne_of_lt (Nat.lt_succ_of_lt (Heap.lt_size e))) (k b o e)
    have z : hp.objs.size + 1 + 1 ≤ dx := by
      first
        | (simpa only [Heap.size_push] using dn)
        | exact dn
        | (have q := dn; rw [Heap.size_push, Heap.size_push] at q; exact q)
    exact ⟨rfl, hq h' tk' (hp.objs.size + 1) dx ⟨old, Nat.le_succ _, ⟨_, _, hx, rfl, rfl, rfl, rfl⟩, Nat.le_trans (Nat.le_trans (Nat.le_succ _) (Nat.le_succ _)) z, dne, hns⟩⟩
end
section
open L2
theorem relO_f {v : V} {v' : Value} (r : RelV v v') (f : Str) : RelO (List.lookup f [(("at" : Str), v)]) (if f = "at" then some v' else none) := by
  by_cases hw : f = "at"
  · subst hw
    rw [if_pos rfl]
    have q : List.lookup ("at" : Str) [(("at" : Str), v)] = some v := by simp [List.lookup]
    rw [q]
    exact r
  · rw [if_neg hw]
    have qw : (f == ("at" : Str)) = false := by simpa using hw
    have q2 : List.lookup f [(("at" : Str), v)] = none := by simp [List.lookup, qw]
    rw [q2]
    trivial
variable {X : Cx} {C fI : Addr}
theorem pmk {nm : Str} {a : Expr} {te : TE} {p pos : Pos} {k : Nat} (T : Txt X.prog X.K X.mg nm C fI) (hr : Room k X.A) (ha : PE X a te) (hg : Gl X nm := by rfl) (hdb : (nm == ("__debug__" : Str)) = false := by decide)
    (he : starEach (a :: []) X.env = (false, eval a X.env) :: starEach [] X.env := by rfl) (hpl : (backTo pos (starEach [] X.env)).any (·.1) = false := by rfl) :
    PMk X (.Call (.Name nm p) [a] [] pos) (tMkE C "at" te) := by
  intro pins s σ H Q I h
  refine wpAny_Call_Name_kw (ld_glob I hg T.gC ?_ hdb)
  refine PySem.W.callWith_K (h₀ := X.base) I.ok.mod.kin T.kC (thn ((pa_cons ha pa_nil he).run pos pins s σ H (fun vs H1 => match vs with | [v] => ∀ d, H1 d = none → Q (.ref C) (some d) (upd H1 d (.xd [(("at" : Str), v)])) | _ => False) I h) fun us s1 hh => ?_) he hpl
  obtain ⟨vs, H1, I1, r1, q1⟩ := hh
  obtain ⟨v, ev⟩ : ∃ v, vs = [v] := by
    cases vs with
    | nil => exact q1.elim
    | cons v vs =>
      cases vs with
      | nil => exact ⟨v, rfl⟩
      | cons _ _ => exact q1.elim
  subst ev
  refine ⟨I1.kIn, ?_⟩
  cases r1 with
  | cons rv rn =>
    rename_i v' us'
    cases rn
    show wpAny _ _ (call (.ref C) [v']) _ _ _
    have hlim := I1.nolimit
    have hbk := I1.bk
    obtain ⟨hp, g, dr, tk, os⟩ := s1
    refine wpAny_call (made T I1.ok.mod hbk hlim (by have := hr.dp; omega) fun h' tk' e d M => ?_)
    show MkP X pins σ Q (.ref e) ⟨h', g, dr, tk', os⟩
    obtain ⟨oe, fv, hoe, hc, hd, hdat, h1⟩ := M.obj
    have hns := M.ns
    obtain ⟨G', g1, g2⟩ := restrict h' fun b => decide (b ≠ e)
    have gk : ∀ b, b ≠ e → G'.get? b = h'.get? b := fun b hb => g1 b (decide_eq_true hb)
    have ge : G'.get? e = none := g2 e (by simp)
    have old : ∀ b o, hp.get? b = some o → G'.get? b = some o := fun b o q => (gk b (Nat.ne_of_lt (Nat.lt_of_lt_of_le (Heap.lt_size q) M.new))).trans (M.keep b o q)
    have ob : ObjOk X.prog X.w (upd H1 d (.xd [(("at" : Str), v)])) G' d (.xd [(("at" : Str), v)]) :=
      ⟨_, hns.at (fun o q => (gk d M.dne).trans q), fun f => relO_f rv f⟩
    have J : Inv X pins σ (upd H1 d (.xd [(("at" : Str), v)])) ⟨G', g, dr, tk', os⟩ := I1.laid (t' := tk') old M.dbig ob
    refine ⟨e, oe, fv, ⟨G', g, dr, tk', os⟩, _, .ref C, some d, rfl, J, fun b o q => ?_, ge, hoe, ⟨hc, hd⟩, hdat, h1, ?_, rfl, I1.bare, raises_own T.exC T.tyC, q1 d (I1.hok.fresh M.dbig)⟩
    · by_cases hb : b = e
      · have q' : G'.get? b = some o := q
        rw [hb, ge] at q'; cases q'
      · exact (gk b hb).symm.trans q
    · rw [upd_ne (Ne.symm M.dne)]
      exact I1.hok.fresh M.new
end
end E_at

/-! ### the attribute word -/
namespace E_word
def iA (p1 p2 : Pos) : Arguments := { posonlyargs := [], args := [{ arg := "self", annotation := none, pos := p1 }, { arg := "word", annotation := none, pos := p2 }], vararg := none, kwonlyargs := [], kw_defaults := [], kwarg := none, defaults := [] }
def iB (tx : Str) (k : Nat) (p1 p2 p3 p4 p5 p6 q1 q2 q3 q4 : Pos) : List Stmt := [.Expr (.Call (.Attribute (.Call (.Name "super" p1) [] [] p2) "__init__" p3) [.Constant (.str tx) k p4] [] p5) p6, .Assign [.Attribute (.Name "self" q1) "word" q2] (.Name "word" q3) q4]
def iS : Scope := { kind := .function, names := [(PySem.Str.ofString "self", .local), (PySem.Str.ofString "word", .local), (PySem.Str.ofString "__class__", .free), (PySem.Str.ofString "super", .globalImplicit)], isGenerator := false, isCoroutine := false, more := [] }
/-- what the written part says of the class at C -/
structure Txt (prog : Program) (K : Frag) (mg : Str → Option Value) (nm : Str) (C fI : Addr) : Prop extends ErrC prog K mg nm "word" C fI where
  fn : ∃ (oc : Value) (od : Option Addr) (doc pm : Value) (an : Option Addr) (cda : Addr) (ct : Value) (osl : Array (Option Value)) (cc : Addr) (qual tx : Str) (k : Nat) (a1 a2 p1 p2 p3 p4 p5 p6 q1 q2 q3 q4 : Pos) (ccl : Value) (cdd : Option Addr) (vs : Array Value) (ccs : Array (Option Value)) (file : Str) (tf : Tok) (cl : Value) (cld : Option Addr) (csl : Array (Option Value)),
    K.lookup fI = some ⟨oc, od, .func (ksFn "__init__" qual (iA a1 a2) (iB tx k p1 p2 p3 p4 p5 p6 q1 q2 q3 q4) iS .none .none doc pm an (.ref cda) ct cc), osl⟩ ∧ codeIn K (.ref cda) qual = true ∧
    K.lookup cda = some ⟨ccl, cdd, .fields vs, ccs⟩ ∧ vs[2]? = some (.str file tf) ∧ ((prog.main.file : Str) == file) = true ∧ K.lookup cc = some ⟨cl, cld, .cell (some (.ref C)), csl⟩ ∧ (p3.endLine == p5.line) = true
/-- what __init__ leaves of a fresh exception at x -/
structure InitEnd (h h' : Heap) (x C dx t1 : Addr) (v : Value) : Prop where
  keep : ∀ b o, b ≠ x → h.get? b = some o → h'.get? b = some o
  obj : h'.get? x = some { cls := .ref C, dict := some dx, data := .fields #[.ref t1, .none, .none, .none, .bool false, .none] }
  dbig : h.objs.size ≤ dx
  dne : dx ≠ x
  ns : h'.Ns1 dx (fun y => if y = "word" then some v else none)
/-- a made error -/
structure OwnMade (h h' : Heap) (e C d : Addr) (v : Value) : Prop where
  keep : ∀ b o, h.get? b = some o → h'.get? b = some o
  new : h.objs.size ≤ e
  obj : ∃ oe vs, h'.get? e = some oe ∧ oe.cls = .ref C ∧ oe.dict = some d ∧ oe.data = .fields vs ∧ vs[1]? = some .none
  dbig : h.objs.size ≤ d
  dne : d ≠ e
  ns : h'.Ns1 d (fun y => if y = "word" then some v else none)
section
variable {prog : Program} {w : World} {A : Around} {E : Value → Shared → Prop} {R : Result → Shared → Prop} {s : Shared} {K : Frag} {mg : Str → Option Value} {nm : Str} {C fI : Addr} {base : Heap}
theorem init_ok (T : Txt prog K mg nm C fI) (hM : L2.Mod K mg base) (bk : ∀ b o, base.get? b = some o → s.heap.get? b = some o) {x t0 : Addr} {v : Value} (hlim : s.heap.NoLimit) (hx : s.heap.get? x = some (excO C t0)) (hnx : K.lookup x = none) (hroom : A.depth + 2 < recursionLimit)
    (hq : ∀ h' tk dx t1, InitEnd s.heap h' x C dx t1 v → R (.ok (.ret .none)) { s with heap := h', toks := tk }) :
    codeAny (model prog w) A (.call (.ref fI) ⟨[.ref x, v], []⟩) R s := by
  obtain ⟨oc, od, doc, pm, an, cda, ct, osl, cc, qual, tx, k, a1, a2, p1, p2, p3, p4, p5, p6, q1, q2, q3, q4, ccl, cdd, vs, ccs, file, tf, cl, cld, csl, ho, hcd, hcode, hvs, hfile, hcell, hline⟩ := T.fn
  obtain ⟨B, N, n2, q, bs, sub, sn, ab, col, dd, k0, k1, k2, k3, k5, hC, hBi, hBc⟩ := T.cls
  obtain ⟨mb, hmb, hmb2⟩ := hM.blt
  have X : K.In s.heap := hM.kin.keeps bk
  have hcl : clsIn K C = some { name := n2, bases := bs, mro := .ref C :: .ref B :: ESX.exTail, ns := N, qualname := q, hasDict := true, slotNames := sn, subclasses := sub, abstract := ab, collection := col, hasDel := false } := by unfold clsIn; rw [hC] <;> rfl
  refine ks_codeAny_call_defAt (fd := ksFn "__init__" qual (iA a1 a2) (iB tx k p1 p2 p3 p4 p5 p6 q1 q2 q3 q4) iS .none .none doc pm an (.ref cda) ct cc) (body := iB tx k p1 p2 p3 p4 p5 p6 q1 q2 q3 q4) (binds := [("self", .ref x), ("word", v)]) (by omega) (X _ _ ho) rfl hlim (codeRec_of X hcd) rfl
    (BindsTo.of_eq (by first | rfl | with_unfolding_all rfl)) (show ∀ y ∈ iS.names, y.2 ≠ .cell by decide) (fun y hy => ?_) (fun h₀ hns k₀ => ?_) rfl rfl rfl
  · rcases List.mem_cons.mp hy with rfl | hy
    · rfl
    · rcases List.mem_cons.mp hy with rfl | hy
      · rfl
      · cases hy
  have X₀ : K.In h₀ := X.keeps k₀
  have hx₀ := k₀ _ _ hx
  have bk₀ : ∀ b o, base.get? b = some o → h₀.get? b = some o := fun b o e => k₀ _ _ (bk b o e)
  obtain ⟨hp, g, d, t, os⟩ := s
  -- super().__init__(text)
  refine ks_wpAt_execs_cons (ks_wpAt_Expr_any (at_meth hline ?_))
  refine ks_wpAt_super_base (f := fI) (cc := cda) rfl rfl (by decide) rfl (X₀ _ _ ho) rfl rfl rfl (X₀ _ _ hcode) rfl hvs hfile T.htop ?_
  refine ks_loadName_global rfl rfl (loadGlobal_builtin (mg := mg) (mb := mb) (hM.glob.keeps bk₀) T.sup (hmb.keeps bk₀) ((hmb2 _ (by decide)).trans (by decide +kernel : bootBuiltins "super" = some (.type "super"))) ⟨rfl, ?_⟩)
  refine wpAny_loadName_free (c := cc) rfl rfl rfl ⟨_, X₀ _ _ hcell, rfl⟩ ?_
  refine wpAny_loadName_local (v := .ref x) rfl rfl hns rfl ?_
  refine ks_wpAny_isType_cls (X₀ _ _ hC) rfl ⟨rfl, ?_⟩
  have I0 : InstAt h₀ x (excO C t0) C none := ⟨hx₀, rfl, rfl, trivial⟩
  have hxC : x ≠ C := ks_ne X₀ I0 hcl
  refine ks_wpAny_call_super (X₀ _ _ hC) rfl hx₀ rfl (fun c e => by cases e) (looks_mroIn X₀ (mro_has2 hcl rfl (by simp))) (fun h₁ e₁ k₁ => ?_)
  have X₁ := X₀.keeps k₁
  have hx₁ := k₁ _ _ hx₀
  have I1 : InstAt h₁ x (excO C t0) C none := ⟨hx₁, rfl, rfl, trivial⟩
  intro pl
  -- its __init__
  refine ESX.getMethod_super (l₀ := .ref C :: .ref B :: ESX.exTail) (l := .ref B :: ESX.exTail) (K := K) e₁ (looks_opaque X₁ T.opq) ((looks_clsIn X₁ hcl).andThen .now) (ESX.drop_own C _) X₁ ?along hxC (by decide) (I1.type.andThen (looks_mroIn X₁ (mro_has2 hcl rfl (tail_mem "Exception" (by decide +kernel))))) ?_
  · exact alongB hBi hBc
  have X₂ : K.In (h₁.push (ESX.bw x)) := X₁.keeps fun b o e => Heap.get?_push_of_some _ e
  show wpAny _ _ (callWith p5 (.ref h₁.objs.size) [] (backTo p5 (starEach [.Constant (.str tx) k p4] _)) []) _ _ _
  refine ESX.callWith_bound (x := x) (Calls.spliced_cons (wpAny_Constant_str (k := k) (pos := p4) (Calls.spliced_nil ⟨Heap.get?_push_at rfl rfl, ?_⟩))) rfl rfl
  refine ESX.call_bw (X₂ _ _ hC) (Heap.get?_push_of_some _ hx₁) (Heap.get?_push_at rfl rfl) (one_size _) fun h₂ t1 k₂ hx₂ => ?_
  have k0x : ∀ b o, b ≠ x → h₀.get? b = some o → h₂.get? b = some o := fun b o hb e => k₂ b o hb (Heap.get?_push_of_some _ (k₁ _ _ e))
  have X3 : K.In h₂ := kept_but X₀ hnx k0x
  have hxL : hp.objs.size ≠ x := Nat.ne_of_gt (Heap.lt_size hx)
  have hns₂ : h₂.Ns hp.objs.size (fun y => [(("self" : Str), Value.ref x), (("word" : Str), v)].reverse.lookup y) := by
    obtain ⟨oL, es, ep, hL, r⟩ := hns
    exact ⟨oL, es, ep, k0x _ _ hxL hL, r⟩
  have z : hp.objs.size < h₀.objs.size := hns.lt
  -- self.f = f
  refine ks_wpAt_execs_cons (_root_.PySem.wpAt_of_wpAny (plainObj_wpAny_Assign_Attribute ?_))
  refine ESX.ldL (v := v) hns₂ (by first | rfl | with_unfolding_all rfl | kernel_rfl) (ESX.ldL (v := .ref x) hns₂ (by first | rfl | with_unfolding_all rfl | kernel_rfl) ?_)
  refine set_plain X3 (ox := excO C t1) (od := none) ⟨hx₂, rfl, rfl, trivial⟩ T.sa ?_
  refine osa_new2 X3 hx₂ hcl rfl rfl T.noN (fun h₃ tk₃ dx k₃ dn dne hx₃ hn₃ => ?_)
  show _root_.PySem.wpAt _ _ _ (execs [] _) _ _ _
  refine _root_.PySem.wpAt_of_wpAny (wpAny_execs_nil (hq h₃ tk₃ dx t1 ⟨fun b o hb e => k₃ b o hb (k0x b o hb (k₀ b o e)), hx₃, ?_, dne, hn₃⟩))
  exact Nat.le_of_lt (Nat.lt_of_lt_of_le hns₂.lt dn)
theorem made (T : Txt prog K mg nm C fI) (hM : L2.Mod K mg base) (bk : ∀ b o, base.get? b = some o → s.heap.get? b = some o) {v : Value} (hlim : s.heap.NoLimit) (hroom : A.depth + 3 < recursionLimit)
    (hq : ∀ h' tk e d, OwnMade s.heap h' e C d v → R (.ok (.ret (.ref e))) { s with heap := h', toks := tk }) :
    codeAny (model prog w) A (.call (.ref C) ⟨[v], []⟩) R s := by
  obtain ⟨B, N, n2, q, bs, sub, sn, ab, col, dd, k0, k1, k2, k3, k5, hC, hBi, hBc⟩ := T.cls
  obtain ⟨hp, g, dr, tk, os⟩ := s
  have X : K.In hp := hM.kin.keeps bk
  have k : ∀ b o, hp.get? b = some o → ((hp.push (kdv_tup [v])).push (excO C hp.objs.size)).get? b = some o := fun b o e => Heap.get?_push_of_some _ (Heap.get?_push_of_some _ e)
  have hget : ((hp.push (kdv_tup [v])).push (excO C hp.objs.size)).get? (hp.objs.size + 1) = some (excO C hp.objs.size) := by heap_get
  have hnx : K.lookup (hp.objs.size + 1) = none := by
    cases e : K.lookup (hp.objs.size + 1) with
    | none => rfl
    | some o =>
      have z : hp.get? (hp.objs.size + 1) = some o := X _ _ e
      exact absurd (Nat.lt_of_succ_lt (Heap.lt_size z)) (Nat.lt_irrefl _)
  refine call_own F.excBase_Exception (fun Y => tail_typ B Y) (X _ _ hC) (looks_findIn X T.iC) (fun self => bind_fn X self T.tC) (one_size v) ?_
  refine init_ok (s := ⟨(hp.push (kdv_tup [v])).push (excO C hp.objs.size), g, dr, tk, os⟩) T hM (fun b o e => k b o (bk b o e)) (hlim.keeps k) hget hnx ?_ fun h' tk' dx t1 ⟨k', hx, dn, dne, hns⟩ => ?_
  · show A.depth + 1 + 2 < recursionLimit
    omega
  · have old : ∀ b o, hp.get? b = some o → h'.get? b = some o := fun b o e => k' b o (Nat.ne_of_lt (Nat.lt_succ_of_lt (Heap.lt_size e))) (k b o e)
    have z : hp.objs.size + 1 + 1 ≤ dx := by
      first
        | (simpa only [Heap.size_push] using dn)
        | exact dn
        | (have q := dn; rw [Heap.size_push, Heap.size_push] at q; exact q)
    exact ⟨rfl, hq h' tk' (hp.objs.size + 1) dx ⟨old, Nat.le_succ _, ⟨_, _, hx, rfl, rfl, rfl, rfl⟩, Nat.le_trans (Nat.le_trans (Nat.le_succ _) (Nat.le_succ _)) z, dne, hns⟩⟩
end
section
open L2
theorem relO_f {v : V} {v' : Value} (r : RelV v v') (f : Str) : RelO (List.lookup f [(("word" : Str), v)]) (if f = "word" then some v' else none) := by
  by_cases hw : f = "word"
  · subst hw
    rw [if_pos rfl]
    have q : List.lookup ("word" : Str) [(("word" : Str), v)] = some v := by simp [List.lookup]
    rw [q]
    exact r
  · rw [if_neg hw]
    have qw : (f == ("word" : Str)) = false := by simpa using hw
    have q2 : List.lookup f [(("word" : Str), v)] = none := by simp [List.lookup, qw]
    rw [q2]
    trivial
variable {X : Cx} {C fI : Addr}
theorem pmk {nm : Str} {a : Expr} {te : TE} {p pos : Pos} {k : Nat} (T : Txt X.prog X.K X.mg nm C fI) (hr : Room k X.A) (ha : PE X a te) (hg : Gl X nm := by rfl) (hdb : (nm == ("__debug__" : Str)) = false := by decide)
    (he : starEach (a :: []) X.env = (false, eval a X.env) :: starEach [] X.env := by rfl) (hpl : (backTo pos (starEach [] X.env)).any (·.1) = false := by rfl) :
    PMk X (.Call (.Name nm p) [a] [] pos) (tMkE C "word" te) := by
  intro pins s σ H Q I h
  refine wpAny_Call_Name_kw (ld_glob I hg T.gC ?_ hdb)
  refine PySem.W.callWith_K (h₀ := X.base) I.ok.mod.kin T.kC (thn ((pa_cons ha pa_nil he).run pos pins s σ H (fun vs H1 => match vs with | [v] => ∀ d, H1 d = none → Q (.ref C) (some d) (upd H1 d (.xd [(("word" : Str), v)])) | _ => False) I h) fun us s1 hh => ?_) he hpl
  obtain ⟨vs, H1, I1, r1, q1⟩ := hh
  obtain ⟨v, ev⟩ : ∃ v, vs = [v] := by
    cases vs with
    | nil => exact q1.elim
    | cons v vs =>
      cases vs with
      | nil => exact ⟨v, rfl⟩
      | cons _ _ => exact q1.elim
  subst ev
  refine ⟨I1.kIn, ?_⟩
  cases r1 with
  | cons rv rn =>
    rename_i v' us'
    cases rn
    show wpAny _ _ (call (.ref C) [v']) _ _ _
    have hlim := I1.nolimit
    have hbk := I1.bk
    obtain ⟨hp, g, dr, tk, os⟩ := s1
    refine wpAny_call (made T I1.ok.mod hbk hlim (by have := hr.dp; omega) fun h' tk' e d M => ?_)
    show MkP X pins σ Q (.ref e) ⟨h', g, dr, tk', os⟩
    obtain ⟨oe, fv, hoe, hc, hd, hdat, h1⟩ := M.obj
    have hns := M.ns
    obtain ⟨G', g1, g2⟩ := restrict h' fun b => decide (b ≠ e)
    have gk : ∀ b, b ≠ e → G'.get? b = h'.get? b := fun b hb => g1 b (decide_eq_true hb)
    have ge : G'.get? e = none := g2 e (by simp)
    have old : ∀ b o, hp.get? b = some o → G'.get? b = some o := fun b o q => (gk b (Nat.ne_of_lt (Nat.lt_of_lt_of_le (Heap.lt_size q) M.new))).trans (M.keep b o q)
    have ob : ObjOk X.prog X.w (upd H1 d (.xd [(("word" : Str), v)])) G' d (.xd [(("word" : Str), v)]) :=
      ⟨_, hns.at (fun o q => (gk d M.dne).trans q), fun f => relO_f rv f⟩
    have J : Inv X pins σ (upd H1 d (.xd [(("word" : Str), v)])) ⟨G', g, dr, tk', os⟩ := I1.laid (t' := tk') old M.dbig ob
    refine ⟨e, oe, fv, ⟨G', g, dr, tk', os⟩, _, .ref C, some d, rfl, J, fun b o q => ?_, ge, hoe, ⟨hc, hd⟩, hdat, h1, ?_, rfl, I1.bare, raises_own T.exC T.tyC, q1 d (I1.hok.fresh M.dbig)⟩
    · by_cases hb : b = e
      · have q' : G'.get? b = some o := q
        rw [hb, ge] at q'; cases q'
      · exact (gk b hb).symm.trans q
    · rw [upd_ne (Ne.symm M.dne)]
      exact I1.hok.fresh M.new
end
end E_word

/-! ### the attribute name -/
namespace E_name
def iA (p1 p2 : Pos) : Arguments := { posonlyargs := [], args := [{ arg := "self", annotation := none, pos := p1 }, { arg := "name", annotation := none, pos := p2 }], vararg := none, kwonlyargs := [], kw_defaults := [], kwarg := none, defaults := [] }
def iB (tx : Str) (k : Nat) (p1 p2 p3 p4 p5 p6 q1 q2 q3 q4 : Pos) : List Stmt := [.Expr (.Call (.Attribute (.Call (.Name "super" p1) [] [] p2) "__init__" p3) [.Constant (.str tx) k p4] [] p5) p6, .Assign [.Attribute (.Name "self" q1) "name" q2] (.Name "name" q3) q4]
def iS : Scope := { kind := .function, names := [(PySem.Str.ofString "self", .local), (PySem.Str.ofString "name", .local), (PySem.Str.ofString "__class__", .free), (PySem.Str.ofString "super", .globalImplicit)], isGenerator := false, isCoroutine := false, more := [] }
/-- what the written part says of the class at C -/
structure Txt (prog : Program) (K : Frag) (mg : Str → Option Value) (nm : Str) (C fI : Addr) : Prop extends ErrC prog K mg nm "name" C fI where
  fn : ∃ (oc : Value) (od : Option Addr) (doc pm : Value) (an : Option Addr) (cda : Addr) (ct : Value) (osl : Array (Option Value)) (cc : Addr) (qual tx : Str) (k : Nat) (a1 a2 p1 p2 p3 p4 p5 p6 q1 q2 q3 q4 : Pos) (ccl : Value) (cdd : Option Addr) (vs : Array Value) (ccs : Array (Option Value)) (file : Str) (tf : Tok) (cl : Value) (cld : Option Addr) (csl : Array (Option Value)),
    K.lookup fI = some ⟨oc, od, .func (ksFn "__init__" qual (iA a1 a2) (iB tx k p1 p2 p3 p4 p5 p6 q1 q2 q3 q4) iS .none .none doc pm an (.ref cda) ct cc), osl⟩ ∧ codeIn K (.ref cda) qual = true ∧
    K.lookup cda = some ⟨ccl, cdd, .fields vs, ccs⟩ ∧ vs[2]? = some (.str file tf) ∧ ((prog.main.file : Str) == file) = true ∧ K.lookup cc = some ⟨cl, cld, .cell (some (.ref C)), csl⟩ ∧ (p3.endLine == p5.line) = true
/-- what __init__ leaves of a fresh exception at x -/
structure InitEnd (h h' : Heap) (x C dx t1 : Addr) (v : Value) : Prop where
  keep : ∀ b o, b ≠ x → h.get? b = some o → h'.get? b = some o
  obj : h'.get? x = some { cls := .ref C, dict := some dx, data := .fields #[.ref t1, .none, .none, .none, .bool false, .none] }
  dbig : h.objs.size ≤ dx
  dne : dx ≠ x
  ns : h'.Ns1 dx (fun y => if y = "name" then some v else none)
/-- a made error -/
structure OwnMade (h h' : Heap) (e C d : Addr) (v : Value) : Prop where
  keep : ∀ b o, h.get? b = some o → h'.get? b = some o
  new : h.objs.size ≤ e
  obj : ∃ oe vs, h'.get? e = some oe ∧ oe.cls = .ref C ∧ oe.dict = some d ∧ oe.data = .fields vs ∧ vs[1]? = some .none
  dbig : h.objs.size ≤ d
  dne : d ≠ e
  ns : h'.Ns1 d (fun y => if y = "name" then some v else none)
section
variable {prog : Program} {w : World} {A : Around} {E : Value → Shared → Prop} {R : Result → Shared → Prop} {s : Shared} {K : Frag} {mg : Str → Option Value} {nm : Str} {C fI : Addr} {base : Heap}
theorem init_ok (T : Txt prog K mg nm C fI) (hM : L2.Mod K mg base) (bk : ∀ b o, base.get? b = some o → s.heap.get? b = some o) {x t0 : Addr} {v : Value} (hlim : s.heap.NoLimit) (hx : s.heap.get? x = some (excO C t0)) (hnx : K.lookup x = none) (hroom : A.depth + 2 < recursionLimit)
    (hq : ∀ h' tk dx t1, InitEnd s.heap h' x C dx t1 v → R (.ok (.ret .none)) { s with heap := h', toks := tk }) :
    codeAny (model prog w) A (.call (.ref fI) ⟨[.ref x, v], []⟩) R s := by
  obtain ⟨oc, od, doc, pm, an, cda, ct, osl, cc, qual, tx, k, a1, a2, p1, p2, p3, p4, p5, p6, q1, q2, q3, q4, ccl, cdd, vs, ccs, file, tf, cl, cld, csl, ho, hcd, hcode, hvs, hfile, hcell, hline⟩ := T.fn
  obtain ⟨B, N, n2, q, bs, sub, sn, ab, col, dd, k0, k1, k2, k3, k5, hC, hBi, hBc⟩ := T.cls
  obtain ⟨mb, hmb, hmb2⟩ := hM.blt
  have X : K.In s.heap := hM.kin.keeps bk
  have hcl : clsIn K C = some { name := n2, bases := bs, mro := .ref C :: .ref B :: ESX.exTail, ns := N, qualname := q, hasDict := true, slotNames := sn, subclasses := sub, abstract := ab, collection := col, hasDel := false } := by unfold clsIn; rw [hC] <;> rfl
  refine ks_codeAny_call_defAt (fd := ksFn "__init__" qual (iA a1 a2) (iB tx k p1 p2 p3 p4 p5 p6 q1 q2 q3 q4) iS .none .none doc pm an (.ref cda) ct cc) (body := iB tx k p1 p2 p3 p4 p5 p6 q1 q2 q3 q4) (binds := [("self", .ref x), ("name", v)]) (by omega) (X _ _ ho) rfl hlim (codeRec_of X hcd) rfl
    (BindsTo.of_eq (by first | rfl | with_unfolding_all rfl)) (show ∀ y ∈ iS.names, y.2 ≠ .cell by decide) (fun y hy => ?_) (fun h₀ hns k₀ => ?_) rfl rfl rfl
  · rcases List.mem_cons.mp hy with rfl | hy
    · rfl
    · rcases List.mem_cons.mp hy with rfl | hy
      · rfl
      · cases hy
  have X₀ : K.In h₀ := X.keeps k₀
  have hx₀ := k₀ _ _ hx
  have bk₀ : ∀ b o, base.get? b = some o → h₀.get? b = some o := fun b o e => k₀ _ _ (bk b o e)
  obtain ⟨hp, g, d, t, os⟩ := s
  -- super().__init__(text)
  refine ks_wpAt_execs_cons (ks_wpAt_Expr_any (at_meth hline ?_))
  refine ks_wpAt_super_base (f := fI) (cc := cda) rfl rfl (by decide) rfl (X₀ _ _ ho) rfl rfl rfl (X₀ _ _ hcode) rfl hvs hfile T.htop ?_
  refine ks_loadName_global rfl rfl (loadGlobal_builtin (mg := mg) (mb := mb) (hM.glob.keeps bk₀) T.sup (hmb.keeps bk₀) ((hmb2 _ (by decide)).trans (by decide +kernel : bootBuiltins "super" = some (.type "super"))) ⟨rfl, ?_⟩)
  refine wpAny_loadName_free (c := cc) rfl rfl rfl ⟨_, X₀ _ _ hcell, rfl⟩ ?_
  refine wpAny_loadName_local (v := .ref x) rfl rfl hns rfl ?_
  refine ks_wpAny_isType_cls (X₀ _ _ hC) rfl ⟨rfl, ?_⟩
  have I0 : InstAt h₀ x (excO C t0) C none := ⟨hx₀, rfl, rfl, trivial⟩
  have hxC : x ≠ C := ks_ne X₀ I0 hcl
  refine ks_wpAny_call_super (X₀ _ _ hC) rfl hx₀ rfl (fun c e => by cases e) (looks_mroIn X₀ (mro_has2 hcl rfl (by simp))) (fun h₁ e₁ k₁ => ?_)
  have X₁ := X₀.keeps k₁
  have hx₁ := k₁ _ _ hx₀
  have I1 : InstAt h₁ x (excO C t0) C none := ⟨hx₁, rfl, rfl, trivial⟩
  intro pl
  -- its __init__
  refine ESX.getMethod_super (l₀ := .ref C :: .ref B :: ESX.exTail) (l := .ref B :: ESX.exTail) (K := K) e₁ (looks_opaque X₁ T.opq) ((looks_clsIn X₁ hcl).andThen .now) (ESX.drop_own C _) X₁ ?along hxC (by decide) (I1.type.andThen (looks_mroIn X₁ (mro_has2 hcl rfl (tail_mem "Exception" (by decide +kernel))))) ?_
  · exact alongB hBi hBc
  have X₂ : K.In (h₁.push (ESX.bw x)) := X₁.keeps fun b o e => Heap.get?_push_of_some _ e
  show wpAny _ _ (callWith p5 (.ref h₁.objs.size) [] (backTo p5 (starEach [.Constant (.str tx) k p4] _)) []) _ _ _
  refine ESX.callWith_bound (x := x) (Calls.spliced_cons (wpAny_Constant_str (k := k) (pos := p4) (Calls.spliced_nil ⟨Heap.get?_push_at rfl rfl, ?_⟩))) rfl rfl
  refine ESX.call_bw (X₂ _ _ hC) (Heap.get?_push_of_some _ hx₁) (Heap.get?_push_at rfl rfl) (one_size _) fun h₂ t1 k₂ hx₂ => ?_
  have k0x : ∀ b o, b ≠ x → h₀.get? b = some o → h₂.get? b = some o := fun b o hb e => k₂ b o hb (Heap.get?_push_of_some _ (k₁ _ _ e))
  have X3 : K.In h₂ := kept_but X₀ hnx k0x
  have hxL : hp.objs.size ≠ x := Nat.ne_of_gt (Heap.lt_size hx)
  have hns₂ : h₂.Ns hp.objs.size (fun y => [(("self" : Str), Value.ref x), (("name" : Str), v)].reverse.lookup y) := by
    obtain ⟨oL, es, ep, hL, r⟩ := hns
    exact ⟨oL, es, ep, k0x _ _ hxL hL, r⟩
  have z : hp.objs.size < h₀.objs.size := hns.lt
  -- self.f = f
  refine ks_wpAt_execs_cons (_root_.PySem.wpAt_of_wpAny (plainObj_wpAny_Assign_Attribute ?_))
  refine ESX.ldL (v := v) hns₂ (by first | rfl | with_unfolding_all rfl | kernel_rfl) (ESX.ldL (v := .ref x) hns₂ (by first | rfl | with_unfolding_all rfl | kernel_rfl) ?_)
  refine set_plain X3 (ox := excO C t1) (od := none) ⟨hx₂, rfl, rfl, trivial⟩ T.sa ?_
  refine osa_new2 X3 hx₂ hcl rfl rfl T.noN (fun h₃ tk₃ dx k₃ dn dne hx₃ hn₃ => ?_)
  show _root_.PySem.wpAt _ _ _ (execs [] _) _ _ _
  refine _root_.PySem.wpAt_of_wpAny (wpAny_execs_nil (hq h₃ tk₃ dx t1 ⟨fun b o hb e => k₃ b o hb (k0x b o hb (k₀ b o e)), hx₃, ?_, dne, hn₃⟩))
  exact Nat.le_of_lt (Nat.lt_of_lt_of_le hns₂.lt dn)
theorem made (T : Txt prog K mg nm C fI) (hM : L2.Mod K mg base) (bk : ∀ b o, base.get? b = some o → s.heap.get? b = some o) {v : Value} (hlim : s.heap.NoLimit) (hroom : A.depth + 3 < recursionLimit)
    (hq : ∀ h' tk e d, OwnMade s.heap h' e C d v → R (.ok (.ret (.ref e))) { s with heap := h', toks := tk }) :
    codeAny (model prog w) A (.call (.ref C) ⟨[v], []⟩) R s := by
  obtain ⟨B, N, n2, q, bs, sub, sn, ab, col, dd, k0, k1, k2, k3, k5, hC, hBi, hBc⟩ := T.cls
  obtain ⟨hp, g, dr, tk, os⟩ := s
  have X : K.In hp := hM.kin.keeps bk
  have k : ∀ b o, hp.get? b = some o → ((hp.push (kdv_tup [v])).push (excO C hp.objs.size)).get? b = some o := fun b o e => Heap.get?_push_of_some _ (Heap.get?_push_of_some _ e)
  have hget : ((hp.push (kdv_tup [v])).push (excO C hp.objs.size)).get? (hp.objs.size + 1) = some (excO C hp.objs.size) := by heap_get
  have hnx : K.lookup (hp.objs.size + 1) = none := by
    cases e : K.lookup (hp.objs.size + 1) with
    | none => rfl
    | some o =>
      have z : hp.get? (hp.objs.size + 1) = some o := X _ _ e
      exact absurd (Nat.lt_of_succ_lt (Heap.lt_size z)) (Nat.lt_irrefl _)
  refine call_own F.excBase_Exception (fun Y => tail_typ B Y) (X _ _ hC) (looks_findIn X T.iC) (fun self => bind_fn X self T.tC) (one_size v) ?_
  refine init_ok (s := ⟨(hp.push (kdv_tup [v])).push (excO C hp.objs.size), g, dr, tk, os⟩) T hM (fun b o e => k b o (bk b o e)) (hlim.keeps k) hget hnx ?_ fun h' tk' dx t1 ⟨k', hx, dn, dne, hns⟩ => ?_
  · show A.depth + 1 + 2 < recursionLimit
    omega
  · have old : ∀ b o, hp.get? b = some o → h'.get? b = some o := fun b o e => k' b o (Nat.ne_of_lt (Nat.lt_succ_of_lt (Heap.lt_size e))) (k b o e)
    have z : hp.objs.size + 1 + 1 ≤ dx := by
      first
        | (simpa only [Heap.size_push] using dn)
        | exact dn
        | (have q := dn; rw [Heap.size_push, Heap.size_push] at q; exact q)
    exact ⟨rfl, hq h' tk' (hp.objs.size + 1) dx ⟨old, Nat.le_succ _, ⟨_, _, hx, rfl, rfl, rfl, rfl⟩, Nat.le_trans (Nat.le_trans (Nat.le_succ _) (Nat.le_succ _)) z, dne, hns⟩⟩
end
section
open L2
theorem relO_f {v : V} {v' : Value} (r : RelV v v') (f : Str) : RelO (List.lookup f [(("name" : Str), v)]) (if f = "name" then some v' else none) := by
  by_cases hw : f = "name"
  · subst hw
    rw [if_pos rfl]
    have q : List.lookup ("name" : Str) [(("name" : Str), v)] = some v := by simp [List.lookup]
    rw [q]
    exact r
  · rw [if_neg hw]
    have qw : (f == ("name" : Str)) = false := by simpa using hw
    have q2 : List.lookup f [(("name" : Str), v)] = none := by simp [List.lookup, qw]
    rw [q2]
    trivial
variable {X : Cx} {C fI : Addr}
theorem pmk {nm : Str} {a : Expr} {te : TE} {p pos : Pos} {k : Nat} (T : Txt X.prog X.K X.mg nm C fI) (hr : Room k X.A) (ha : PE X a te) (hg : Gl X nm := by rfl) (hdb : (nm == ("__debug__" : Str)) = false := by decide)
    (he : starEach (a :: []) X.env = (false, eval a X.env) :: starEach [] X.env := by rfl) (hpl : (backTo pos (starEach [] X.env)).any (·.1) = false := by rfl) :
    PMk X (.Call (.Name nm p) [a] [] pos) (tMkE C "name" te) := by
  intro pins s σ H Q I h
  refine wpAny_Call_Name_kw (ld_glob I hg T.gC ?_ hdb)
  refine PySem.W.callWith_K (h₀ := X.base) I.ok.mod.kin T.kC (thn ((pa_cons ha pa_nil he).run pos pins s σ H (fun vs H1 => match vs with | [v] => ∀ d, H1 d = none → Q (.ref C) (some d) (upd H1 d (.xd [(("name" : Str), v)])) | _ => False) I h) fun us s1 hh => ?_) he hpl
  obtain ⟨vs, H1, I1, r1, q1⟩ := hh
  obtain ⟨v, ev⟩ : ∃ v, vs = [v] := by
    cases vs with
    | nil => exact q1.elim
    | cons v vs =>
      cases vs with
      | nil => exact ⟨v, rfl⟩
      | cons _ _ => exact q1.elim
  subst ev
  refine ⟨I1.kIn, ?_⟩
  cases r1 with
  | cons rv rn =>
    rename_i v' us'
    cases rn
    show wpAny _ _ (call (.ref C) [v']) _ _ _
    have hlim := I1.nolimit
    have hbk := I1.bk
    obtain ⟨hp, g, dr, tk, os⟩ := s1
    refine wpAny_call (made T I1.ok.mod hbk hlim (by have := hr.dp; omega) fun h' tk' e d M => ?_)
    show MkP X pins σ Q (.ref e) ⟨h', g, dr, tk', os⟩
    obtain ⟨oe, fv, hoe, hc, hd, hdat, h1⟩ := M.obj
    have hns := M.ns
    obtain ⟨G', g1, g2⟩ := restrict h' fun b => decide (b ≠ e)
    have gk : ∀ b, b ≠ e → G'.get? b = h'.get? b := fun b hb => g1 b (decide_eq_true hb)
    have ge : G'.get? e = none := g2 e (by simp)
    have old : ∀ b o, hp.get? b = some o → G'.get? b = some o := fun b o q => (gk b (Nat.ne_of_lt (Nat.lt_of_lt_of_le (Heap.lt_size q) M.new))).trans (M.keep b o q)
    have ob : ObjOk X.prog X.w (upd H1 d (.xd [(("name" : Str), v)])) G' d (.xd [(("name" : Str), v)]) :=
      ⟨_, hns.at (fun o q => (gk d M.dne).trans q), fun f => relO_f rv f⟩
    have J : Inv X pins σ (upd H1 d (.xd [(("name" : Str), v)])) ⟨G', g, dr, tk', os⟩ := I1.laid (t' := tk') old M.dbig ob
    refine ⟨e, oe, fv, ⟨G', g, dr, tk', os⟩, _, .ref C, some d, rfl, J, fun b o q => ?_, ge, hoe, ⟨hc, hd⟩, hdat, h1, ?_, rfl, I1.bare, raises_own T.exC T.tyC, q1 d (I1.hok.fresh M.dbig)⟩
    · by_cases hb : b = e
      · have q' : G'.get? b = some o := q
        rw [hb, ge] at q'; cases q'
      · exact (gk b hb).symm.trans q
    · rw [upd_ne (Ne.symm M.dne)]
      exact I1.hok.fresh M.new
end
end E_name

/-! ### n.f of the error that a suite holds -/
section
open L2
variable {S : Stat} {W : WX} {X : Cx}
theorem zc_cls {cls : Value} {d d' : Option Addr} {oe : Obj} (h : Zc cls d oe) (k : Zc cls d' oe) : d = d' := h.2.symm.trans k.2
/-- the attribute f of class number c -/
def mAt (c : Nat) (fa : EM D) : EM D := fun env st => (fa env st).bind fun a st1 => match a with
  | .exn c' x => if c' = c then .ok x st1 else .bad
  | _ => .bad
theorem e_at {a dx C : Addr} (c : Nat) {oe : Obj} {cls : Value} {pn : List (Addr × Obj)} {e : Expr} {fa : EM D} {pos : Pos} {f : Str} (T : XfC X.K C) (hno : PySem.W.findIn X.K (.ref C) f = some none) (hC : S.CA c = C) (hE : S.EN c = f)
    (hz : Zc cls (some dx) oe) (hf : ∃ vs, oe.data = .fields vs) (he : PE (X.suite a ((a, oe) :: pn)) e (rdE (withX S a dx cls) W fa)) (hb : attributeBase e f X.env (eval e X.env) = eval e X.env := by rfl) :
    PE (X.suite a ((a, oe) :: pn)) (.Attribute e f pos) (rdE (withX S a dx cls) W (mAt c fa)) := PE.weak (pe_xf T hno hz hf he hb) fun σ H Q h => by
  obtain ⟨r, env, st, o, eo, h⟩ := h
  refine ⟨r, env, st, o, eo, End.bind h fun d st1 r1 H1 v l1 o1 rx h1 => ?_⟩
  cases d with
  | exn c' x =>
    simp only at h1
    by_cases hc : c' = c
    · rw [if_pos hc] at h1
      subst hc
      unfold Rep at rx
      obtain ⟨a', dx', w, e1, e2, e3, e4⟩ := rx
      have e1' : some (a, dx, cls) = some (a', dx', Value.ref (S.CA c')) := e1
      injection e1' with e1'
      injection e1' with g1 e1'
      injection e1' with g2 g3
      subst g1 g2 g3
      refine ⟨e2, by rw [← hC], dx, [(f, w)], w, rfl, ?_, by simp [List.lookup], h1 r1 H1 w o1.refl o1 e4⟩
      rw [e3]
      exact congrArg (fun z => some (HO.xd [(z, w)])) hE
    · rw [if_neg hc] at h1; exact h1.elim
  | _ => exact h1.elim
end
end Cw

/-! Constants of the module, unary minus, calls by keywords, constructors, stores into fields. -/
namespace Cw
open PySem L2 PyProof.Rows

section
variable {S : Stat} {W : WX} {X : Cx}
/-! ### constants of the module -/
theorem e_gint {x : Str} {i : Int} {pos : Pos} (hm : ∃ t, X.mg x = some (.int i t)) (hg : Gl X x := by rfl) (hd : (x == ("__debug__" : Str)) = false := by decide) : PE X (.Name x pos) (rdE S W (mC (.int i))) := by
  obtain ⟨t, hm⟩ := hm
  exact PE.weak (pe_glob (v := .int i) hg hm ⟨t, rfl⟩ hd) (md_c fun _ _ _ => by simp [Rep])
theorem e_gstr {x : Str} {z : Str} {pos : Pos} (hm : ∃ t, X.mg x = some (.str z t)) (hg : Gl X x := by rfl) (hd : (x == ("__debug__" : Str)) = false := by decide) : PE X (.Name x pos) (rdE S W (mC (.str z))) := by
  obtain ⟨t, hm⟩ := hm
  exact PE.weak (pe_glob (v := .str z) hg hm ⟨t, rfl⟩ hd) (md_c fun _ _ _ => by simp [Rep])
/-- atoms that are written out -/
def AtomV : List D → List Value → Prop
  | [], us => us = []
  | d :: ds, us => ∃ u w, us = u :: w ∧ (match d with
    | .int i => ∃ t, u = .int i t
    | .str z => ∃ t, u = .str z t
    | .bl b => u = .bool b
    | .non => u = .none
    | _ => False) ∧ AtomV ds w
def atomV : D → V
  | .int i => .int i
  | .str z => .str z
  | .bl b => .bl b
  | _ => .non
theorem atoms_ok {r : Rho} {n : Nat} {H : Hp} : ∀ {ds : List D} {us : List Value}, AtomV ds us → Vals (ds.map atomV) us ∧ RepL S r n H ds (ds.map atomV)
  | [], us, h => by
    unfold AtomV at h
    subst h
    exact ⟨.nil, RepL.nil⟩
  | d :: ds, us, h => by
    unfold AtomV at h
    obtain ⟨u, w, rfl, h1, h2⟩ := h
    obtain ⟨g1, g2⟩ := atoms_ok (r := r) (n := n) (H := H) h2
    cases d with
    | int i => obtain ⟨t, rfl⟩ := h1; exact ⟨.cons ⟨t, rfl⟩ g1, RepL.cons rep_int g2⟩
    | str i => obtain ⟨t, rfl⟩ := h1; exact ⟨.cons ⟨t, rfl⟩ g1, RepL.cons rep_str g2⟩
    | bl b => simp only at h1; subst h1; exact ⟨.cons rfl g1, RepL.cons rep_bl g2⟩
    | non => simp only at h1; subst h1; exact ⟨.cons rfl g1, RepL.cons rep_non g2⟩
    | _ => exact h1.elim
/-- a tuple of atoms, written out -/
def GTup (K : PySem.W.Frag) (mg : Str → Option Value) (x : Str) (ds : List D) : Prop := ∃ (a : Addr) (dd : Option Addr) (its : Array Value) (n : Nat) (sl : Array (Option Value)), mg x = some (.ref a) ∧ K.lookup a = some ⟨.type "tuple", dd, .seq its n, sl⟩ ∧ AtomV ds its.toList
/-- x in NAME, x not in NAME: a tuple of the module -/
def rInG (S : Stat) (ds : List D) (neg : Bool) (u : Addr) : R2 := fun x y H Q => y = .ref u ∧ ∃ r st a, Ok S r st H ∧ Rep S r st.length H a x ∧ EndO S r st.length H Q (oIn neg a (.tup ds) st)
theorem or_inG {ds : List D} {u : Addr} {dd : Option Addr} {its : Array Value} {n : Nat} {sl : Array (Option Value)} (hk : X.K.lookup u = some ⟨.type "tuple", dd, .seq its n, sl⟩) (ha : AtomV ds its.toList) (hl : ds.length ≤ 1000) (hu : X.A.units + 65 < cLine) (hK : X.K = S.K) :
    OpR X (compareOp .In) (rInG S ds false u) ∧ OpR X (compareOp .NotIn) (rInG S ds true u) := by
  have go : ∀ (neg : Bool) (pins : List (Addr × Obj)) (s : Shared) (σ : L2.St) (H : Hp) (x y : V) (v w : Value) (Q : VK), Inv X pins σ H s → RelV x v → RelV y w → rInG S ds neg u x y H Q → ∃ c, Q (.bl (if neg then !c else c)) H ∧ ((Q (.bl c) H → wpAny (model X.prog X.w) X.A (compareOp .In v w) (EP X pins σ Q) X.xe s) ∧ (Q (.bl (!c)) H → wpAny (model X.prog X.w) X.A (compareOp .NotIn v w) (EP X pins σ Q) X.xe s)) := by
    intro neg pins s σ H x y v w Q I rx ry h
    obtain ⟨rfl, r, st, a, o, ra, h⟩ := h
    unfold oIn at h
    cases q : inD st a (.tup ds) with
    | none => simp only [q] at h; exact h.elim
    | some c =>
      simp only [q] at h
      refine ⟨c, end_ok o h rep_bl, ?_⟩
      have q2 : (match pyOf st a, pyOf st (.tup ds) with
        | some p, some q => match itemsPy q with
          | some l => if (SeqAt.shaped p && SeqAt.shaped q) = true then some (l.any fun y => PyData.eqv y p) else none
          | none => none
        | _, _ => none) = some c := by
        cases a <;> exact q
      obtain ⟨g1, g2⟩ := atoms_ok (S := S) (r := r) (n := st.length) (H := H) ha
      refine in_gen0 hu hK I rx ry o ra (fun p e => ?_) q2
      have e : toPy (.tup ds) = some p := e
      unfold toPy at e
      split at e
      · rename_i ps q3
        cases e
        have el := g1.length
        rw [List.length_map] at el
        refine .tup (xs := ds.map atomV) (.inr ⟨_, its, n, hk, rfl, rfl, ?_, g1⟩) ?_
        · rw [← Array.length_toList, ← el, sizeLine_eq]
          omega
        · rw [hK]
          exact dpL_of ds _ ps g2 q3
      · cases e
  constructor
  · intro pins s σ H x y v w Q I rx ry h
    obtain ⟨c, q, z⟩ := go false pins s σ H x y v w Q I rx ry h
    exact z.1 q
  · intro pins s σ H x y v w Q I rx ry h
    obtain ⟨c, q, z⟩ := go true pins s σ H x y v w Q I rx ry h
    exact z.2 q
theorem md_inG {fa : EM D} {ds : List D} {neg : Bool} {u : Addr} : ∀ σ H Q, rdE S W (mBin (oIn neg) fa (mC (.tup ds))) σ H Q → tOp (rInG S ds neg u) (rdE S W fa) (tC (.ref u)) σ H Q := fun σ H Q h => by
  obtain ⟨r, env, st, o, eo, h⟩ := h
  refine ⟨r, env, st, o, eo, End.bind h fun da st1 r1 H1 x l1 o1 rx h1 => ?_⟩
  have h2 : End S (Rep S) W σ r1 st1.length H1 Q (lift (oIn neg da (.tup ds) st1)) := h1
  exact ⟨rfl, r1, st1, da, o1, rx, h2.lift⟩
section
variable {a : Expr} {fa : EM D} {x : Str} {ds : List D} {p pos : Pos}
theorem e_inG (hm : GTup X.K X.mg x ds) (hu : X.A.units + 65 < cLine) (ha : PE X a (rdE S W fa)) (hl : ds.length ≤ 1000 := by decide) (hg : Gl X x := by rfl) (hd : (x == ("__debug__" : Str)) = false := by decide) (hK : X.K = S.K := by rfl) (hb : behindInMarks .In (.Name x p) = false := by rfl) :
    PE X (.Compare a [.In] [.Name x p] pos) (rdE S W (mBin (oIn false) fa (mC (.tup ds)))) := by
  obtain ⟨u, dd, its, n, sl, h1, h2, h3⟩ := hm
  exact PE.weak (pe_cmpR (or_inG h2 h3 hl hu hK).1 ha (pe_glob (v := .ref u) hg h1 rfl hd) hb) md_inG
theorem e_notinG (hm : GTup X.K X.mg x ds) (hu : X.A.units + 65 < cLine) (ha : PE X a (rdE S W fa)) (hl : ds.length ≤ 1000 := by decide) (hg : Gl X x := by rfl) (hd : (x == ("__debug__" : Str)) = false := by decide) (hK : X.K = S.K := by rfl) (hb : behindInMarks .NotIn (.Name x p) = false := by rfl) :
    PE X (.Compare a [.NotIn] [.Name x p] pos) (rdE S W (mBin (oIn true) fa (mC (.tup ds)))) := by
  obtain ⟨u, dd, its, n, sl, h1, h2, h3⟩ := hm
  exact PE.weak (pe_cmpR (or_inG h2 h3 hl hu hK).2 ha (pe_glob (v := .ref u) hg h1 rfl hd) hb) md_inG
theorem t_inG (hm : GTup X.K X.mg x ds) (hu : X.A.units + 65 < cLine) (ha : PE X a (rdE S W fa)) (hl : ds.length ≤ 1000 := by decide) (hg : Gl X x := by rfl) (hd : (x == ("__debug__" : Str)) = false := by decide) (hK : X.K = S.K := by rfl) (hb : behindInMarks .In (.Name x p) = false := by rfl) :
    PT X (.Compare a [.In] [.Name x p] pos) (rdB S W (mT (mBin (oIn false) fa (mC (.tup ds))))) := by
  obtain ⟨u, dd, its, n, sl, h1, h2, h3⟩ := hm
  exact PT.weak (pt_cmpR (or_inG h2 h3 hl hu hK).1 ha (pe_glob (v := .ref u) hg h1 rfl hd) hb) (md_T md_inG)
theorem t_notinG (hm : GTup X.K X.mg x ds) (hu : X.A.units + 65 < cLine) (ha : PE X a (rdE S W fa)) (hl : ds.length ≤ 1000 := by decide) (hg : Gl X x := by rfl) (hd : (x == ("__debug__" : Str)) = false := by decide) (hK : X.K = S.K := by rfl) (hb : behindInMarks .NotIn (.Name x p) = false := by rfl) :
    PT X (.Compare a [.NotIn] [.Name x p] pos) (rdB S W (mT (mBin (oIn true) fa (mC (.tup ds))))) := by
  obtain ⟨u, dd, its, n, sl, h1, h2, h3⟩ := hm
  exact PT.weak (pt_cmpR (or_inG h2 h3 hl hu hK).2 ha (pe_glob (v := .ref u) hg h1 rfl hd) hb) (md_T md_inG)
end
/-! ### -e -/
def oNeg : D → Option D
  | .int i => some (.int (-i))
  | _ => none
theorem e_neg {a : Expr} {fa : EM D} {pos : Pos} (ha : PE X a (rdE S W fa)) : PE X (.UnaryOp .USub a pos) (rdE S W (mUn oNeg fa)) := PE.weak (pe_un un_neg ha) fun σ H Q h => by
  obtain ⟨r, env, st, o, eo, h⟩ := h
  refine ⟨r, env, st, o, eo, End.bind h fun d st1 r1 H1 v l1 o1 rx h1 => ?_⟩
  cases d with
  | int i =>
    unfold Rep at rx
    exact ⟨i, rx, h1 r1 H1 _ o1.refl o1 rep_int⟩
  | _ => exact h1.elim
/-! ### calls -/
theorem bad_ok {P : Program} {w : World} {K : PySem.W.Frag} {mg : Str → Option Value} {base : Heap} {k : Nat} {f : Addr} {fd : FuncData} {ps : List Str} : FnOk P w K mg base (L2.CX P w) k f fd ps (spM S ps.length fun _ _ => .bad) :=
  ⟨fun vs H Q E h => h.1, fun A outer s H args us vs Q E hr he hb hv h => by
    obtain ⟨_, r, st, ds, _, _, h⟩ := h
    exact h.elim⟩
/-- the values in another order -/
def mPerm (perm : List Nat) (g : EM (List D)) : EM (List D) := fun env st => (g env st).bind fun l st1 => .ok (perm.filterMap (l[·]?)) st1
theorem md_kw {k : Nat} {perm : List Nat} {g : EM (List D)} {sp : Sp} {E : L2.St → XK} : ∀ σ H Q, rdA S W g σ H Q → rdA S W g σ H Q := fun _ _ _ h => h
theorem repL_perm {r : Rho} {n : Nat} {H : Hp} {ds : List D} {vs : List V} (h : RepL S r n H ds vs) : ∀ perm : List Nat, RepL S r n H (perm.filterMap (ds[·]?)) (perm.filterMap (vs[·]?))
  | [] => RepL.nil
  | i :: is => by
    cases e : ds[i]? with
    | none =>
      have e2 := h.none_of e
      simpa [e, e2] using repL_perm h is
    | some d =>
      obtain ⟨v, e2, r1⟩ := h.get e
      simpa [e, e2] using RepL.cons r1 (repL_perm h is)
theorem vals_perm {vs : List V} {us : List Value} (h : Vals vs us) : ∀ perm : List Nat, Vals (perm.filterMap (vs[·]?)) (perm.filterMap (us[·]?))
  | [] => .nil
  | i :: is => by
    cases e : vs[i]? with
    | none =>
      have e2 : us[i]? = none := by
        have := List.getElem?_eq_none_iff.mp e
        exact List.getElem?_eq_none_iff.mpr (by rw [← h.length]; exact this)
      simpa [e, e2] using vals_perm h is
    | some d =>
      obtain ⟨v, e2, r1⟩ := h.get e
      have z := Paired.cons r1 (vals_perm h is)
      simpa [e, e2] using z
/-- how keywords ks, handed in alone, are bound -/
def KBindsP (K : PySem.W.Frag) (fd : FuncData) (ps ks : List Str) (perm : List Nat) : Prop := ∀ ws : List Value, ws.length = ps.length → bindArgs fd ⟨[], ks.zip ws⟩ = pure (ps.zip (perm.filterMap (ws[·]?)))
theorem Fun.kbinds {K : PySem.W.Frag} {x qual : Str} {st : Stmt} {f : Addr} {fd : FuncData} {ps ks : List Str} {perm : List Nat} (F : L2.Fun K x qual st f fd)
    (h : ∀ (kV doc pm : Value) (an : Option Addr) (cdv ct : Value) (ws : List Value), ws.length = ps.length → bindArgs (PySem.W.fnOf x qual (defArgs st) (defBody st) (defScope st) .none kV doc pm an cdv ct) ⟨[], ks.zip ws⟩ = pure (ps.zip (perm.filterMap (ws[·]?)))) : KBindsP K fd ps ks perm := by
  obtain ⟨oc, od, kV, doc, pm, an, cdv, ct, osl, rfl, lk, hcd⟩ := F.ex
  exact h kV doc pm an cdv ct
def tCallKP (perm : List Nat) (sp : Sp) (E : L2.St → XK) (n : Nat) (tk : TA) : TE := fun σ H Q => tk σ H fun zs H2 => zs.length = n ∧ sp (perm.filterMap (zs[·]?)) H2 Q (E σ)
theorem pe_callKP {f : Addr} {fd : FuncData} {ps ks : List Str} {k : Nat} {sp : Sp} {x : Str} {perm : List Nat} {E : L2.St → XK} {kws : List Keyword} {tk : TA} {p pos : Pos} (F : FnOk X.prog X.w X.K X.mg X.base (L2.CX X.prog X.w) k f fd ps sp) (hr : Room k X.A) (hm : X.mg x = some (.ref f)) (hk : PySem.W.keepIn X.K (.ref f) = true) (hb : KBindsP X.K fd ps ks perm)
    (hx : ∀ σ, PassesAt (L2.CX X.prog X.w) X σ (E σ)) (hkw : PK X kws tk) (hg : Gl X x) (hall : (backToKw pos (keywordEach kws X.env)).all (·.1.isSome) = true) (hks : (backToKw pos (keywordEach kws X.env)).filterMap (·.1) = ks)
    (hdb : (x == ("__debug__" : Str)) = false) (hpl : ((backTo pos (starEach [] X.env)).any (·.1) || (backToKw pos (keywordEach kws X.env)).any (·.1.isNone)) = false) :
    PE X (.Call (.Name x p) [] kws pos) (tCallKP perm sp E ps.length tk) := by
  refine ⟨fun pins s σ H Q I h => ?_⟩
  refine wpAny_Call_Name_kw (ld_glob I hg hm ?_ hdb)
  refine PySem.W.callWith_KW0 (h₀ := X.base) I.ok.mod.kin hk hall ?_ hpl
  refine thn (hkw.run pos pins s σ H _ I h) fun ws s2 ⟨zs, H2, I2, rz, l2, q2⟩ => ⟨I2.kIn, ?_⟩
  rw [hks]
  have b := hb ws (by rw [← rz.length]; exact l2)
  refine wpAny_call (codeAny_mono (F.run X.A X.stack s2 H2 ⟨[], ks.zip ws⟩ (perm.filterMap (ws[·]?)) (perm.filterMap (zs[·]?)) Q (E σ) hr I2.env0 (.of_eq b) (vals_perm rz perm) q2) fun r s' hq => ?_)
  cases r with
  | error e => exact hx σ pins H2 s2 e s' I2 hq
  | ok fl =>
    cases fl with
    | ret u => exact I2.after hq
    | next => exact False.elim hq
    | brk => exact False.elim hq
    | cont => exact False.elim hq
def rdK (S : Stat) (W : WX) (g : EM (List D)) : TA := rdA S W g
theorem k_nil : PK X [] (rdA S W mNil) := ⟨fun pos pins s σ H Q I h => (pk_nil (X := X)).run pos pins s σ H Q I (by
  obtain ⟨r, env, st, o, eo, h⟩ := h
  exact h r H [] o.refl o RepL.nil)⟩
theorem k_cons {nm : Option Str} {e : Expr} {kpos : Pos} {kws : List Keyword} {fa : EM D} {g : EM (List D)} (ha : PE X e (rdE S W fa)) (hr : PK X kws (rdA S W g)) : PK X (⟨nm, e, kpos⟩ :: kws) (rdA S W (mCons fa g)) := ⟨fun pos pins s σ H Q I h => (pk_cons ha hr).run pos pins s σ H Q I (by
  obtain ⟨r, env, st, o, eo, h⟩ := h
  refine ⟨r, env, st, o, eo, End.bind h fun d st1 r1 H1 v l1 o1 rx h1 => ?_⟩
  refine ⟨r1, env, st1, o1, eo.mono l1, End.bind h1 fun ds st2 r2 H2 vs l2 o2 rxs h2 => ?_⟩
  exact h2 r2 H2 _ o2.refl o2 (RepL.cons (Rep.mono l2 _ _ rx) rxs))⟩
theorem e_callK {f : Addr} {fd : FuncData} {ps ks : List Str} {k : Nat} {x : Str} (perm : List Nat) {kws : List Keyword} {g : EM (List D)} {cf : List D → Sto → Res D} {p pos : Pos} (F : FnOk X.prog X.w X.K X.mg X.base (L2.CX X.prog X.w) k f fd ps (spM S ps.length cf)) (hr : Room k X.A) (hm : X.mg x = some (.ref f)) (hk : PySem.W.keepIn X.K (.ref f) = true) (hb : KBindsP X.K fd ps ks perm) (tk : Takes X W)
    (hkw : PK X kws (rdA S W g)) (hg : Gl X x := by rfl) (hall : (backToKw pos (keywordEach kws X.env)).all (·.1.isSome) = true := by rfl) (hks : (backToKw pos (keywordEach kws X.env)).filterMap (·.1) = ks := by rfl)
    (hdb : (x == ("__debug__" : Str)) = false := by decide) (hpl : ((backTo pos (starEach [] X.env)).any (·.1) || (backToKw pos (keywordEach kws X.env)).any (·.1.isNone)) = false := by rfl) :
    PE X (.Call (.Name x p) [] kws pos) (rdE S W (fun env st => (g env st).bind fun l st1 => if l.length = ps.length ∧ (perm.filterMap (l[·]?)).length = ps.length then cf (perm.filterMap (l[·]?)) st1 else .bad)) := PE.weak (pe_callKP F hr hm hk hb (fun σ => passAt tk σ) hkw hg hall hks hdb hpl) fun σ H Q h => by
  obtain ⟨r, env, st, o, eo, h⟩ := h
  refine ⟨r, env, st, o, eo, End.bind h fun ds st1 r1 H1 vs l1 o1 rx h1 => ?_⟩
  by_cases hl : ds.length = ps.length ∧ (perm.filterMap (ds[·]?)).length = ps.length
  · simp only [if_pos hl] at h1
    have rp := repL_perm rx perm
    exact ⟨by rw [← rx.length]; exact hl.1, by rw [← rp.length]; exact hl.2, r1, st1, _, o1, rp, h1.wish fun c d H z => z⟩
  · simp only [if_neg hl] at h1; exact h1.elim
def mCallK (ar : Nat) (perm : List Nat) (cf : List D → Sto → Res D) (g : EM (List D)) : EM D := fun env st => (g env st).bind fun l st1 => if l.length = ar ∧ (perm.filterMap (l[·]?)).length = ar then cf (perm.filterMap (l[·]?)) st1 else .bad
end
/-! ### C(e, ..) -/
section
variable {S : Stat} {W : WX} {X : Cx}
/-- a class whose __init__ is cf: the instance is frozen at once -/
def mMake (c ar : Nat) (cf : List D → Sto → Res D) (g : EM (List D)) : EM D := fun env st => (g env st).bind fun ds st1 => if ds.length + 1 = ar then
  popR false st1 ((cf (.ref st1.length :: ds) (st1 ++ [.ins c [] []])).bind fun v st2 => match v with
    | .non => .ok (.ref st1.length) st2
    | _ => .bad) else .bad
theorem run_makeS {C f : Addr} {fd : FuncData} {ps : List Str} {k : Nat} {sp : Sp} {E : XK} {pins : List (Addr × Obj)} {σ : L2.St} {H : Hp} {s : Shared} {Q : VK} {us : List Value} {vs : List V} (M : Mk X.K C f) (F : FnOk X.prog X.w X.K X.mg X.base (L2.CX X.prog X.w) k f fd ps sp) (hr : Room (k + 1) X.A) (hb : Binds X.K fd ps [])
    (hx : PassesAt (L2.CX X.prog X.w) X σ E) (I : Inv X pins σ H s) (r : Vals vs us)
    (h : ∀ x dx, H x = none → H dx = none → dx ≠ x → sp (.ref x :: vs) (upd (upd H dx (.own x)) x (.ins C dx [])) (fun v H2 => v = .non ∧ Q (.ref x) H2) E) :
    wpAny (model X.prog X.w) X.A (call (.ref C) us) (EP X pins σ Q) X.xe s := by
  have hq := h (s.heap.objs.size + 1) s.heap.objs.size (I.hok.fresh (Nat.le_succ _)) (I.hok.fresh (Nat.le_refl _)) (Nat.ne_of_lt (Nat.lt_succ_self _))
  have I2 := Inv.made (C := C) I
  have r2 : Vals (V.ref (s.heap.objs.size + 1) :: vs) (Value.ref (s.heap.objs.size + 1) :: us) := .cons rfl r
  have hl : (Value.ref (s.heap.objs.size + 1) :: us ++ []).length = ps.length := by
    have e := r2.length
    rw [F.len _ _ _ _ hq] at e
    rw [List.append_nil]
    exact e.symm
  have b := hb _ (Value.ref (s.heap.objs.size + 1) :: us) I2.kIn hl
  rw [List.append_nil] at b
  refine wpAny_call (make_map (f := f) I.kIn M.makes M.init (beq_iff_eq.mp M.fn) (codeAny_mono (F.run _ X.stack _ _ ⟨Value.ref (s.heap.objs.size + 1) :: us, []⟩ (Value.ref (s.heap.objs.size + 1) :: us) _ _ E (hr.make C us [])
    (I2.env0.make C us []) b r2 hq) fun r s' hq' => ?_))
  cases r with
  | error e => exact hx pins _ _ e s' I2 hq'
  | ok fl =>
    cases fl with
    | ret u =>
      obtain ⟨v, H', I3, rv, ev, q3⟩ := I2.after hq'
      subst ev
      exact ⟨rv, ⟨V.ref (s.heap.objs.size + 1), H', I3, rfl, q3⟩⟩
    | next => exact False.elim hq'
    | brk => exact False.elim hq'
    | cont => exact False.elim hq'
theorem e_make (c : Nat) {C f : Addr} {fd : FuncData} {ps : List Str} {k ar : Nat} {x : Str} {e : Expr} {es : List Expr} {g : EM (List D)} {cf : List D → Sto → Res D} {p pos : Pos} (hx0 : S.ex = none) (M : Mk X.K C f) (F : FnOk X.prog X.w X.K X.mg X.base (L2.CX X.prog X.w) k f fd ps (spM S ar cf)) (hr : Room (k + 1) X.A) (hm : X.mg x = some (.ref C)) (hb : Binds X.K fd ps []) (tk : Takes X W)
    (ha : PA X (e :: es) (rdA S W g)) (hC : S.CA c = C := by rfl) (hg : Gl X x := by rfl) (hdb : (x == ("__debug__" : Str)) = false := by decide) (he : starEach (e :: es) X.env = (false, eval e X.env) :: starEach es X.env := by rfl) (hpl : (backTo pos (starEach es X.env)).any (·.1) = false := by rfl) :
    PE X (.Call (.Name x p) (e :: es) [] pos) (rdE S W (mMake c ar cf g)) := by
  refine ⟨fun pins s σ H Q I h => ?_⟩
  obtain ⟨r, env, st, o, eo, h⟩ := h
  refine wpAny_Call_Name_kw (ld_glob I hg hm ?_ hdb)
  refine PySem.W.callWith_K (h₀ := X.base) I.ok.mod.kin M.kp (thn (ha.run pos pins s σ H (fun vs H1 => ∃ r1 st1 ds, Le r st.length H r1 st1.length H1 ∧ Ok S r1 st1 H1 ∧ RepL S r1 st1.length H1 ds vs ∧ End S (Rep S) W σ r1 st1.length H1 Q (if ds.length + 1 = ar then
    popR false st1 ((cf (.ref st1.length :: ds) (st1 ++ [.ins c [] []])).bind fun v st2 => match v with
      | .non => .ok (.ref st1.length) st2
      | _ => .bad) else .bad)) I ⟨r, env, st, o, eo, End.bind h fun ds st1 r1 H1 vs l1 o1 rx h1 => ⟨r1, st1, ds, l1, o1, rx, h1⟩⟩) fun us s1 ⟨vs, H1, I1, rv, r1, st1, ds, l1, o1, rx, h1⟩ => ⟨I1.kIn, ?_⟩) he hpl
  by_cases hl : ds.length + 1 = ar
  · rw [if_pos hl] at h1
    refine run_makeS (E := WE W σ) M F hr hb (passAt tk σ) I1 rv fun xa dx hxa hdx hne => ?_
    obtain ⟨l2, o2⟩ := o1.fresh (u := .own xa) hdx
    have hxa2 : (upd H1 dx (.own xa)) xa = none := by rw [upd_ne (Ne.symm hne)]; exact hxa
    obtain ⟨l3, o3⟩ := o2.alloc (u := .ins C dx []) (c := .ins c [] []) hxa2 fun r' n' H' l' e' => ⟨dx, [], by rw [hC]; exact e', rfl, RepL.nil⟩
    have l13 := l2.trans l3
    have rx3 := RepL.mono l13 _ _ rx
    have href : Rep S (ext r1 st1.length xa) (st1 ++ [Cell.ins c [] []]).length (upd (upd H1 dx (.own xa)) xa (.ins C dx [])) (.ref st1.length) (.ref xa) := by
      unfold Rep
      exact ⟨by simp, by rw [ext_same]⟩
    refine ⟨by simp [← rx.length]; omega, _, _, .ref st1.length :: ds, o3, RepL.cons href rx3, ?_⟩
    cases q : cf (.ref st1.length :: ds) (st1 ++ [.ins c [] []]) with
    | ok d st2 =>
      intro r' H' v l4 o4 rv4
      rw [q] at h1
      cases d with
      | non =>
        unfold Rep at rv4
        refine ⟨rv4, ?_⟩
        have l5 := l13.trans l4
        have href5 := Rep.mono l4 _ _ href
        exact popR_ok hx0 o1 h1 l5 o4 href5
      | _ => exact (h1 : False).elim
    | exc c' d st2 =>
      intro r' H' dx' v l4 o4 hx4 rv4
      rw [q] at h1
      unfold popR Res.bind at h1
      simp only [Bool.false_eq_true, if_false] at h1
      by_cases hp : (popB st1 st2 && below st1.length d) = true
      · simp only [if_pos hp] at h1
        have hp2 := (Bool.and_eq_true_iff.mp hp)
        have l5 := l13.trans l4
        obtain ⟨l6, o6⟩ := pop_ok hx0 o1 l5 o4 hp2.1
        have hlen : (st2.take st1.length).length = st1.length := by
          rw [List.length_take]
          have := l5.len
          omega
        exact h1 r' H' dx' v l6 o6 hx4 (by rw [hlen]; exact Rep.cut l5.len d v rv4 hp2.2)
      · simp only [if_neg hp] at h1; exact h1.elim
    | bad => rw [q] at h1; exact (h1 : False).elim
  · rw [if_neg hl] at h1; exact h1.elim
/-! ### o.f = e, o a live instance -/
theorem putA_ok (hi : ∀ a b, S.AN a = S.AN b → a = b) {r : Rho} {n : Nat} {H : Hp} {y : V} {d : D} (ry : Rep S r n H d y) : ∀ {ks : List Nat} {ds : List D} {fs : List (Str × V)} {a : Nat}, fs.map (·.1) = ks.map S.AN → RepL S r n H ds (fs.map (·.2)) →
    (putF (S.AN a) y fs).map (·.1) = (putA ks ds a d).1.map S.AN ∧ RepL S r n H (putA ks ds a d).2 ((putF (S.AN a) y fs).map (·.2))
  | [], ds, fs, a, h1, h2 => by
    have e : fs = [] := by simpa using h1
    subst e
    have e2 : ds = [] := by
      have := h2.length
      simpa using this
    subst e2
    exact ⟨rfl, RepL.cons ry RepL.nil⟩
  | k :: ks, ds, [], a, h1, h2 => by simp at h1
  | k :: ks, [], (f, v) :: fs, a, h1, h2 => by
    have := h2.length
    simp at this
  | k :: ks, e :: ds, (f, v) :: fs, a, h1, h2 => by
    simp only [List.map_cons, List.cons.injEq] at h1
    obtain ⟨g1, g2⟩ := RepL.uncons h2
    have hp : putF (S.AN a) y ((f, v) :: fs) = if f = S.AN a then (f, y) :: fs else (f, v) :: putF (S.AN a) y fs := rfl
    unfold putA
    rw [hp]
    by_cases hk : k = a
    · subst hk
      rw [if_pos h1.1, if_pos rfl]
      exact ⟨by simp [h1.1, h1.2], RepL.cons ry g2⟩
    · rw [if_neg (fun z => hk (hi _ _ (h1.1.symm.trans z))), if_neg hk]
      obtain ⟨q1, q2⟩ := putA_ok hi ry (a := a) h1.2 g2
      exact ⟨by simp [h1.1, q1], RepL.cons g1 q2⟩
theorem s_fld (cs : List Nat) (a : Nat) {o e : Expr} {f : Str} {fo fe : EM D} {pos pos' : Pos} (ho : PE X o (rdE S W fo)) (he : PE X e (rdE S W fe)) (hf : ∀ c ∈ cs, FldOk S c a) (hi : ∀ a b, S.AN a = S.AN b → a = b) (hn : S.AN a = f := by rfl) (hK : X.K = S.K := by rfl)
    (hs : swapsWith e (some (.Attribute o f pos')) pos.line X.env = pure false := by rfl) : PS X (.Assign [.Attribute o f pos'] e pos) (rdS S W (fun env st => (fe env st).toS env fun y st1 => match fo env st1 with
      | .ok (.ref k) st2 => match st2[k]? with
        | some (.ins c ks ds) => if cs.contains c = true ∧ ks.length < 900 then .nx env (st2.set k (.ins c (putA ks ds a y).1 (putA ks ds a y).2)) else .bad
        | _ => .bad
      | _ => .bad)) := PS.weak (ps_fld ho he hs) fun σ H E h => by
  obtain ⟨r, env, st, o, eo, h⟩ := h
  refine ⟨r, env, st, o, eo, EndS.bind h eo fun d st1 r1 H1 v l1 o1 rx h1 => ?_⟩
  refine ⟨r1, env, st1, o1, eo.mono l1, ?_⟩
  cases q : fo env st1 with
  | ok dk st2 =>
    rw [q] at h1
    intro r2 H2 x l2 o2 rk
    cases dk with
    | ref k =>
      simp only at h1
      unfold Rep at rk
      cases qk : st2[k]? with
      | none => rw [qk] at h1; exact (h1 : False).elim
      | some cell =>
        rw [qk] at h1
        cases cell with
        | ins c ks ds =>
          simp only at h1
          by_cases hl : cs.contains c = true ∧ ks.length < 900
          · rw [if_pos hl] at h1
            obtain ⟨dx, fs, e2, e3, e4⟩ := o2.cel k _ qk
            have F := hf c (by simpa using hl.1)
            have rv2 := Rep.mono l2 _ _ rx
            have hlen : fs.length = ks.length := by
              have := congrArg List.length e3
              simpa using this
            refine ⟨r2 k, S.CA c, dx, fs, rk.2, e2, by rw [hK]; exact F.cl, by rw [hK, ← hn]; exact F.na, by omega, ?_⟩
            obtain ⟨l3, o3⟩ := o2.write (k := k) (u := .ins (S.CA c) dx (putF f v fs)) (c := .ins c (putA ks ds a d).1 (putA ks ds a d).2) rk.1 trivial fun H' l' e' => by
              obtain ⟨z1, z2⟩ := putA_ok hi (a := a) rv2 e3 e4
              rw [hn] at z1 z2
              exact ⟨dx, _, e', z1, RepL.mono l' _ _ z2⟩
            exact h1 r2 σ _ (l2.trans l3) o3 (eo.mono (l1.trans (l2.trans l3)))
          · rw [if_neg hl] at h1; exact (h1 : False).elim
        | _ => exact (h1 : False).elim
    | _ => exact (h1 : False).elim
  | exc c d st2 => rw [q] at h1; exact (h1 : False).elim
  | bad => rw [q] at h1; exact (h1 : False).elim
def sFld (cs : List Nat) (a : Nat) (fo fe : EM D) : SM := fun env st => (fe env st).toS env fun y st1 => match fo env st1 with
  | .ok (.ref k) st2 => match st2[k]? with
    | some (.ins c ks ds) => if cs.contains c = true ∧ ks.length < 900 then .nx env (st2.set k (.ins c (putA ks ds a y).1 (putA ks ds a y).2)) else .bad
    | _ => .bad
  | _ => .bad
end
/-! ### attribute names by number -/
def anOf (l : List Str) (n : Nat) : Str := match l[n]? with
  | some x => x
  | none => ⟨#[0, n]⟩
theorem anOf_inj {l : List Str} (h1 : l.Nodup) (h2 : ∀ x ∈ l, x.cps[0]? ≠ some 0) : ∀ a b, anOf l a = anOf l b → a = b := fun a b e => by
  unfold anOf at e
  cases qa : l[a]? with
  | some x =>
    cases qb : l[b]? with
    | some y =>
      rw [qa, qb] at e
      simp only at e
      subst e
      obtain ⟨ha, ea⟩ := List.getElem?_eq_some_iff.mp qa
      obtain ⟨hb, eb⟩ := List.getElem?_eq_some_iff.mp qb
      exact (List.getElem?_inj ha h1).mp (qa.trans qb.symm)
    | none =>
      rw [qa, qb] at e
      simp only at e
      subst e
      exact absurd rfl (h2 _ (List.mem_of_getElem? qa))
  | none =>
    cases qb : l[b]? with
    | some y =>
      rw [qa, qb] at e
      simp only at e
      subst e
      exact absurd rfl (h2 _ (List.mem_of_getElem? qb))
    | none =>
      rw [qa, qb] at e
      simp only at e
      injection e with e
      simpa using e
end Cw
namespace Cw
open PySem
/-- a check of atoms -/
def atomB : List D → List Value → Bool
  | [], [] => true
  | d :: ds, u :: us => (match d, u with
    | .int i, .int j _ => decide (i = j)
    | .str x, .str y _ => decide (x = y)
    | .bl a, .bool b => a == b
    | .non, .none => true
    | _, _ => false) && atomB ds us
  | _, _ => false
theorem atomB_ok : ∀ {ds : List D} {us : List Value}, atomB ds us = true → AtomV ds us
  | [], us, h => by
    cases us with
    | nil => rfl
    | cons _ _ => cases h
  | d :: ds, us, h => by
    cases us with
    | nil => cases h
    | cons u us =>
      unfold atomB at h
      obtain ⟨h1, h2⟩ := Bool.and_eq_true_iff.mp h
      unfold AtomV
      refine ⟨u, us, rfl, ?_, atomB_ok h2⟩
      split at h1 <;> first | (have e := of_decide_eq_true h1; subst e; exact ⟨_, rfl⟩) | (have e := beq_iff_eq.mp h1; subst e; rfl) | rfl | cases h1
end Cw

/-! enumerate over a tuple, over a list. -/
namespace Cw
open PySem L2 PyProof.Rows
set_option maxHeartbeats 8000000 in
theorem meets_enum_tup (l : Addr) (items : Array Value) (n : Nat) (dct : Option Addr) (sl : Array (Option Value)) :
    Meets (Builtin.«enumerate.__new__» ⟨[.type "enumerate", .ref l], []⟩) (fun _ R s => s.heap.get? l = some { cls := .type "tuple", dict := dct, data := .seq items n, slots := sl } ∧
      R (.ok (.ret (.ref (s.heap.push { cls := .type "tuple_iterator", data := .fields #[.ref l, .int 0 0] }).objs.size)))
        { s with heap := (s.heap.push { cls := .type "tuple_iterator", data := .fields #[.ref l, .int 0 0] }).push { cls := .type "enumerate", data := .fields #[.none, .bool false, .ref s.heap.objs.size, rawInt 0, .none, .none] } }) :=
  .of_wp fun prog w A R s h => by
    obtain ⟨hp, g, d, tk, os⟩ := s; obtain ⟨hl, h⟩ := h
    have hsub := sub_enumerate
    have hL : Heap.IsTuple (Shared.heap ⟨hp, g, d, tk, os⟩) l items := ⟨_, hl, rfl, n, rfl⟩
    wp_walk using wpAny_loadPart' hl
    refine wpAny_stack_any fun st => wpAny_pure ?_
    split
    · rename_i c _ _ _ _ _
      cases (c == Value.type "enumerate")
      · wp_walk using wpAny_loadPart' hl, wpAny_pyIter_tuple hL
        exact ⟨_, rfl, h⟩
      · wp_walk using wpAny_loadPart' hl, wpAny_pyIter_tuple hL
        exact ⟨_, rfl, h⟩
    · wp_walk using wpAny_loadPart' hl, wpAny_pyIter_tuple hL
      exact ⟨_, rfl, h⟩
section
variable {prog : Program} {w : World} {A : Around} {E : Value → Shared → Prop} {s : Shared}
theorem call_enum_tup {l : Addr} {items : Array Value} {Q : Value → Shared → Prop} (hL : s.heap.IsTuple l items)
    (h : ∀ h', IsEnum h' (s.heap.objs.size + 1) s.heap.objs.size 0 .none → h'.IsTupleIter s.heap.objs.size l 0 → h'.objs.size = s.heap.objs.size + 2 →
      (∀ b o, s.heap.get? b = some o → h'.get? b = some o) → Q (.ref (s.heap.objs.size + 1)) { s with heap := h' }) :
    wpAny (model prog w) A (call (.type "enumerate") [.ref l]) Q E s := by
  obtain ⟨⟨c, dct, dt, sl⟩, hl, hc, n, hd⟩ := hL
  replace hc : c = .type "tuple" := hc
  replace hd : dt = .seq items n := hd
  subst hc hd
  refine callType_new F.called_enumerate (by decide) (F.typeCall_enumerate_1 _) (F.newCall_enumerate_1 _) (fun obj => F.args_object_init_2 obj _) F.entry_enumerate_new
    (meets_enum_tup l items n dct sl) ⟨hl, ?_⟩
  have hz : (s.heap.push { cls := .type "tuple_iterator", data := .fields #[.ref l, .int 0 0] }).objs.size = s.heap.objs.size + 1 := Heap.size_push ..
  show _ ∧ _
  rw [hz]
  have he : IsEnum ((s.heap.push { cls := .type "tuple_iterator", data := .fields #[.ref l, .int 0 0] }).push
      { cls := .type "enumerate", data := .fields #[.none, .bool false, .ref s.heap.objs.size, rawInt 0, .none, .none] }) (s.heap.objs.size + 1) s.heap.objs.size 0 .none := by
    have := Heap.get?_push_size (s.heap.push { cls := .type "tuple_iterator", data := .fields #[.ref l, .int 0 0] })
      (o := { cls := .type "enumerate", data := .fields #[.none, .bool false, .ref s.heap.objs.size, rawInt 0, .none, .none] }) rfl
    rw [hz] at this; exact this
  refine ⟨⟨_, he, rfl⟩, h _ he ⟨_, Heap.get?_push_of_some _ (Heap.get?_push_size _ rfl), rfl, rfl⟩ (by rw [Heap.size_push, hz]) fun b o x => Heap.get?_push_of_some _ (Heap.get?_push_of_some _ x)⟩
end
def IteT (K : PySem.W.Frag) (a : Addr) (n : Nat) : It :=
  ⟨fun i H => ∃ (xs : List V) (x : V), SqT K H a xs ∧ xs[i]? = some x ∧ xs.length = n, fun i H v H' => ∃ T x, v = .ref T ∧ H T = none ∧ H' = upd H T (.tup [.int (i : Nat), x]) ∧ ∀ xs, SqT K H a xs → xs[i]? = some x, fun i H => ∃ xs : List V, SqT K H a xs ∧ xs.length ≤ i ∧ xs.length = n⟩
theorem turn_enumT {P : Program} {w : World} {K : PySem.W.Frag} {elts : List Expr} {kk : Nat} {tpos : Pos} (a e it : Addr) (n : Nat) (hne : e ≠ it) (hea : e ≠ a) (hia : a ≠ it) :
    Turn P w K (.Tuple elts kk tpos) (IteT K a n) [e, it] e (fun i h => (∃ old, IsEnum h e it ((i : Nat) : Int) old) ∧ h.IsTupleIter it a i ∧ i ≤ n) where
  mem := by simp
  obj := fun i h st b hb => by
    obtain ⟨⟨old, he⟩, ⟨o, ho, hc, hd⟩, _⟩ := st
    have e' : b = e ∨ b = it := by simpa using hb
    rcases e' with z | z
    · rw [z]; exact ⟨_, he, fun v q => nomatch q⟩
    · rw [z]; exact ⟨o, ho, fun v q => by rw [hd] at q; cases q⟩
  keep := fun i h h' st k => let ⟨⟨old, he⟩, hi, hn⟩ := st; ⟨⟨old, k e (by simp) _ he⟩, hi.at fun o q => k it (by simp) o q, hn⟩
  item := by
    intro X hP hw hK hc i pins s σ H E I hf st hg
    subst hP hw hK
    obtain ⟨⟨old, he⟩, hit, hin⟩ := st
    obtain ⟨xs, x, hq, hx, hxn⟩ := hg
    obtain ⟨its, rv, p, hz⟩ := I.tuple hq
    have hxl : i < its.toArray.size := by
      have := (List.getElem?_eq_some_iff.mp hx).1
      rw [List.size_toArray, ← rv.length]
      exact this
    have hel : e < s.heap.objs.size := Heap.lt_size he
    have hil : it < s.heap.objs.size := by obtain ⟨_, q, _⟩ := hit; exact Heap.lt_size q
    have Dr := Draws.tuple (prog := X.prog) (w := X.w) (A := X.A.in1) (show X.A.in1.handled = none from I.ok.hd hc) it a hia its.toArray
    refine wpAny_pyNext_enum_itemD Dr he ⟨hit, p⟩ hxl hne (by simp [hne, hea]) fun u h' tk hu ho hit' hT hsz hk => ?_
    obtain ⟨u', hu', ru⟩ := rv.get hx
    have hu2 : its[i]? = some u := by simpa using hu
    have eu : u' = u := Option.some.inj (hu'.symm.trans hu2)
    subst eu
    refine ⟨_, rfl, wpAny_letOwnedTupleGo_enum (s := { s with heap := h', toks := tk + 1 }) ho fun h'' he' sb => ?_⟩
    have hT2 : h''.get? s.heap.objs.size = some { cls := .type "tuple", data := .seq #[.int i tk, u'] } := (sb.2 _ (Nat.ne_of_gt hel)).trans hT
    have new : ObjOk X.prog X.w (upd H s.heap.objs.size (.tup [.int (i : Nat), x])) h'' s.heap.objs.size (.tup [.int (i : Nat), x]) :=
      ⟨by show 2 ≤ sizeLine; decide, [.int i tk, u'], .cons ⟨_, rfl⟩ (.cons ru .nil), ⟨_, hT2, rfl, _, rfl⟩⟩
    have I1 : Inv X pins σ (upd H s.heap.objs.size (.tup [.int (i : Nat), x])) { s with heap := h'', toks := tk + 1 } :=
      I.turnedNew (ch := [e, it]) (fun b ob hb q => (sb.2 b (fun z => hb (by simp [z]))).trans (hk b ob (fun z => hb (by simp [z])) (fun z => hb (by simp [z])) q)) hf (Nat.le_refl _) new
    refine ⟨.ref s.heap.objs.size, _, I1, rfl, ⟨_, x, rfl, I.hok.fresh (Nat.le_refl _), rfl, fun ys hy => by rw [I.tuple_inj hy hq]; exact hx⟩, ⟨⟨u', ?_⟩, hit'.1.at fun o q => (sb.2 it (Ne.symm hne)).trans q, ?_⟩, fun b hb => ?_⟩
    · have e1 : ((i + 1 : Nat) : Int) = (i : Int) + 1 := by omega
      rw [e1]; exact he'
    · have := (List.getElem?_eq_some_iff.mp hx).1
      omega
    · have hb' : b < s.heap.objs.size := by
        have e' : b = e ∨ b = it := by simpa using hb
        rcases e' with z | z
        · rw [z]; exact hel
        · rw [z]; exact hil
      rw [upd_ne (Nat.ne_of_lt hb')]
      exact (hf b hb).1
  done := by
    intro X hP hw hK hc i pins s σ H E I hf st hg
    subst hP hw hK
    obtain ⟨⟨old, he⟩, hit, hin⟩ := st
    obtain ⟨xs, hq, hx, hxn⟩ := hg
    obtain ⟨its, rv, p, hz⟩ := I.tuple hq
    obtain ⟨f0, f1, f2, f3, f4, f5⟩ := hf it (by simp)
    have hl := rv.length
    have Dr := Draws.tuple (prog := X.prog) (w := X.w) (A := X.A.in1) (show X.A.in1.handled = none from I.ok.hd hc) it a hia its.toArray
    have hi : i = its.toArray.size := by
      rw [List.size_toArray, ← hl]
      omega
    subst hi
    exact wpAny_pyNext_enum_endD Dr he ⟨hit, p⟩ fun h' eb => ⟨rfl, I.turned (t' := s.toks) (fun b o hb q => eb b o hb q) f0 f1 f3 f4 f5⟩
  self := fun A i s Q E st h => let ⟨⟨_, he⟩, _⟩ := st; wpAny_pyIter_enum he h
section
variable {S : Stat} {W : WX} {X : Cx}
def iEnumT (K : PySem.W.Frag) (ta : TA) : TI := fun σ H R => ta σ H fun vs H1 => ∃ a xs, vs = [.ref a] ∧ SqT K H1 a xs ∧ R (IteT K a xs.length) H1
theorem pi_enumT {e : Expr} {ta : TA} {p pos tpos : Pos} {elts : List Expr} {kk : Nat} (hg : Gl X "enumerate") (hm : X.mg "enumerate" = none) (ha : PA X [e] ta) (hs : starEach [e] X.env = [(false, eval e X.env)] := by rfl) :
    PI X (.Tuple elts kk tpos) (.Call (.Name "enumerate" p) [e] [] pos) (iEnumT X.K ta) := by
  refine ⟨fun pins s σ H R I h => ?_⟩
  refine Call_ (ld_blt I hg hm boot_enumerate (PyProof.Rows.callWith_type1 (thn (ha.run pos pins s σ H _ I h) fun us s1 ⟨vs, H1, I1, r1, q1⟩ => ?_) hs rfl))
  obtain ⟨a, xs, ex, hq, q⟩ := q1
  subst ex
  cases r1 with
  | cons r rr =>
    cases rr
    cases r
    obtain ⟨its, rv, p', hz⟩ := I1.tuple hq
    refine call_enum_tup p' fun h' he hit hsz hk => wpAny_pyIter_enum he ?_
    have I2 : Inv X pins σ H1 { s1 with heap := h' } := I1.kept (t' := s1.toks) hk
    have hal : a < s1.heap.objs.size := by
      obtain ⟨o, ho, _⟩ := p'
      exact Heap.lt_size ho
    refine ⟨s1.heap.objs.size + 1, [s1.heap.objs.size + 1, s1.heap.objs.size], _, _, H1, rfl, I2, turn_enumT a (s1.heap.objs.size + 1) s1.heap.objs.size xs.length (Nat.succ_ne_self _) (Nat.ne_of_gt (Nat.lt_succ_of_lt hal)) (Nat.ne_of_lt hal), ⟨⟨.none, he⟩, hit, Nat.zero_le _⟩, fun b hb => ?_, q⟩
    have e' : b = s1.heap.objs.size + 1 ∨ b = s1.heap.objs.size := by simpa using hb
    have hle : s1.heap.objs.size ≤ b := by
      rcases e' with z | z
      · rw [z]; exact Nat.le_add_right _ _
      · rw [z]; exact Nat.le_refl _
    exact I1.fpOk hle (I1.hok.fresh hle)
def enumD (ds : List D) : List D := ds.zipIdx.map fun p => .tup [.int (p.2 : Nat), p.1]
theorem enumD_len (ds : List D) : (enumD ds).length = ds.length := by simp [enumD]
theorem enumD_get {ds : List D} {i : Nat} {d : D} (h : (enumD ds)[i]? = some d) : ∃ y, ds[i]? = some y ∧ d = .tup [.int (i : Nat), y] := by
  unfold enumD at h
  rw [List.getElem?_map, List.getElem?_zipIdx] at h
  cases q : ds[i]? with
  | none => rw [q] at h; cases h
  | some y =>
    rw [q] at h
    refine ⟨y, rfl, ?_⟩
    have h' := Option.some.inj h
    rw [← h']
    simp
theorem walk_enT {r : Rho} {n : Nat} {H : Hp} {ds : List D} {a : Addr} {xs : List V} (h1 : SqT S.K H a xs) (h2 : RepL S r n H ds xs) : WalkD S ⟨enumD ds, []⟩ r n H (IteT S.K a xs.length) := by
  refine ⟨fun i r1 st1 H1 hi l o k => ?_, fun r1 st1 H1 l o k => ?_, fun i r1 st1 H1 x H' d hd l o k y => ?_⟩
  · have hl : i < xs.length := by rw [← h2.length]; simpa [enumD_len] using hi
    exact ⟨xs, xs[i], sqT_mono l h1, by simp [hl], rfl⟩
  · exact ⟨xs, sqT_mono l h1, by simp [enumD_len, h2.length], rfl⟩
  · obtain ⟨T, x0, e1, e2, e3, e4⟩ := y
    obtain ⟨z, g1, g2⟩ := enumD_get hd
    have hx := e4 xs (sqT_mono l h1)
    obtain ⟨v, q1, q2⟩ := (RepL.mono l _ _ h2).get g1
    rw [hx] at q1
    cases q1
    subst e1 e3 g2
    exact new_tup o (RepL.cons rep_int (RepL.cons q2 RepL.nil)) e2
theorem walk_enL {r : Rho} {n : Nat} {H : Hp} {it : IterD} {a : Addr} {xs : List V} (h : LstAt S it r n H a xs) : WalkD S ⟨enumD it.items, it.lock⟩ r n H (Ite S.K a) := by
  refine ⟨fun i r1 st1 H1 hi l o k => ?_, fun r1 st1 H1 l o k => ?_, fun i r1 st1 H1 x H' d hd l o k y => ?_⟩
  · obtain ⟨ys, q1, q2⟩ := h r1 st1 H1 l o k
    have hl : i < ys.length := by rw [← q2.length]; simpa [enumD_len] using hi
    exact ⟨ys, ys[i], q1, by simp [hl]⟩
  · obtain ⟨ys, q1, q2⟩ := h r1 st1 H1 l o k
    exact ⟨ys, q1, by simp [enumD_len, q2.length]⟩
  · obtain ⟨ys, q1, q2⟩ := h r1 st1 H1 l o k
    obtain ⟨T, x0, e1, e2, e3, e4⟩ := y
    obtain ⟨z, g1, g2⟩ := enumD_get hd
    have hx := e4 ys q1
    obtain ⟨v, p1, p2⟩ := q2.get g1
    rw [hx] at p1
    cases p1
    subst e1 e3 g2
    exact new_tup o (RepL.cons rep_int (RepL.cons p2 RepL.nil)) e2
def enOf (st1 : Sto) (d : D) : Res IterD := match d with
  | .tup ds => .ok ⟨enumD ds, []⟩ st1
  | .lst ds => .ok ⟨enumD ds, []⟩ st1
  | .ref k => match iterOf st1 (.ref k) with
    | some it => .ok ⟨enumD it.items, it.lock⟩ st1
    | none => .bad
  | _ => .bad
def iEn (fa : EM D) : EM IterD := fun env st => (fa env st).bind fun d st1 => enOf st1 d
theorem i_en {a : Expr} {fa : EM D} {p pos tpos : Pos} {elts : List Expr} {kk : Nat} (ha : PE X a (rdE S W fa)) (hm : X.mg "enumerate" = none) (hg : Gl X "enumerate" := by rfl) (hs : starEach [a] X.env = [(false, eval a X.env)] := by rfl) (hK : X.K = S.K := by rfl) :
    PI X (.Tuple elts kk tpos) (.Call (.Name "enumerate" p) [a] [] pos) (rdI S W (iEn fa)) := by
  refine PI.by fun σ H R h => ?_
  obtain ⟨r, env, st, o, eo, h⟩ := h
  have pa : PA X [a] (rdA S W (mCons fa mNil)) := a_cons ha a_nil hs
  have lists : ∀ t, (∀ d st1 r1 H1 v, fa env st = .ok d st1 → Ok S r1 st1 H1 → Rep S r1 st1.length H1 d v → EndI S W σ r1 st1.length H1 R (enOf st1 d) → t [v] H1) → rdA S W (mCons fa mNil) σ H t := fun t k => by
    refine ⟨r, env, st, o, eo, ?_⟩
    unfold iEn at h
    unfold mCons mNil
    cases q : fa env st with
    | ok d st1 =>
      rw [q] at h
      intro r1 H1 vs l1 o1 rv
      obtain ⟨v, e1, r1'⟩ := repL1 rv
      subst e1
      exact k d st1 r1 H1 v q o1 r1' (EndI.le l1 h)
    | exc c d st1 => rw [q] at h; exact h
    | bad => rw [q] at h; exact h.elim
  cases q : fa env st with
  | ok d st1 =>
    cases d with
    | tup ds =>
      refine ⟨_, pi_enumT hg hm pa hs, lists _ fun d' st' r1 H1 v e o1 rv h1 => ?_⟩
      rw [q] at e
      cases e
      unfold Rep at rv
      obtain ⟨a, xs, e1, e2, e3⟩ := rv
      rw [hK]
      exact ⟨a, xs, by rw [e1], sqT_of e2, h1 r1 H1 _ o1.refl o1 (walk_enT (sqT_of e2) e3)⟩
    | lst ds =>
      refine ⟨_, pi_enum hg hm pa hs, lists _ fun d' st' r1 H1 v e o1 rv h1 => ?_⟩
      rw [q] at e
      cases e
      obtain ⟨a, xs, e1, e2, e3⟩ := lstAt_frz rv
      rw [hK]
      exact ⟨a, xs, by rw [e1], e2, h1 r1 H1 _ o1.refl o1 (walk_enL e3)⟩
    | ref k =>
      refine ⟨_, pi_enum hg hm pa hs, lists _ fun d' st' r1 H1 v e o1 rv h1 => ?_⟩
      rw [q] at e
      cases e
      cases qk : st1[k]? with
      | none => simp only [enOf, iterOf, qk] at h1; exact h1.elim
      | some c =>
        cases c with
        | lst ds =>
          simp only [enOf, iterOf, qk] at h1
          obtain ⟨a, xs, e1, e2, e3⟩ := lstAt_cel o1 rv qk
          rw [hK]
          exact ⟨a, xs, by rw [e1], e2, h1 r1 H1 _ o1.refl o1 (walk_enL e3)⟩
        | _ => simp only [enOf, iterOf, qk] at h1; exact h1.elim
    | _ =>
      refine ⟨_, pi_enum hg hm pa hs, lists _ fun d' st' r1 H1 v e o1 rv h1 => ?_⟩
      rw [q] at e
      cases e
      exact h1.elim
  | exc c d st1 =>
    refine ⟨_, pi_enum hg hm pa hs, lists _ fun d' st' r1 H1 v e o1 rv h1 => ?_⟩
    rw [q] at e
    cases e
  | bad => unfold iEn at h; rw [q] at h; exact h.elim
end
end Cw

/-! Repetition. -/
namespace Cw
open PySem L2 PyProof.Rows
theorem tup_mul1 (l : Addr) (items : Array Value) (n : Nat) (dd : Option Addr) (sl : Array (Option Value)) (u : Tok) :
    Meets (Builtin.«tuple.__mul__» ⟨[.ref l, .int 1 u], []⟩) (fun _ R s => s.heap.get? l = some { cls := .type "tuple", dict := dd, data := .seq items n, slots := sl } ∧
      R (.ok (.ret (Value.ref l))) s) :=
  .of_wp fun prog w A R s h => by
    obtain ⟨hp, g, d, tk, os⟩ := s
    obtain ⟨hl, h⟩ := h
    have f1 := AutoSeq1.idx_int
    wp_walk using wpAny_loadPart' hl
    repeat (first
      | (refine wpAny_ite_false (by decide) ?_; wp_walk using wpAny_loadPart' hl)
      | (refine wpAny_ite_true (by simp) ?_; wp_walk using wpAny_loadPart' hl))
    exact ⟨_, rfl, h⟩
theorem tup_mul0 (l : Addr) (items : Array Value) (n : Nat) (dd : Option Addr) (sl : Array (Option Value)) (u : Tok) (hi : items.isEmpty = false) :
    Meets (Builtin.«tuple.__mul__» ⟨[.ref l, .int 0 u], []⟩) (fun _ R s => s.heap.get? l = some { cls := .type "tuple", dict := dd, data := .seq items n, slots := sl } ∧
      R (.ok (.ret (Value.ref s.heap.objs.size))) { s with heap := s.heap.push { cls := Value.type "tuple", data := Data.seq #[] }, toks := s.toks }) :=
  .of_wp fun prog w A R s h => by
    obtain ⟨hp, g, d, tk, os⟩ := s
    obtain ⟨hl, h⟩ := h
    have f1 := AutoSeq1.idx_int
    wp_walk using wpAny_loadPart' hl
    repeat (first
      | (refine wpAny_ite_false (by simp [hi]) ?_; wp_walk using wpAny_loadPart' hl)
      | (refine wpAny_ite_true (by simp) ?_; wp_walk using wpAny_loadPart' hl))
    exact ⟨_, rfl, h⟩
section
variable {S : Stat} {W : WX} {X : Cx}
def rRepT01 (K : PySem.W.Frag) : R2 := fun x y H Q => ∃ l k xs, x = .ref l ∧ y = .int k ∧ SqT K H l xs ∧ xs ≠ [] ∧ ((k = 1 ∧ Q (.ref l) H) ∨ (k = 0 ∧ ∀ p, H p = none → Q (.ref p) (upd H p (.tup []))))
theorem op_repT01 : OpR X (binaryOp .Mult) (rRepT01 X.K) := by
  intro pins s σ H x y v u Q I rx ry h
  obtain ⟨l, k, xs, rfl, rfl, hT, hne, q⟩ := h
  cases rx
  obtain ⟨t, rfl⟩ := ry
  obtain ⟨its, r, ⟨⟨cls, dd, data, sl⟩, ho, hc, n, hd⟩, hs⟩ := I.tuple hT
  simp only at hc hd
  subst hc hd
  have hle : its.length = xs.length := r.length.symm
  have hn : its ≠ [] := fun e => hne (by
    rw [e] at hle
    exact List.eq_nil_of_length_eq_zero hle.symm)
  have hi : its.toArray.isEmpty = false := by
    cases its with
    | nil => exact absurd rfl hn
    | cons a b => rfl
  rcases q with ⟨rfl, q⟩ | ⟨rfl, q⟩
  · refine wpAny_binaryOp_repeat_ref (T := "tuple") (U := "int") (by decide) ⟨_, ho, rfl⟩ (fun s' => typeIs_int s' 1 t) noFill_tuple_mul F.fills_int_mul F.slot_int_rmul repeat_tuple F.slot_int_index.lookup
      (call_meets F.slot_int_rmul (typeIs_int s 1 t) F.entry_int_rmul (F.args_int_rmul_2 _ _) (int_rmul_tuple 1 t l its.toArray n dd sl)
        ⟨ho, rfl, ⟨_, ho, rfl⟩, call_meets F.slot_tuple_mul ⟨_, ho, rfl⟩ F.entry_tuple_mul (F.args_tuple_mul_2 _ _) (tup_mul1 l its.toArray n dd sl t) ⟨ho, ?_⟩⟩)
    exact ⟨.ref l, H, I, rfl, q⟩
  · refine wpAny_binaryOp_repeat_ref (T := "tuple") (U := "int") (by decide) ⟨_, ho, rfl⟩ (fun s' => typeIs_int s' 0 t) noFill_tuple_mul F.fills_int_mul F.slot_int_rmul repeat_tuple F.slot_int_index.lookup
      (call_meets F.slot_int_rmul (typeIs_int s 0 t) F.entry_int_rmul (F.args_int_rmul_2 _ _) (int_rmul_tuple 0 t l its.toArray n dd sl)
        ⟨ho, rfl, ⟨_, ho, rfl⟩, call_meets F.slot_tuple_mul ⟨_, ho, rfl⟩ F.entry_tuple_mul (F.args_tuple_mul_2 _ _) (tup_mul0 l its.toArray n dd sl t hi) ⟨ho, ?_⟩⟩)
    refine ⟨.ref s.heap.objs.size, _, I.laid (t' := s.toks) (o := .tup []) (fun b ob q => Heap.get?_push_of_some _ q) (Nat.le_refl _) ?_, rfl, q _ (I.hok.fresh (Nat.le_refl _))⟩
    exact ⟨Nat.zero_le _, [], .nil, IsTup.new _ _⟩
theorem hu64 {k : Nat} {A : Around} (hr : Room k A) : A.units + 64 < cLine := hr.units
def repD {α : Type} (k : Int) (ds : List α) : List α := (List.replicate k.toNat ds).flatten
theorem rep_rep {r : Rho} {n : Nat} {H : Hp} {ds : List D} {xs : List V} (h : RepL S r n H ds xs) : ∀ m : Nat, RepL S r n H (List.replicate m ds).flatten (List.replicate m xs).flatten
  | 0 => RepL.nil
  | m + 1 => by
    rw [List.replicate_succ, List.replicate_succ, List.flatten_cons, List.flatten_cons]
    exact h.append (rep_rep h m)
def mulT (ds : List D) (k : Int) : Option D := if ds.isEmpty = false ∧ 0 ≤ k ∧ k ≤ 1000 ∧ ds.length ≤ 1000 then some (.tup (repD k ds)) else none
theorem mulT_ok {pins : List (Addr × Obj)} {s : Shared} {σ : L2.St} {H : Hp} {x y : V} {v u : Value} {Q : VK} {r : Rho} {st : Sto} {ds : List D} {k : Int} (hK : X.K = S.K) (I : Inv X pins σ H s) (rx : RelV x v) (ry : RelV y u)
    (o : Ok S r st H) (ra : Rep S r st.length H (.tup ds) x) (rb : Rep S r st.length H (.int k) y) (h : EndO S r st.length H Q ((mulT ds k).map fun z => (z, st))) : wpAny (model X.prog X.w) X.A (binaryOp .Mult v u) (EP X pins σ Q) X.xe s := by
  unfold mulT at h
  split at h
  · rename_i hc
    obtain ⟨h1, h2, h3, h4⟩ := hc
    unfold Rep at ra rb
    obtain ⟨a, xs, e1, e2, e3⟩ := ra
    have hl := e3.length
    have hne : xs ≠ [] := fun e => by
      rw [e] at hl
      have : ds = [] := List.eq_nil_of_length_eq_zero hl
      rw [this] at h1
      cases h1
    by_cases k2 : 2 ≤ k
    · refine op_repT pins s σ H x y v u Q I rx ry ⟨a, k, xs, e1, rb, sqT_of e2, hne, k2, h3, by omega, fun p hp => ?_⟩
      obtain ⟨l2, o2, r2'⟩ := new_tup o (rep_rep e3 k.toNat) hp
      exact h r _ _ l2 o2 r2'
    · by_cases k1 : k = 1
      · subst k1
        refine op_repT01 pins s σ H x y v u Q I rx ry ⟨a, 1, xs, e1, rb, sqT_of e2, hne, .inl ⟨rfl, ?_⟩⟩
        refine h r H _ o.refl o ?_
        unfold Rep

        exact ⟨a, xs, rfl, e2, by simpa [repD] using e3⟩
      · have k0 : k = 0 := by omega
        subst k0
        refine op_repT01 pins s σ H x y v u Q I rx ry ⟨a, 0, xs, e1, rb, sqT_of e2, hne, .inr ⟨rfl, fun p hp => ?_⟩⟩
        obtain ⟨l2, o2, r2'⟩ := new_tup (l := []) (xs := []) o RepL.nil hp
        refine h r _ _ l2 o2 ?_
        simpa [repD] using r2'
  · exact h.elim
/-- x * n: ints; a tuple -/
def oMulX : O2 := fun a b st => match a, b with
  | .int i, .int j => oMul (.int i) (.int j) st
  | .tup ds, .int k => (mulT ds k).map fun z => (z, st)
  | _, _ => none
theorem or_mulX (hK : X.K = S.K := by rfl) : OpR X (binaryOp .Mult) (r2 S oMulX) := by
  intro pins s σ H x y v u Q I rx ry h
  obtain ⟨r, st, a, b, o, ra, rb, h⟩ := h
  cases a with
  | int i =>
    cases b with
    | int j => exact or_mul pins s σ H x y v u Q I rx ry ⟨r, st, .int i, .int j, o, ra, rb, h⟩
    | _ => exact h.elim
  | tup ds =>
    cases b with
    | int k => exact mulT_ok hK I rx ry o ra rb h
    | _ => exact h.elim
  | _ => exact h.elim
/-- [..] * n, (..) * n -/
def oRep (cell : Bool) : O2 := fun a b st => match b with
  | .int k => match a with
    | .tup ds => (mulT ds k).map fun z => (z, st)
    | d => match seqW st d with
      | some ds => if small62 k = true ∧ ds.length * k.toNat ≤ LIM then some (mkL cell (repD k ds) st) else none
      | none => none
  | _ => none
theorem or_rep (cell : Bool) (hK : X.K = S.K := by rfl) : OpR X (binaryOp .Mult) (r2 S (oRep cell)) := by
  intro pins s σ H x y v u Q I rx ry h
  obtain ⟨r, st, a, b, o, ra, rb, h⟩ := h
  cases b with
  | int k =>
    have go : EndO S r st.length H Q (match seqW st a with
      | some ds => if small62 k = true ∧ ds.length * k.toNat ≤ LIM then some (mkL cell (repD k ds) st) else none
      | none => none) → wpAny (model X.prog X.w) X.A (binaryOp .Mult v u) (EP X pins σ Q) X.xe s := fun h => by
      cases q : seqW st a with
      | none => rw [q] at h; exact h.elim
      | some ds =>
        rw [q] at h
        simp only at h
        split at h
        · rename_i hc
          obtain ⟨p, xs, e1, e2, e3⟩ := seqW_ok o ra q
          unfold Rep at rb
          have hk := (small62_iff.mp hc.1).1
          refine op_rep pins s σ H x y v u Q I rx ry ⟨p, k, xs, e1, rb, e2, by omega, by omega, by rw [← e3.length]; exact lim_ok hc.2, fun p' hp => ?_⟩
          obtain ⟨r', l2, o2, r2'⟩ := new_mk (cell := cell) o (rep_rep e3 k.toNat) hp
          exact h r' _ _ l2 o2 r2'
        · exact h.elim
    cases a with
    | tup ds => exact mulT_ok hK I rx ry o ra rb h
    | lst ds => exact go h
    | ref j => exact go h
    | _ => exact h.elim
  | _ => exact h.elim
end
end Cw

/-! The promise of a def, for printed texts. -/
namespace Cw
open PySem L2 PyProof.Rows
section
variable {S : Stat} {P : Program} {w : World} {K : PySem.W.Frag} {mg : Str → Option Value} {base : Heap}
theorem def_ok2 (hx0 : S.ex = none) {x qual : Str} {st : Stmt} {f : Addr} {fd : FuncData} {N ps : List Str} {k ar n : Nat} (keep : Bool) {fb : SM} {mf : List D → Sto → Res D} (F : L2.Fun K x qual st f fd) (sc : FnScope N ps (defScope st)) (hm : mf = runF keep n fb) (hN : N.length = n) (hp : ps.length = ar)
    (hb : ∀ (cdv : Value) (A : Around) (outer : List Env) (s : Shared) (H : Hp) (E : XK), Room k (cxOf (L2.CX P w) P w K mg base N qual (defScope st) f cdv A outer s H E).A →
      Takes (cxOf (L2.CX P w) P w K mg base N qual (defScope st) f cdv A outer s H E) (WC E) →
      PassesOwn (model P w) (cxOf (L2.CX P w) P w K mg base N qual (defScope st) f cdv A outer s H E).A (cxOf (L2.CX P w) P w K mg base N qual (defScope st) f cdv A outer s H E).env (cxOf (L2.CX P w) P w K mg base N qual (defScope st) f cdv A outer s H E).xe →
      PSs (cxOf (L2.CX P w) P w K mg base N qual (defScope st) f cdv A outer s H E) (defBody st) (rdS S (WC E) fb)) :
    FnOk P w K mg base (L2.CX P w) (k + 1) f fd ps (spM S ar mf) := by
  subst hm hN hp
  exact def_ok hx0 keep F sc fun cdv A outer s H E hr => hb cdv A outer s H E hr
    (takes_of (X := cxOf (L2.CX P w) P w K mg base N qual (defScope st) f cdv A outer s H E) rfl rfl rfl rfl) (passes_of (X := cxOf (L2.CX P w) P w K mg base N qual (defScope st) f cdv A outer s H E) rfl)
theorem bad_ok2 {ar k : Nat} {f : Addr} {fd : FuncData} {ps : List Str} (hp : ps.length = ar) {mf : List D → Sto → Res D} (hm : mf = fun _ _ => .bad) : FnOk P w K mg base (L2.CX P w) k f fd ps (spM S ar mf) := by
  subst hp hm
  exact bad_ok
end
end Cw

/-! Comprehensions within comprehensions. -/
namespace Cw
open PySem L2 PyProof.Rows
theorem lookup_cap {env : Env} : ∀ {names : List (Str × NameKind)} {x : Str}, names.lookup x = some .cell ∨ names.lookup x = some .free →
    (names.map fun (n, k) => if (k == NameKind.free && env.scope.kind == .function && env.kindOf n == some .cell) then (n, NameKind.cell) else (n, k)).lookup x = some .cell ∨
    (names.map fun (n, k) => if (k == NameKind.free && env.scope.kind == .function && env.kindOf n == some .cell) then (n, NameKind.cell) else (n, k)).lookup x = some .free
  | [], _, h => by simp at h
  | (n, k) :: r, x, h => by
    have ih := @lookup_cap env r x
    show List.lookup x ((if (k == NameKind.free && env.scope.kind == .function && env.kindOf n == some .cell) = true then (n, NameKind.cell) else (n, k)) :: _) = _ ∨ List.lookup x ((if (k == NameKind.free && env.scope.kind == .function && env.kindOf n == some .cell) = true then (n, NameKind.cell) else (n, k)) :: _) = _
    cases hx : x == n with
    | true =>
      simp only [List.lookup_cons, hx] at h
      by_cases hc : (k == NameKind.free && env.scope.kind == .function && env.kindOf n == some .cell) = true
      · rw [if_pos hc]; simp [List.lookup_cons, hx]
      · rw [if_neg hc]; simp only [List.lookup_cons, hx]; exact h
    | false =>
      simp only [List.lookup_cons, hx] at h
      by_cases hc : (k == NameKind.free && env.scope.kind == .function && env.kindOf n == some .cell) = true
      · rw [if_pos hc]; simp only [List.lookup_cons, hx]; exact ih h
      · rw [if_neg hc]; simp only [List.lookup_cons, hx]; exact ih h
theorem blk_relabel {N : List Str} {sc scope : Scope} {own : List (Str × Nat)} {env : Env} (h : BlkOk N sc scope own) : BlkOk N (relabel sc env) scope own :=
  ⟨h.kind, h.uniq, h.ix, fun y hy e => lookup_cap (h.free y hy e), h.own⟩
end Cw

/-! Dicts with keys numbers and texts, as live cells. -/
namespace Cw
open PySem L2 PyProof.Rows
def keyD : D → Option Key
  | .int i => some (.inl i)
  | .str x => some (.inr x)
  | _ => none
section
variable {S : Stat} {r : Rho} {n : Nat} {H : Hp}
theorem keyD_ok {d : D} {v : V} {k : Key} (hr : Rep S r n H d v) (e : keyD d = some k) : v = kV k := by
  cases d <;> simp [keyD] at e <;> subst e <;> unfold Rep at hr <;> exact hr
def lookK : List Key → List D → Key → Option D
  | k :: ks, d :: ds, a => if k = a then some d else lookK ks ds a
  | _, _, _ => none
theorem lookK_ok : ∀ {ks : List Key} {ds : List D} {kvs : List (Key × V)} {a : Key} {d : D}, kvs.map (·.1) = ks → RepL S r n H ds (kvs.map (·.2)) → lookK ks ds a = some d → ∃ v, valV kvs a = some v ∧ Rep S r n H d v
  | [], _, _, _, _, _, _, e => by simp [lookK] at e
  | _ :: _, [], _, _, _, _, _, e => by simp [lookK] at e
  | k :: ks, d :: ds, [], a, x, h1, h2, e => by simp at h1
  | k :: ks, d :: ds, (f, v) :: fs, a, x, h1, h2, e => by
    simp only [List.map_cons, List.cons.injEq] at h1
    obtain ⟨g1, g2⟩ := RepL.uncons h2
    unfold lookK at e
    by_cases hk : k = a
    · rw [if_pos hk] at e
      cases e
      exact ⟨v, by rw [valV_pos (by rw [← hk]; exact h1.1)], g1⟩
    · rw [if_neg hk] at e
      obtain ⟨w, e1, e2⟩ := lookK_ok h1.2 g2 e
      exact ⟨w, by rw [valV_neg (by rw [h1.1]; exact hk)]; exact e1, e2⟩
/-- in their place -/
def replK : List Key → List D → Key → D → List D
  | k :: ks, d :: ds, a, x => (if k = a then x else d) :: replK ks ds a x
  | _, _, _, _ => []
def putL (ks : List Key) (ds : List D) (a : Key) (x : D) : List Key × List D := if (ks.any fun k => decide (k = a)) = true then (ks, replK ks ds a x) else (ks ++ [a], ds ++ [x])
theorem replK_ok {a : Key} {x : D} {v : V} (hx : Rep S r n H x v) : ∀ {ks : List Key} {ds : List D} {kvs : List (Key × V)}, kvs.map (·.1) = ks → RepL S r n H ds (kvs.map (·.2)) →
    (kvs.map fun kv => if kv.1 = a then (kv.1, v) else kv).map (·.1) = ks ∧ RepL S r n H (replK ks ds a x) ((kvs.map fun kv => if kv.1 = a then (kv.1, v) else kv).map (·.2))
  | _, ds, [], h1, h2 => by
    subst h1
    exact ⟨rfl, by
      unfold replK
      exact RepL.nil⟩
  | _, [], (f, w) :: kvs, h1, h2 => by
    simp only [List.map_cons] at h2
    unfold RepL at h2
    cases h2
  | _, d :: ds, (f, w) :: kvs, h1, h2 => by
    subst h1
    simp only [List.map_cons] at h2 ⊢
    obtain ⟨g1, g2⟩ := RepL.uncons h2
    obtain ⟨i1, i2⟩ := replK_ok hx (a := a) rfl g2
    unfold replK
    by_cases hk : f = a
    · rw [if_pos hk, if_pos hk]
      exact ⟨by rw [i1], RepL.cons hx i2⟩
    · rw [if_neg hk, if_neg hk]
      exact ⟨by rw [i1], RepL.cons g1 i2⟩
theorem putL_ok {a : Key} {x : D} {v : V} (hx : Rep S r n H x v) {ks : List Key} {ds : List D} {kvs : List (Key × V)} (h1 : kvs.map (·.1) = ks) (h2 : RepL S r n H ds (kvs.map (·.2))) :
    (putK kvs a v).map (·.1) = (putL ks ds a x).1 ∧ RepL S r n H (putL ks ds a x).2 ((putK kvs a v).map (·.2)) := by
  have e : (kvs.any fun kv => decide (kv.1 = a)) = (ks.any fun k => decide (k = a)) := by
    rw [← h1, List.any_map]
    rfl
  unfold putK putL
  rw [e]
  by_cases hk : (ks.any fun k => decide (k = a)) = true
  · rw [if_pos hk, if_pos hk]
    exact replK_ok hx h1 h2
  · rw [if_neg hk, if_neg hk]
    refine ⟨by simp [h1], ?_⟩
    rw [List.map_append]
    exact h2.append (RepL.cons hx RepL.nil)
end
section
variable {S : Stat} {W : WX} {X : Cx}
theorem hu1 {k : Nat} {A : Around} (h : Room k A) : A.units + 1 < cLine := by
  have := h.un
  omega
/-- d["k"] -/
def mGet (fo fi : EM D) : EM D := fun env st => (fo env st).bind fun d st1 => (fi env st1).bind fun y st2 => match d with
  | .ref n => match st2[n]? with
    | some (.dK ks ds) => match keyD y with
      | some k => match lookK ks ds k with
        | some x => .ok x st2
        | none => .bad
      | none => .bad
    | _ => .bad
  | _ => .bad
theorem e_get {o i : Expr} {fo fi : EM D} {pos : Pos} (hu : X.A.units + 1 < cLine) (ho : PE X o (rdE S W fo)) (hi : PE X i (rdE S W fi)) (hs : NoSl i := by intro _ _; rfl) : PE X (.Subscript o i pos) (rdE S W (mGet fo fi)) := PE.weak (pe_dget hu ho hi hs) fun σ H Q h => by
  obtain ⟨r, env, st, o, eo, h⟩ := h
  refine ⟨r, env, st, o, eo, End.bind h fun d st1 r1 H1 x l1 o1 rx h1 => ⟨r1, env, st1, o1, eo.mono l1, End.bind h1 fun y st2 r2 H2 v l2 o2 ry h2 => ?_⟩⟩
  cases d with
  | ref n =>
    simp only at h2
    cases q : st2[n]? with
    | none => rw [q] at h2; exact h2.elim
    | some c =>
      cases c with
      | dK ks ds =>
        rw [q] at h2
        simp only at h2
        cases q2 : keyD y with
        | none => rw [q2] at h2; exact h2.elim
        | some k =>
          rw [q2] at h2
          simp only at h2
          cases q3 : lookK ks ds k with
          | none => rw [q3] at h2; exact h2.elim
          | some z =>
            rw [q3] at h2
            have rx2 := Rep.mono l2 _ _ rx
            unfold Rep at rx2
            obtain ⟨kvs, e1, e2, e3⟩ := o2.cel n _ q
            obtain ⟨w, e4, e5⟩ := lookK_ok e2 e3 q3
            have ey := keyD_ok ry q2
            subst ey
            refine ⟨r2 n, w, rx2.2, ?_, h2 r2 H2 w o2.refl o2 e5⟩
            have := DGet.k (k := k) e1
            rw [e4] at this
            exact this
      | _ => rw [q] at h2; exact h2.elim
  | _ => exact h2.elim
/-- d["k"] = v -/
def sPut (fo fi fv : EM D) : SM := fun env st => (fv env st).toS env fun x st1 => (fo env st1).toS env fun d st2 => (fi env st2).toS env fun y st3 => match d with
  | .ref n => match st3[n]? with
    | some (.dK ks ds) => match keyD y with
      | some k => if ks.length < LIM then .nx env (st3.set n (.dK (putL ks ds k x).1 (putL ks ds k x).2)) else .bad
      | none => .bad
    | _ => .bad
  | _ => .bad
theorem s_put {o i value : Expr} {fo fi fv : EM D} {pos pos' : Pos} (hu : X.A.units + 1 < cLine) (ho : PE X o (rdE S W fo)) (hi : PE X i (rdE S W fi)) (hv : PE X value (rdE S W fv)) (hs : swapsWith value (some (.Subscript o i pos')) pos.line X.env = pure false := by rfl) :
    PS X (.Assign [.Subscript o i pos'] value pos) (rdS S W (sPut fo fi fv)) := PS.weak (ps_dput hu ho hi hv hs) fun σ H E h => by
  obtain ⟨r, env, st, o, eo, h⟩ := h
  refine ⟨r, env, st, o, eo, EndS.bind h eo fun x st1 r1 H1 vx l1 o1 rx h1 => ⟨r1, env, st1, o1, eo.mono l1, EndS.bind h1 (eo.mono l1) fun d st2 r2 H2 vd l2 o2 rd2 h2 => ⟨r2, env, st2, o2, (eo.mono l1).mono l2, EndS.bind h2 ((eo.mono l1).mono l2) fun y st3 r3 H3 vy l3 o3 ry h3 => ?_⟩⟩⟩
  cases d with
  | ref n =>
    simp only at h3
    cases q : st3[n]? with
    | none => rw [q] at h3; exact h3.elim
    | some c =>
      cases c with
      | dK ks ds =>
        rw [q] at h3
        simp only at h3
        cases q2 : keyD y with
        | none => rw [q2] at h3; exact h3.elim
        | some k =>
          rw [q2] at h3
          simp only at h3
          split at h3
          · rename_i hl
            have rd3 := Rep.mono l3 _ _ rd2
            have rx3 := Rep.mono l3 _ _ (Rep.mono l2 _ _ rx)
            unfold Rep at rd3
            obtain ⟨kvs, e1, e2, e3⟩ := o3.cel n _ q
            have ey := keyD_ok ry q2
            subst ey
            have hlen : kvs.length < sizeLine := by
              have := congrArg List.length e2
              rw [List.length_map] at this
              rw [this]
              exact lim_lt hl
            refine ⟨r3 n, upd H3 (r3 n) (.dK (putK kvs k vx)), rd3.2, DPut.k e1 hlen, ?_⟩
            obtain ⟨l4, o4⟩ := o3.write (k := n) (u := .dK (putK kvs k vx)) (c := .dK (putL ks ds k x).1 (putL ks ds k x).2) rd3.1 trivial fun H' l' e' => by
              obtain ⟨p1, p2⟩ := putL_ok (a := k) (Rep.mono l' _ _ rx3) e2 (RepL.mono l' _ _ e3)
              exact ⟨_, e', p1, p2⟩
            exact h3 r3 _ _ l4 o4 ((((eo.mono l1).mono l2).mono l3).mono l4)
          · exact h3.elim
      | _ => rw [q] at h3; exact h3.elim
  | _ => exact h3.elim
/-- the pairs of a display -/
structure DD (S : Stat) (W : WX) (X : Cx) (pos : Pos) (keys : List (Option Expr)) (values : List Expr) (ks : List Key) (g : EM (List D)) : Prop where
  ex : ∃ trs, PPs X pos keys values trs ∧ ∀ σ H (Q : List (V × V) → Hp → Prop), rdA S W g σ H (fun vs H' => Q ((ks.map kV).zip vs) H' ) → tPairs trs σ H Q
theorem dd_nil {pos : Pos} : DD S W X pos [] [] [] mNil := ⟨[], pps_nil, fun σ H Q h => by
  obtain ⟨r, env, st, o, eo, h⟩ := h
  exact h r H [] o.refl o RepL.nil⟩
theorem dd_cons {pos : Pos} {k v : Expr} {keys : List (Option Expr)} {vs : List Expr} {key : Key} {ks : List Key} {f : EM D} {g : EM (List D)} (hk : PE X k (fun σ H Q => Q (kV key) H)) (hv : PE X v (rdE S W f)) (hr : DD S W X pos keys vs ks g) : DD S W X pos (some k :: keys) (v :: vs) (key :: ks) (mCons f g) := by
  obtain ⟨trs, h1, h2⟩ := hr.ex
  refine ⟨_, pps_cons hk hv h1, fun σ H Q h => ?_⟩
  obtain ⟨r, env, st, o, eo, h⟩ := h
  show rdE S W f σ H fun y H2 => tPairs trs σ H2 fun ps H3 => Q ((kV key, y) :: ps) H3
  refine ⟨r, env, st, o, eo, End.bind h fun c st1 r1 H1 x l1 o1 rx h1' => h2 σ H1 _ ⟨r1, env, st1, o1, eo.mono l1, End.bind h1' fun cs st2 r2 H2 xs l2 o2 rxs h2' => ?_⟩⟩
  exact h2' r2 H2 _ o2.refl o2 (RepL.cons (Rep.mono l2 _ _ rx) rxs)
theorem dk_str {x : Str} {k : Nat} {pos : Pos} : PE X (.Constant (.str x) k pos) (fun σ H Q => Q (kV (.inr x)) H) := pe_str
theorem dk_int {x : Int} {k : Nat} {pos : Pos} : PE X (.Constant (.int x) k pos) (fun σ H Q => Q (kV (.inl x)) H) := pe_int
/-- {k: v, ..}: a live cell, which stands while the values are made -/
def mDict (ks : List Key) (g : EM (List D)) : EM D := fun env st => (g env (st ++ [.dK [] []])).bind fun ds st1 => match st1[st.length]? with
  | some (.dK [] []) => if ds.length = ks.length then .ok (.ref st.length) (st1.set st.length (.dK ks ds)) else .bad
  | _ => .bad
theorem merge_nodup : ∀ (more kvs : List (Key × V)), (kvs.map (·.1) ++ more.map (·.1)).Nodup → mergeK kvs more = kvs ++ more
  | [], kvs, _ => by simp [mergeK]
  | p :: more, kvs, h => by
    have hnot : valV kvs p.1 = none := by
      cases q : valV kvs p.1 with
      | none => rfl
      | some x =>
        have ha := valV_any p.1 kvs
        rw [q] at ha
        obtain ⟨kv, hkv, he⟩ := List.any_eq_true.mp (by rw [ha]; rfl)
        have he : kv.1 = p.1 := of_decide_eq_true he
        rw [List.map_cons] at h
        have hd := (List.nodup_append.mp h).2.2
        exact absurd he (hd kv.1 (List.mem_map_of_mem hkv) p.1 (List.mem_cons_self ..))
    show mergeK (putK kvs p.1 p.2) more = _
    rw [putK_new p.2 hnot, merge_nodup more (kvs ++ [(p.1, p.2)]) (by simpa using h)]
    simp
theorem e_dict {pos : Pos} {keys : List (Option Expr)} {values : List Expr} {ks : List Key} {g : EM (List D)} (h : DD S W X pos keys values ks g) (hn : ks.Nodup := by decide) (hl15 : ks.length ≤ 15 := by decide) (hall : keys.all (·.isSome) = true := by rfl) (hl : keys.length = values.length := by rfl) (h0 : keys ≠ [] := by intro z; cases z)
    (h15 : keys.length ≤ 15 := by decide) : PE X (.Dict keys values pos) (rdE S W (mDict ks g)) := by
  obtain ⟨trs, h1, h2⟩ := h.ex
  refine PE.weak (pe_disp h1 hall hl h0 h15) fun σ H Q h => ?_
  obtain ⟨r, env, st, o, eo, h⟩ := h
  intro p hp
  obtain ⟨l0, o0⟩ := o.alloc (u := .dK []) (c := .dK [] []) hp fun r' n' H' l' e => ⟨[], e, rfl, RepL.nil⟩
  refine h2 σ _ _ ⟨_, env, _, o0, eo.mono l0, End.bind (End.le l0 h) fun ds st1 r1 H1 vs l1 o1 rds hb => ?_⟩
  cases q : st1[st.length]? with
  | none => rw [q] at hb; exact hb.elim
  | some c =>
    rw [q] at hb
    match c, q, hb with
    | .dK [] [], q, hb =>
      simp only at hb
      split at hb
      · rename_i hlen
        obtain ⟨kvs0, e1, e2, _⟩ := o1.cel st.length _ q
        have hr1 : r1 st.length = p := by
          rw [l1.eq st.length (by simp), ext_same]
        rw [hr1] at e1
        have : kvs0 = [] := by simpa using e2
        subst this
        have hvl : vs.length = ks.length := by rw [← rds.length]; exact hlen
        have hk1 : (ks.zip vs).map (·.1) = ks := List.map_fst_zip (by omega)
        have hk2 : (ks.zip vs).map (·.2) = vs := List.map_snd_zip (by omega)
        refine ⟨e1, ks.zip vs, ?_, ?_, ?_⟩
        · rw [List.zip_map_left]
          exact List.map_congr_left fun a _ => rfl
        · rw [List.length_zip]
          omega
        · rw [merge_nodup _ _ (by simpa [hk1] using hn), List.nil_append]
          have hst := (List.getElem?_eq_some_iff.mp q).1
          obtain ⟨l2, o2⟩ := o1.write (k := st.length) (u := .dK (ks.zip vs)) (c := .dK ks ds) hst trivial fun H' l' e' => ⟨_, e', hk1, by rw [hk2]; exact RepL.mono l' _ _ rds⟩
          rw [hr1] at l2 o2
          refine hb r1 _ _ l2 o2 ?_
          unfold Rep
          exact ⟨by rw [List.length_set]; exact hst, by rw [hr1]⟩
      · exact hb.elim
    | .dK (_ :: _) _, q, hb => exact hb.elim
    | .dK [] (_ :: _), q, hb => exact hb.elim
    | .lst _, q, hb => exact hb.elim
    | .ins _ _ _, q, hb => exact hb.elim
    | .dT _ _, q, hb => exact hb.elim
/-! ### texts joined -/
def strsOf : List D → Option (List Str)
  | [] => some []
  | .str x :: r => match strsOf r with
    | some l => some (x :: l)
    | none => none
  | _ :: _ => none
theorem strs_rep {r : Rho} {n : Nat} {H : Hp} : ∀ {ds : List D} {ys : List Str} {xs : List V}, RepL S r n H ds xs → strsOf ds = some ys → xs = ys.map V.str
  | [], ys, xs, h, e => by
    unfold RepL at h
    unfold strsOf at e
    cases e
    exact h
  | .str b :: ds, ys, xs, h, e => by
    unfold RepL at h
    obtain ⟨v, w, rfl, h1, h2⟩ := h
    unfold strsOf at e
    cases q : strsOf ds with
    | none => rw [q] at e; cases e
    | some l =>
      rw [q] at e
      cases e
      unfold Rep at h1
      rw [strs_rep h2 q, h1]
      rfl
  | .non :: _, _, _, _, e => by unfold strsOf at e; cases e
  | .int _ :: _, _, _, _, e => by unfold strsOf at e; cases e
  | .bl _ :: _, _, _, _, e => by unfold strsOf at e; cases e
  | .tup _ :: _, _, _, _, e => by unfold strsOf at e; cases e
  | .lst _ :: _, _, _, _, e => by unfold strsOf at e; cases e
  | .scr _ :: _, _, _, _, e => by unfold strsOf at e; cases e
  | .obj _ _ _ :: _, _, _, _, e => by unfold strsOf at e; cases e
  | .ref _ :: _, _, _, _, e => by unfold strsOf at e; cases e
  | .exn _ _ :: _, _, _, _, e => by unfold strsOf at e; cases e
def oJoin : OM := fun d as st => match d, as with
  | .str a, [y] => match seqR st y with
    | some ds => match strsOf ds with
      | some ys => if (ys.map (·.length)).sum + ys.length * a.length ≤ LIM then some (.str (Txt.join a ys), st) else none
      | none => none
    | none => none
  | _, _ => none
theorem m_join (hK : X.K = S.K := by rfl) : MtR X "str.join" (rM S oJoin) := MtR.weak mt_join fun x xs H Q h => by
  obtain ⟨r, st, d, ds, o, rd, rds, h⟩ := h
  match d, ds, rds, h with
  | .str a, [y], rds, h =>
    unfold RepL at rds
    obtain ⟨v, w, rfl, r1, r2⟩ := rds
    unfold RepL at r2
    subst r2
    unfold Rep at rd
    subst rd
    simp only [oJoin] at h
    cases q : seqR st y with
    | none => rw [q] at h; exact h.elim
    | some zs =>
      rw [q] at h
      simp only at h
      cases q2 : strsOf zs with
      | none => rw [q2] at h; exact h.elim
      | some ys =>
        rw [q2] at h
        simp only at h
        split at h
        · rename_i hl
          obtain ⟨p, vs, rfl, e2, e3⟩ := seqR_ok o r1 q
          have e4 := strs_rep e3 q2
          subst e4
          refine ⟨a, p, ys, rfl, rfl, .inl (by rw [hK]; exact e2), hl, ?_⟩
          exact h r H (.str _) o.refl o (by unfold Rep; rfl)
        · exact h.elim
  | .non, _, _, h => exact h.elim
  | .int _, _, _, h => exact h.elim
  | .bl _, _, _, h => exact h.elim
  | .tup _, _, _, h => exact h.elim
  | .lst _, _, _, h => exact h.elim
  | .scr _, _, _, h => exact h.elim
  | .obj _ _ _, _, _, h => exact h.elim
  | .ref _, _, _, h => exact h.elim
  | .exn _ _, _, _, h => exact h.elim
  | .str _, [], _, h => exact h.elim
  | .str _, _ :: _ :: _, _, h => exact h.elim
end
end Cw

/-! isinstance of the own error that a suite holds. -/
namespace Cw
open PySem L2 PyProof.Rows
/-- what is asked: a class, as a value that stands -/
def rIsX (K : PySem.W.Frag) (C a dx : Addr) : List V → Hp → VK → Prop := fun xs H Q => ∃ (c : V) (cv : Value) (b : Bool) (fs : List (Str × V)), xs = [.ref a, c] ∧ (∀ u, RelV c u → u = cv) ∧ PySem.W.kitOne K (.ref C) cv = some b ∧ H dx = some (.xd fs) ∧ Q (.bl b) H
theorem call_isX {X : Cx} {a C dx : Addr} {oe : Obj} {pn : List (Addr × Obj)} (T : ExcC X.K C) (hz : Zc (.ref C) (some dx) oe) (hf : ∃ vs, oe.data = .fields vs) : CallR (X.suite a ((a, oe) :: pn)) (.builtin "isinstance") (rIsX X.K C a dx) := by
  intro pins s σ H xs us Q I r h
  obtain ⟨c, cv, b, fs, rfl, hcv, e, hd, q⟩ := h
  cases r with
  | cons rx rr =>
    cases rr with
    | cons rt rr =>
      cases rr
      cases rx
      have ec := hcv _ rt
      subst ec
      have hget := (I.pin (a, oe) (List.mem_append_left _ List.mem_cons_self)).1
      obtain ⟨vs, hv⟩ := hf
      obtain ⟨mA, hns, _⟩ : ObjOk X.prog X.w H s.heap dx (.xd fs) := I.hok dx _ hd
      obtain ⟨od, ho, _⟩ := lookIn_ns hns
      have hno : PySem.W.notCls oe = true := by
        unfold PySem.W.notCls
        rw [hv]
      have J : PySem.W.InstAt s.heap a oe C (some od) := ⟨hget, hz.1, hno, by rw [hz.2]; exact ho⟩
      have hcl : (PySem.W.clsIn X.K C).isSome = true := by
        obtain ⟨cd, hc, _⟩ := PySem.W.any_some T.hd
        rw [hc]
        rfl
      exact PySem.W.kia_one (PySem.W.kitx_exc hcl T.hg T.hk T.hs T.ha T.hn T.ht T.hm) I.kIn J e (fun z => nomatch z) fun tk => ⟨.bl b, H, I.kept (t' := tk) fun _ _ z => z, rfl, q⟩
/-- isinstance(e, T), by the number of the class -/
def oIsX (tab : Nat → Option Bool) : O1 := fun d st => match d with
  | .exn c _ => match tab c with
    | some b => some (.bl b, st)
    | none => none
  | _ => none
section
variable {S : Stat} {W : WX} {X : Cx}
/-- a class by its name -/
structure NmV (X : Cx) (x : Str) (v : V) (u : Value) : Prop where
  pe : ∀ pos, PE X (.Name x pos) (tC v)
  is : ∀ w, RelV v w → w = u
theorem nm_own {x : Str} {C : Addr} (hm : X.mg x = some (.ref C)) (hg : Gl X x := by rfl) (hd : (x == ("__debug__" : Str)) = false := by decide) : NmV X x (.ref C) (.ref C) := ⟨fun pos => pe_glob hg hm rfl hd, fun w h => h⟩
theorem nm_ty {x : Str} {T : String} (hm : X.mg x = none) (hv : bootBuiltins x = some (.type T) := by decide +kernel) (hg : Gl X x := by rfl) (hn : x ≠ "__name__" := by decide) (hd : (x == ("__debug__" : Str)) = false := by decide) : NmV X x (.ty T) (.type T) := ⟨fun pos => pe_bltn hg hm hv rfl hn hd, fun w h => h⟩
theorem e_isx {a dx : Addr} {oe : Obj} {cls u : Value} {vt : V} {pn : List (Addr × Obj)} {tab : Nat → Option Bool} {e : Expr} {fe : EM D} {p p2 pos : Pos} {x : Str} (hz : Zc cls (some dx) oe) (hf : ∃ vs, oe.data = .fields vs)
    (ht : ∀ c b, tab c = some b → ExcC X.K (S.CA c) ∧ PySem.W.kitOne X.K (.ref (S.CA c)) u = some b) (nv : NmV (X.suite a ((a, oe) :: pn)) x vt u) (he : PE (X.suite a ((a, oe) :: pn)) e (rdE (withX S a dx cls) W fe)) (hm : X.mg "isinstance" = none)
    (hg : Gl (X.suite a ((a, oe) :: pn)) "isinstance" := by rfl)
    (h1 : starEach [e, .Name x p2] (X.suite a ((a, oe) :: pn)).env = (false, eval e (X.suite a ((a, oe) :: pn)).env) :: starEach [.Name x p2] (X.suite a ((a, oe) :: pn)).env := by rfl) (h2 : starEach [.Name x p2] (X.suite a ((a, oe) :: pn)).env = (false, eval (.Name x p2) (X.suite a ((a, oe) :: pn)).env) :: starEach [] (X.suite a ((a, oe) :: pn)).env := by rfl)
    (hpl : (backTo pos (starEach [.Name x p2] (X.suite a ((a, oe) :: pn)).env)).any (·.1) = false := by rfl) :
    PE (X.suite a ((a, oe) :: pn)) (.Call (.Name "isinstance" p) [e, .Name x p2] [] pos) (rdE (withX S a dx cls) W (m1 (oIsX tab) fe)) := by
  by_cases hC : ∃ c b, cls = .ref (S.CA c) ∧ tab c = some b
  · obtain ⟨c0, b0, rfl, hb0⟩ := hC
    obtain ⟨T, _⟩ := ht c0 b0 hb0
    refine PE.weak (pe_callB (call_isX T hz hf) hg hm (by decide +kernel) (pa_cons he (pa_cons (nv.pe p2) pa_nil h2) h1) (by decide) (by decide) h1 hpl) fun σ H Q h => ?_
    obtain ⟨r, env, st, o, eo, h⟩ := h
    refine ⟨r, env, st, o, eo, End.bind h fun d st1 r1 H1 v l1 o1 rx h1 => ?_⟩
    have h2 := h1.lift
    unfold oIsX at h2
    cases d with
    | exn c y =>
      simp only at h2
      cases q : tab c with
      | none => rw [q] at h2; exact h2.elim
      | some b =>
        rw [q] at h2
        unfold Rep at rx
        obtain ⟨a', dx', w, e1, e2, e3, _⟩ := rx
        have e1' : some (a, dx, Value.ref (S.CA c0)) = some (a', dx', Value.ref (S.CA c)) := e1
        injection e1' with e1'
        injection e1' with g1 e1'
        injection e1' with g2 g3
        injection g3 with g3
        subst g1 g2
        have hk := (ht c b q).2
        rw [← g3] at hk
        exact ⟨vt, u, b, _, by rw [e2], nv.is, hk, e3, end_ok o1 h2 rep_bl⟩
    | _ => exact h2.elim
  · have no : CallR (X.suite a ((a, oe) :: pn)) (.builtin "isinstance") (fun _ _ _ => False) := fun _ _ _ _ _ _ _ _ _ h => h.elim
    refine PE.weak (pe_callB no hg hm (by decide +kernel) (pa_cons he (pa_cons (nv.pe p2) pa_nil h2) h1) (by decide) (by decide) h1 hpl) fun σ H Q h => ?_
    obtain ⟨r, env, st, o, eo, h⟩ := h
    refine ⟨r, env, st, o, eo, End.bind h fun d st1 r1 H1 v l1 o1 rx h1 => ?_⟩
    have h2 := h1.lift
    unfold oIsX at h2
    cases d with
    | exn c y =>
      simp only at h2
      cases q : tab c with
      | none => rw [q] at h2; exact h2.elim
      | some b =>
        unfold Rep at rx
        obtain ⟨a', dx', w, e1, _⟩ := rx
        have e1' : some (a, dx, cls) = some (a', dx', Value.ref (S.CA c)) := e1
        injection e1' with e1'
        injection e1' with _ e1'
        injection e1' with _ g3
        exact hC ⟨c, b, g3, q⟩
    | _ => exact h2.elim
end
end Cw
namespace Cw
open PySem L2 PyProof.Rows
section
variable {S : Stat} {W : WX} {X : Cx}
/-- the attribute f that classes of these numbers have -/
def mAtL (cs : List Nat) (fa : EM D) : EM D := fun env st => (fa env st).bind fun a st1 => match a with
  | .exn c x => if cs.contains c = true then .ok x st1 else .bad
  | _ => .bad
theorem e_atL {a dx : Addr} {cs : List Nat} {oe : Obj} {cls : Value} {pn : List (Addr × Obj)} {e : Expr} {fa : EM D} {pos : Pos} {f : Str} (hT : ∀ c ∈ cs, XfC X.K (S.CA c) ∧ PySem.W.findIn X.K (.ref (S.CA c)) f = some none ∧ S.EN c = f)
    (hz : Zc cls (some dx) oe) (hf : ∃ vs, oe.data = .fields vs) (he : PE (X.suite a ((a, oe) :: pn)) e (rdE (withX S a dx cls) W fa)) (hb : attributeBase e f X.env (eval e X.env) = eval e X.env := by rfl) :
    PE (X.suite a ((a, oe) :: pn)) (.Attribute e f pos) (rdE (withX S a dx cls) W (mAtL cs fa)) := by
  by_cases hC : ∃ c ∈ cs, cls = .ref (S.CA c)
  · obtain ⟨c0, hc0, rfl⟩ := hC
    obtain ⟨T, hno, _⟩ := hT c0 hc0
    refine PE.weak (pe_xf T hno hz hf he hb) fun σ H Q h => ?_
    obtain ⟨r, env, st, o, eo, h⟩ := h
    refine ⟨r, env, st, o, eo, End.bind h fun d st1 r1 H1 v l1 o1 rx h1 => ?_⟩
    cases d with
    | exn c x =>
      simp only at h1
      by_cases hc : cs.contains c = true
      · rw [if_pos hc] at h1
        have hm : c ∈ cs := by simpa using hc
        have hE := (hT c hm).2.2
        unfold Rep at rx
        obtain ⟨a', dx', w, e1, e2, e3, e4⟩ := rx
        have e1' : some (a, dx, Value.ref (S.CA c0)) = some (a', dx', Value.ref (S.CA c)) := e1
        injection e1' with e1'
        injection e1' with g1 e1'
        injection e1' with g2 g3
        subst g1 g2
        refine ⟨e2, rfl, dx, [(f, w)], w, rfl, ?_, by simp [List.lookup], h1 r1 H1 w o1.refl o1 e4⟩
        rw [e3]
        exact congrArg (fun z => some (HO.xd [(z, w)])) hE
      · rw [if_neg hc] at h1; exact h1.elim
    | _ => exact h1.elim
  · refine ⟨fun pins s σ H Q I h => ?_⟩
    have h' : rdE (withX S a dx cls) W fa σ H fun _ _ => False := by
      obtain ⟨r, env, st, o, eo, h⟩ := h
      refine ⟨r, env, st, o, eo, End.bind h fun d st1 r1 H1 v l1 o1 rx h1 => ?_⟩
      cases d with
      | exn c x =>
        simp only at h1
        by_cases hc : cs.contains c = true
        · unfold Rep at rx
          obtain ⟨a', dx', w, e1, _⟩ := rx
          have e1' : some (a, dx, cls) = some (a', dx', Value.ref (S.CA c)) := e1
          injection e1' with e1'
          injection e1' with _ e1'
          injection e1' with _ g3
          exact hC ⟨c, by simpa using hc, g3⟩
        · rw [if_neg hc] at h1; exact h1.elim
      | _ => exact h1.elim
    refine attr_of hb (thn (he.run pins s σ H _ I h') fun u s1 hh => ?_)
    obtain ⟨x, H1, I1, rx, z⟩ := hh
    exact z.elim
end
end Cw

/-! Calls within an except suite: a def's promise where an error is held (nothing is raised, no loop ends there). -/
namespace Cw
open PySem L2 PyProof.Rows
abbrev RoomQ := L2H.RoomH
structure FnQ (P : Program) (w : World) (K : PySem.W.Frag) (mg : Str → Option Value) (base : Heap) (CX : CXT) (k : Nat) (f : Addr) (fd : FuncData) (ps : List Str) (sp : Sp) : Prop where
  len : ∀ vs H Q E, sp vs H Q E → vs.length = ps.length
  run : ∀ (A : Around) (outer : List Env) (s : Shared) (H : Hp) (args : Args) (us : List Value) (vs : List V) (Q : VK) (E : XK), RoomQ k A → Env0 P w K mg base A outer s H → BindsTo s fd args (ps.zip us) → Vals vs us → sp vs H Q E →
    codeAny (model P w) A (.call (.ref f) args) (CR CX outer P w H s Q E) s
def cxQ (CX : CXT) (P : Program) (w : World) (K : PySem.W.Frag) (mg : Str → Option Value) (base : Heap) (N : List Str) (qual : Str) (scope : Scope) (f : Addr) (cd : Value) (A : Around) (outer : List Env) (s : Shared) (H : Hp) (E : XK) : Cx :=
  { cxOf CX P w K mg base N qual scope f cd A outer s H E with calm := false }
theorem inv_startQ {CX : CXT} {P : Program} {w : World} {K : PySem.W.Frag} {mg : Str → Option Value} {base : Heap} {N ps : List Str} {qual : Str} {scope : Scope} {f : Addr} {cd : Value} {A : Around} {outer : List Env} {s s1 : Shared} {H : Hp} {E : XK} {us : List Value} {vs : List V}
    (S : FnScope N ps scope) (e0 : Env0 P w K mg base A outer s H) (hl : vs.length = ps.length) (r : Vals vs us)
    (x : InCallC s s.heap.objs.size (bindL (envOfC qual scope s.heap.objs.size f cd).kindOf (ps.zip us) fun _ => none) (cellsFrom (s.heap.objs.size + 1) scope.names []) (bindC (envOfC qual scope s.heap.objs.size f cd).kindOf (ps.zip us) fun _ => none) s1) :
    Inv (cxQ CX P w K mg base N qual scope f cd A outer s H E) [] (L2.start N vs) H s1 := by
  have hpl : ps.length ≤ N.length := by have := congrArg List.length S.pre; rw [List.length_take] at this; omega
  obtain ⟨h1, tk, rfl, hk⟩ := x.done
  have noA : ∀ b : Addr, b ∉ (cxQ CX P w K mg base N qual scope f cd A outer s H E).ex := fun b z => absurd (show b ∈ ([] : List Addr) from z) (by simp)
  refine ⟨⟨e0.mod, S.kind, rfl, rfl, Nat.le_refl _, fun y z c h1 h2 => ?_, fun y hy => ?_, fun y c _ h => ?_, (fun z => Bool.noConfusion (show false = true from z)), Around.frames_deeper e0.frames, .inr ⟨rfl, rfl⟩, fun b z => absurd z (noA b), e0.bs, e0.bsz, fun b _ _ => noA b, fun b z => absurd z (noA b), e0.funs, e0.frf⟩,
    rfl, e0.bare, Un.kept hk, ⟨_, x.toInCall.ns, fun i y v h1 h2 h3 => ?_⟩, fun y c h => ⟨_, x.cell y c h⟩, e0.hok.fresh (Nat.le_refl _), fun y c h => ?_, fun p hp => absurd (show p ∈ ([] : List (Addr × Obj)) from hp) (by simp), e0.hok.kept hk, ?_⟩
  · exact name_of_addr x.apart (PySem.mem_of_lookup h1) (PySem.mem_of_lookup h2)
  · have hy : scope.names.lookup y = some .cell ∨ scope.names.lookup y = some .free := hy
    rcases hy with hy | hy
    · exact cell_has hy
    · exact absurd rfl (S.nofree _ (PySem.mem_of_lookup hy))
  · exact Nat.le_of_lt (x.above y c (PySem.mem_of_lookup h))
  · have hi : i < vs.length := by
      unfold L2.start at h2
      by_cases hi : i < vs.length
      · exact hi
      · rw [List.getElem?_append_right (by simpa using hi)] at h2
        rw [List.getElem?_replicate] at h2
        split at h2 <;> cases h2
    have ha : vs[i]? = some v := by
      unfold L2.start at h2
      rw [List.getElem?_append_left (by simpa using hi), List.getElem?_map] at h2
      cases e : vs[i]? with
      | none => rw [e] at h2; cases h2
      | some a => rw [e] at h2; cases h2; rfl
    obtain ⟨u, hu, rv⟩ := r.get ha
    have hp : ps[i]? = some y := by
      rw [← S.pre, List.getElem?_take_of_lt (by omega)]; exact h1
    have ndP : ps.Nodup := by rw [← S.pre]; exact S.nd.sublist (List.take_sublist _ _)
    refine ⟨u, rv, ?_⟩
    rcases S.par y (List.mem_of_getElem? hp) with k | k
    · exact .inl ⟨k, bindL_get ndP hp hu k⟩
    · obtain ⟨c, e⟩ := cell_has (n := s.heap.objs.size + 1) k
      refine .inr ⟨.inl k, c, e, ?_⟩
      have q := x.cell y c e
      rw [bindC_get ndP hp hu (by show scope.names.lookup y ≠ _; rw [k]; decide)] at q
      exact q
  · exact e0.hok.fresh (Nat.le_of_lt (x.above y c (PySem.mem_of_lookup h)))
  · unfold L2.start
    show _ = N.length
    rw [List.length_append, List.length_map, List.length_replicate]
    omega
theorem fn_ofQ {CX : CXT} {P : Program} {w : World} {K : PySem.W.Frag} {mg : Str → Option Value} {base : Heap} {k : Nat} {f : Addr} {name qual : Str} {params : Arguments} {body : List Stmt} {scope : Scope} {dV kV doc pm cdv ct oc : Value} {an od : Option Addr}
    {osl : Array (Option Value)} {N ps : List Str} {sp : Sp} (lk : K.lookup f = some ⟨oc, od, .func (PySem.W.fnOf name qual params body scope dV kV doc pm an cdv ct), osl⟩) (hcd : PySem.W.codeIn K cdv qual = true) (S : FnScope N ps scope)
    (len : ∀ vs H Q E, sp vs H Q E → vs.length = ps.length)
    (hbody : ∀ (A : Around) (outer : List Env) (s : Shared) (H : Hp) (vs : List V) (Q : VK) (E : XK), RoomQ k (A.deeper (envOfC qual scope s.heap.objs.size f cdv)) → sp vs H Q E →
      ∃ t, PSs (cxQ CX P w K mg base N qual scope f cdv A outer s H E) body t ∧ t { nx := fun _ H' => Q .non H', rt := Q } (L2.start N vs) H) :
    FnQ P w K mg base CX (k + 1) f (PySem.W.fnOf name qual params body scope dV kV doc pm an cdv ct) ps sp := by
  refine ⟨len, fun A outer s H args us vs Q E hr e0 hb r hsp => ?_⟩
  have hl := len _ _ _ _ hsp
  have KX : K.In s.heap := e0.mod.kin.keeps fun b o e => (e0.bs b o e).1
  have lim : s.heap.NoLimit := e0.mod.nolimit.keeps fun b o e => (e0.bs b o e).1
  have hkind : ∀ y ∈ ps.zip us, scope.names.lookup y.1 = some .local ∨ (scope.names.lookup y.1 = some .cell ∧ ((cellsFrom (s.heap.objs.size + 1) scope.names []).lookup y.1).isSome = true) := fun ⟨n, v⟩ hy => by
    rcases S.par n (List.of_mem_zip hy).1 with q | q
    · exact .inl q
    · exact .inr ⟨q, PySem.W.cellsFrom_some _ _ _ (.inl q)⟩
  refine codeAny_call_function hr.depth (KX _ _ lk) rfl S.co S.gen rfl (PySem.W.codeRec_of KX hcd) (hb _ _ _ _ ?_)
  refine wpAny_newFunctionEnv_cells S.kind hkind fun env he s1 x => ?_
  subst he
  refine ⟨lim.keeps x.toInCall.keep, codeAny_func ?_⟩
  obtain ⟨t, ht, hq⟩ := hbody A outer s H vs Q E (hr.deeper _) hsp
  have I : Inv (cxQ CX P w K mg base N qual scope f cdv A outer s H E) [] (L2.start N vs) H s1 := inv_startQ S e0 hl r x
  refine wpAny_mono (ht.run [] s1 (L2.start N vs) H _ I hq) (fun fl s' hs => ?_) fun e s' hs => hs
  have fin : ∀ {σ' : L2.St} {H' : Hp} {v : V} {u : Value}, Inv (cxQ CX P w K mg base N qual scope f cdv A outer s H E) [] σ' H' s' → RelV v u → Q v H' → CE outer P w H s Q u s' :=
    fun {σ' H' v u} J rv q => ⟨v, H', J.os, J.bare, J.base, J.hok, rv, q⟩
  cases fl with
  | ret u =>
    obtain ⟨v, σ', H', J, rv, q⟩ := hs
    exact fin J rv q
  | next =>
    obtain ⟨σ', H', J, q⟩ := hs
    exact fin (v := V.non) (u := Value.none) J rfl q
  | brk =>
    obtain ⟨_, _, _, q⟩ := hs
    exact False.elim q
  | cont =>
    obtain ⟨_, _, _, q⟩ := hs
    exact False.elim q


theorem Fun.okQ {P : Program} {w : World} {K : PySem.W.Frag} {mg : Str → Option Value} {base : Heap} {x qual : Str} {st : Stmt} {f : Addr} {fd : FuncData} {N ps : List Str} {k : Nat} {sp : Sp} (F : L2.Fun K x qual st f fd) (S : FnScope N ps (defScope st)) (len : ∀ vs H Q E, sp vs H Q E → vs.length = ps.length)
    (hbody : ∀ (cdv : Value) (A : Around) (outer : List Env) (s : Shared) (H : Hp) (vs : List V) (Q : VK) (E : XK), RoomQ k (A.deeper (envOfC qual (defScope st) s.heap.objs.size f cdv)) → sp vs H Q E →
      ∃ t, PSs (cxQ (L2.CX P w) P w K mg base N qual (defScope st) f cdv A outer s H E) (defBody st) t ∧ t { nx := fun _ H' => Q .non H', rt := Q } (L2.start N vs) H) : FnQ P w K mg base (L2.CX P w) (k + 1) f fd ps sp := by
  obtain ⟨oc, od, kV, doc, pm, an, cdv, ct, osl, rfl, lk, hcd⟩ := F.ex
  exact fn_ofQ lk hcd S len fun A outer s H vs Q E hr hsp => hbody cdv A outer s H vs Q E hr hsp
/-- what a hot def answers: its body's answer; no error of its own -/
def runQ (n : Nat) (fb : SM) : List D → Sto → Res D := fun ds st => match fb (ds.map some ++ List.replicate (n - ds.length) none) st with
  | .nx _ st' => .ok .non st'
  | .rt d st' => .ok d st'
  | _ => .bad
section
variable {S : Stat} {P : Program} {w : World} {K : PySem.W.Frag} {mg : Str → Option Value} {base : Heap}
theorem def_okQ {x qual : Str} {st : Stmt} {f : Addr} {fd : FuncData} {N ps : List Str} {k ar n : Nat} {fb : SM} {mf : List D → Sto → Res D} (F : L2.Fun K x qual st f fd) (sc : FnScope N ps (defScope st)) (hm : mf = runQ n fb) (hN : N.length = n) (hp : ps.length = ar)
    (hb : ∀ (cdv : Value) (A : Around) (outer : List Env) (s : Shared) (H : Hp) (E : XK), RoomQ k (cxQ (L2.CX P w) P w K mg base N qual (defScope st) f cdv A outer s H E).A →
      PSs (cxQ (L2.CX P w) P w K mg base N qual (defScope st) f cdv A outer s H E) (defBody st) (rdS S W0 fb)) :
    FnQ P w K mg base (L2.CX P w) (k + 1) f fd ps (spM S ar mf) := by
  subst hm hN hp
  refine Fun.okQ F sc (fun vs H Q E h => h.1) fun cdv A outer s H vs Q E hr h => ⟨_, hb cdv A outer s H E hr, ?_⟩
  obtain ⟨hl, r, s0, ds, o, rv, h⟩ := h
  refine ⟨r, ds.map some ++ List.replicate (N.length - ds.length) none, s0, o, ?_, ?_⟩
  · refine ⟨by unfold L2.start; simp [rv.length], fun i d e => ?_⟩
    by_cases hi : i < ds.length
    · rw [List.getElem?_append_left (by simpa using hi), List.getElem?_map] at e
      have e' : ds[i]? = some d := by
        cases q : ds[i]? with
        | none => rw [q] at e; cases e
        | some z => rw [q] at e; simpa using e
      obtain ⟨v, e1, e2⟩ := rv.get e'
      refine ⟨v, ?_, e2⟩
      unfold L2.start
      rw [List.getElem?_append_left (by rw [List.length_map, ← rv.length]; exact hi), List.getElem?_map, e1]
      rfl
    · rw [List.getElem?_append_right (by simpa using hi)] at e
      have := List.getElem?_replicate ▸ e
      split at this <;> cases this
  · unfold runQ at h
    generalize fb (ds.map some ++ List.replicate (N.length - ds.length) none) s0 = out at h ⊢
    cases out with
    | nx env' st' => exact fun r' σ' H' l o' _ => h r' H' .non l o' rep_non
    | rt d st' => exact h
    | bk env' st' => exact h.elim
    | ct env' st' => exact h.elim
    | bad => exact h.elim
    | exc c d env' st' => exact h.elim
end
section
variable {X : Cx} {CX : CXT} {k : Nat} {f C : Addr} {fd : FuncData} {ps : List Str} {sp : Sp} {E : L2.St → XK} {x m : Str} {q pos apos : Pos} {e o : Expr} {es : List Expr} {ta : TE} {t : TA}
theorem run_fnQ {pins : List (Addr × Obj)} {σ : L2.St} {H : Hp} {s : Shared} {Q : VK} {us : List Value} {vs : List V} (F : FnQ X.prog X.w X.K X.mg X.base CX k f fd ps sp) (hr : RoomQ k X.A) (hb : Binds X.K fd ps []) (hx : PassesAt CX X σ (E σ))
    (I : Inv X pins σ H s) (r : Vals vs us) (h : sp vs H Q (E σ)) : wpAny (model X.prog X.w) X.A (call (.ref f) us) (EP X pins σ Q) X.xe s := by
  have hl : us.length = ps.length := by rw [← r.length]; exact F.len _ _ _ _ h
  have b := hb s us I.kIn (by rw [List.append_nil]; exact hl)
  rw [List.append_nil] at b
  refine wpAny_call (codeAny_mono (F.run X.A X.stack s H ⟨us, []⟩ us vs Q (E σ) hr I.env0 b r h) fun r s' hq => ?_)
  cases r with
  | error e => exact hx pins H s e s' I hq
  | ok fl =>
    cases fl with
    | ret u => exact I.after hq
    | next => exact False.elim hq
    | brk => exact False.elim hq
    | cont => exact False.elim hq
theorem pe_callQ (F : FnQ X.prog X.w X.K X.mg X.base CX k f fd ps sp) (hr : RoomQ k X.A) (hg : Gl X x) (hm : X.mg x = some (.ref f)) (hk : PySem.W.keepIn X.K (.ref f) = true) (hb : Binds X.K fd ps []) (hx : ∀ σ, PassesAt CX X σ (E σ))
    (ha : PA X (e :: es) t) (hdb : (x == ("__debug__" : Str)) = false := by decide) (he : starEach (e :: es) X.env = (false, eval e X.env) :: starEach es X.env := by rfl) (hpl : (backTo pos (starEach es X.env)).any (·.1) = false := by rfl) :
    PE X (.Call (.Name x q) (e :: es) [] pos) (L2.tCallS sp E t) := by
  refine ⟨fun pins s σ H Q I h => ?_⟩
  refine wpAny_Call_Name_kw (ld_glob I hg hm ?_ hdb)
  refine PySem.W.callWith_K (h₀ := X.base) I.ok.mod.kin hk (thn (ha.run pos pins s σ H _ I h) fun us s1 ⟨vs, H1, I1, r, q⟩ => ⟨I1.kIn, ?_⟩) he hpl
  exact run_fnQ F hr hb (hx σ) I1 r q
end
theorem roomQ_of {k : Nat} {A : Around} (r : Room k A) (h : Option Value) : RoomQ k (A.mark h) := ⟨r.dp, r.un⟩
theorem hu64Q {k : Nat} {A : Around} (hr : RoomQ k A) : A.units + 64 < cLine := by
  have := hr.un
  omega
theorem hu65Q {k : Nat} {A : Around} (hr : RoomQ k A) : A.units + 65 < cLine := by
  have := hr.un
  omega
/-- a statement that is not reached -/
def sBad : SM := fun _ _ => .bad
section
variable {S : Stat} {W : WX} {X : Cx} {k ar : Nat} {f : Addr} {fd : FuncData} {ps : List Str} {cf : List D → Sto → Res D} {g : EM (List D)} {x : Str} {e : Expr} {es : List Expr} {p pos : Pos}
theorem s_bad {st : Stmt} : PS X st (rdS S W sBad) := ⟨fun pins s σ H D I h => by
  obtain ⟨r, env, st, o, eo, h⟩ := h
  exact h.elim⟩
theorem md_callQ : ∀ σ H Q, rdE S W (mCallN ar cf g) σ H Q → L2.tCallS (spM S ar cf) (L2.WE W) (rdA S W g) σ H Q := fun σ H Q h => by
  obtain ⟨r, env, st, o, eo, h⟩ := h
  unfold mCallN at h
  refine ⟨r, env, st, o, eo, End.bind h fun ds st1 r1 H1 vs l1 o1 rx h1 => ?_⟩
  split at h1
  · rename_i hl
    exact ⟨by rw [← rx.length]; exact hl, r1, st1, ds, o1, rx, h1.wish fun c d H z => z⟩
  · exact h1.elim
theorem e_callQ (F : FnQ X.prog X.w X.K X.mg X.base (L2.CX X.prog X.w) k f fd ps (spM S ar cf)) (hr : RoomQ k X.A) (hm : X.mg x = some (.ref f)) (hk : PySem.W.keepIn X.K (.ref f) = true) (hb : Binds X.K fd ps []) (tk : Takes X W)
    (ha : PA X (e :: es) (rdA S W g)) (hg : Gl X x := by rfl) (hdb : (x == ("__debug__" : Str)) = false := by decide) (he : starEach (e :: es) X.env = (false, eval e X.env) :: starEach es X.env := by rfl) (hpl : (backTo pos (starEach es X.env)).any (·.1) = false := by rfl) :
    PE X (.Call (.Name x p) (e :: es) [] pos) (rdE S W (mCallN ar cf g)) := PE.weak (pe_callQ F hr hg hm hk hb (passAt tk) ha hdb he hpl) md_callQ
end
end Cw

/-! Plain data, runs of models. -/
namespace Cw
open PySem
mutual
def pl : D → Bool
  | .tup ds => plL ds
  | .lst ds => plL ds
  | .obj _ _ ds => plL ds
  | .ref _ => false
  | .exn _ _ => false
  | _ => true
def plL : List D → Bool
  | [] => true
  | d :: ds => pl d && plL ds
end
mutual
theorem frzG_pl (on : Nat → Option D) : ∀ d : D, pl d = true → frzG on d = some d
  | .tup ds, h => by
    unfold pl at h
    unfold frzG
    rw [frzL_pl on ds h]
  | .lst ds, h => by
    unfold pl at h
    unfold frzG
    rw [frzL_pl on ds h]
  | .obj _ _ ds, h => by
    unfold pl at h
    unfold frzG
    rw [frzL_pl on ds h]
  | .ref _, h => by simp [pl] at h
  | .exn _ _, h => by simp [pl] at h
  | .non, _ => by unfold frzG; rfl
  | .bl _, _ => by unfold frzG; rfl
  | .int _, _ => by unfold frzG; rfl
  | .str _, _ => by unfold frzG; rfl
  | .scr _, _ => by unfold frzG; rfl
theorem frzL_pl (on : Nat → Option D) : ∀ ds : List D, plL ds = true → frzL on ds = some ds
  | [], _ => by unfold frzL; rfl
  | d :: ds, h => by
    unfold plL at h
    obtain ⟨h1, h2⟩ := Bool.and_eq_true_iff.mp h
    unfold frzL
    rw [frzG_pl on d h1, frzL_pl on ds h2]
end
theorem frz_pl (st : Sto) (n : Nat) {d : D} (h : pl d = true) : ∀ f, frz st n f d = some d
  | 0 => by unfold frz; exact frzG_pl _ d h
  | f + 1 => by unfold frz; exact frzG_pl _ d h
mutual
theorem below_pl (n : Nat) : ∀ d : D, pl d = true → below n d = true
  | .tup ds, h => by unfold pl at h; unfold below; exact belowL_pl n ds h
  | .lst ds, h => by unfold pl at h; unfold below; exact belowL_pl n ds h
  | .obj _ _ ds, h => by unfold pl at h; unfold below; exact belowL_pl n ds h
  | .ref _, h => by simp [pl] at h
  | .exn _ _, h => by simp [pl] at h
  | .non, _ => rfl
  | .bl _, _ => rfl
  | .int _, _ => rfl
  | .str _, _ => rfl
  | .scr _, _ => rfl
theorem belowL_pl (n : Nat) : ∀ ds : List D, plL ds = true → belowL n ds = true
  | [], _ => rfl
  | d :: ds, h => by
    unfold plL at h
    obtain ⟨h1, h2⟩ := Bool.and_eq_true_iff.mp h
    unfold belowL
    rw [below_pl n d h1, belowL_pl n ds h2]
    rfl
end
theorem popB_refl (st : Sto) : popB st st = true := by
  unfold popB
  rw [List.all_eq_true]
  intro k hk
  have hk := List.mem_range.mp hk
  have e : st[k]? = some st[k] := by simp [hk]
  rw [e]
  simp [cbeq_refl]
/-- what a state keeps: as long, but for the cells in ks, which are plain -/
theorem popB_set {st st' : Sto} (hl : st.length ≤ st'.length) (h : ∀ k, k < st.length → st'[k]? = st[k]? ∨ ∃ ds, st'[k]? = some (.lst ds) ∧ plL ds = true) : popB st st' = true := by
  unfold popB
  rw [List.all_eq_true]
  intro k hk
  have hk := List.mem_range.mp hk
  have e : st[k]? = some st[k] := by simp [hk]
  rcases h k hk with q | ⟨ds, q, p⟩
  · rw [q, e]
    simp [cbeq_refl]
  · rw [e, q]
    have := belowL_pl st.length ds p
    simp [belowC, this]
theorem plL_append : ∀ (a b : List D), plL (a ++ b) = (plL a && plL b)
  | [], b => by simp [plL]
  | d :: a, b => by simp [plL, plL_append a b, Bool.and_assoc]
theorem plL_iff {ds : List D} : plL ds = true ↔ ∀ d ∈ ds, pl d = true := by
  induction ds with
  | nil => simp [plL]
  | cons d ds ih => simp [plL, ih]
/-- a def that leaves the store as it is -/
theorem run_pure {n : Nat} {f : SM} {ds : List D} {st : Sto} {d : D} (h : bodyR (f (ds.map some ++ List.replicate (n - ds.length) none) st) = .ok d st) (p : pl d = true) : runF false n f ds st = .ok d st := by
  unfold runF
  rw [h]
  unfold popR
  simp [frz_pl st st.length p, popB_refl]
theorem run_exc {n : Nat} {f : SM} {ds : List D} {st : Sto} {c : Nat} {d : D} (h : bodyR (f (ds.map some ++ List.replicate (n - ds.length) none) st) = .exc c d st) (p : pl d = true) : runF false n f ds st = .exc c d st := by
  unfold runF
  rw [h]
  unfold popR
  simp [below_pl st.length d p, popB_refl]
/-- a def that may change cells of the caller's, and makes new ones -/
theorem run_cells {n : Nat} {f : SM} {ds : List D} {st st' : Sto} {d e : D} (h : bodyR (f (ds.map some ++ List.replicate (n - ds.length) none) st) = .ok d st') (p : frz st' st.length 5 d = some e) (b : popB st st' = true) : runF false n f ds st = .ok e (st'.take st.length) := by
  unfold runF
  rw [h]
  unfold popR
  simp [p, b]

theorem take_app {α : Type} (a b : List α) : (a ++ b).take a.length = a := by simp
theorem popB_app (st ext : Sto) : popB st (st ++ ext) = true :=
  popB_set (by simp) fun k hk => .inl (by rw [List.getElem?_append_left hk])
/-- a list just made, handed out frozen -/
theorem pop_new {st : Sto} {l : List D} (h : plL l = true) : popR false st (.ok (.ref st.length) (st ++ [.lst l])) = .ok (.lst l) st := by
  have hf : frz (st ++ [.lst l]) st.length 5 (.ref st.length) = some (.lst l) := by
    unfold frz frzG
    simp only [Nat.lt_irrefl, if_false]
    have e : (st ++ [Cell.lst l])[st.length]? = some (.lst l) := by simp
    rw [e]
    have e2 : frzL (fun j => frz (st ++ [.lst l]) st.length 4 (.ref j)) l = some l := frzL_pl _ l h
    simp only [e2]
  unfold popR
  simp [hf, popB_app]
theorem comp_pure {lock : List (Nat × List D)} {vs : List Nat} {t : Tgt} {ft : EM Bool} {fe : EM D} {env : En} {st : Sto} (b : D → Bool) (g : D → D) (hl : ∀ a, lockB lock (st ++ [Cell.lst a]) = true) : ∀ (items acc : List D), acc.length + items.length < LIM →
    (∀ x ∈ items, ∃ env1, tgtD t x (wipeE env vs) = some env1 ∧ ∀ a, ft env1 (st ++ [.lst a]) = .ok (b x) (st ++ [.lst a]) ∧ (b x = true → fe env1 (st ++ [.lst a]) = .ok (g x) (st ++ [.lst a]))) →
    compL lock vs t ft fe env st.length items (st ++ [.lst acc]) = .ok (.ref st.length) (st ++ [.lst (acc ++ (items.filter b).map g)])
  | [], acc, _, _ => by
    unfold compL
    rw [if_pos (hl _)]
    simp
  | x :: xs, acc, hn, h => by
    obtain ⟨env1, e1, e2⟩ := h x (List.mem_cons_self ..)
    have hn' : acc.length + (xs.length + 1) < LIM := by simpa using hn
    unfold compL
    rw [if_pos (hl _), e1]
    simp only [(e2 acc).1]
    cases hb : b x with
    | false =>
      simp only
      rw [comp_pure b g hl xs acc (by omega) fun y hy => h y (List.mem_cons_of_mem _ hy)]
      simp [hb]
    | true =>
      simp only [(e2 acc).2 hb]
      have e : (st ++ [Cell.lst acc])[st.length]? = some (.lst acc) := by simp
      have e3 : (st ++ [Cell.lst acc]).set st.length (.lst (acc ++ [g x])) = st ++ [.lst (acc ++ [g x])] := by simp
      rw [e]
      simp only
      rw [if_pos (by omega), e3, comp_pure b g hl xs (acc ++ [g x]) (by simp; omega) fun y hy => h y (List.mem_cons_of_mem _ hy)]
      simp [hb]
theorem mcomp_pure {fi : EM IterD} {lock : List (Nat × List D)} {vs : List Nat} {t : Tgt} {ft : EM Bool} {fe : EM D} {env : En} {st : Sto} {items : List D} (b : D → Bool) (g : D → D) (hi : fi env st = .ok ⟨items, lock⟩ st) (hl : ∀ a, lockB lock (st ++ [Cell.lst a]) = true) (hn : items.length < LIM)
    (h : ∀ x ∈ items, ∃ env1, tgtD t x (wipeE env vs) = some env1 ∧ ∀ a, ft env1 (st ++ [.lst a]) = .ok (b x) (st ++ [.lst a]) ∧ (b x = true → fe env1 (st ++ [.lst a]) = .ok (g x) (st ++ [.lst a])))
    (hp : plL ((items.filter b).map g) = true) : mComp false fi vs t ft fe env st = .ok (.lst ((items.filter b).map g)) st := by
  unfold mComp
  rw [hi]
  show popR false st (compL lock vs t ft fe env st.length items (st ++ [.lst []])) = _
  rw [comp_pure b g hl items [] (by simpa using hn) h]
  simpa using pop_new hp
/-- without a test -/
theorem mcomp_all {fi : EM IterD} {lock : List (Nat × List D)} {vs : List Nat} {t : Tgt} {fe : EM D} {env : En} {st : Sto} {items : List D} (g : D → D) (hi : fi env st = .ok ⟨items, lock⟩ st) (hl : ∀ a, lockB lock (st ++ [Cell.lst a]) = true) (hn : items.length < LIM)
    (h : ∀ x ∈ items, ∃ env1, tgtD t x (wipeE env vs) = some env1 ∧ ∀ a, fe env1 (st ++ [.lst a]) = .ok (g x) (st ++ [.lst a])) (hp : plL (items.map g) = true) : mComp false fi vs t mYes fe env st = .ok (.lst (items.map g)) st := by
  have e : items.filter (fun _ => true) = items := by simp
  have := mcomp_pure (ft := mYes) (fun _ => true) g hi hl hn (fun x hx => by
    obtain ⟨env1, e1, e2⟩ := h x hx
    exact ⟨env1, e1, fun a => ⟨rfl, fun _ => e2 a⟩⟩) (by rw [e]; exact hp)
  rw [e] at this
  exact this
theorem lock0 (st : Sto) : lockB [] st = true := rfl

section
open L2
theorem at_nat {α : Type} (l : List α) (k : Nat) : atI l (k : Int) = l[k]? := by
  unfold atI ixN
  rw [if_pos (by omega)]
  by_cases h : (k : Int) < l.length
  · rw [if_pos h]
    simp
  · rw [if_neg h]
    have : l[k]? = none := List.getElem?_eq_none (by omega)
    rw [this]
    rfl
variable {α : Type} (a b c d e f : α) (l : List α)
theorem at0 : atI (a :: l) 0 = some a := at_nat (a :: l) 0
theorem at1 : atI (a :: b :: l) 1 = some b := at_nat (a :: b :: l) 1
theorem at2 : atI (a :: b :: c :: l) 2 = some c := at_nat (a :: b :: c :: l) 2
theorem at3 : atI (a :: b :: c :: d :: l) 3 = some d := at_nat (a :: b :: c :: d :: l) 3
theorem at4 : atI (a :: b :: c :: d :: e :: l) 4 = some e := at_nat (a :: b :: c :: d :: e :: l) 4
theorem at5 : atI (a :: b :: c :: d :: e :: f :: l) 5 = some f := at_nat (a :: b :: c :: d :: e :: f :: l) 5
theorem cut_to {k : Nat} : cutD l none (some (k : Int)) = l.take k := by
  unfold cutD
  simp only [HT.sIx_nat, HT.sIx_none, List.drop_zero, Nat.sub_zero]
  by_cases h : k ≤ l.length
  · rw [Nat.min_eq_left h]
  · rw [Nat.min_eq_right (by omega), List.take_of_length_le (Nat.le_refl _), List.take_of_length_le (by omega)]
theorem cut_from {k : Nat} : cutD l (some (k : Int)) none = l.drop k := by
  unfold cutD
  simp only [HT.sIx_nat, HT.sIx_none]
  by_cases h : k ≤ l.length
  · rw [Nat.min_eq_left h]
    exact List.take_of_length_le (by simp)
  · rw [Nat.min_eq_right (by omega)]
    simp
    omega
theorem cut_to1 : cutD (a :: l) none (some 1) = [a] := by
  have := cut_to (a :: l) (k := 1)
  simpa using this
theorem cut_from1 : cutD (a :: l) (some 1) none = l := by
  have := cut_from (a :: l) (k := 1)
  simpa using this
end

theorem popB_gen {st st' : Sto} (h : ∀ k, k < st.length → st'[k]? = st[k]? ∨ ∃ c, st'[k]? = some c ∧ belowC st.length c = true) : popB st st' = true := by
  unfold popB
  rw [List.all_eq_true]
  intro k hk
  have hk := List.mem_range.mp hk
  have e : st[k]? = some st[k] := by simp [hk]
  rcases h k hk with q | ⟨c, q, p⟩
  · rw [q, e]
    simp [cbeq_refl]
  · rw [e, q]
    simp [p]

theorem for_all {lock : List (Nat × List D)} {g : GM} {b : SM} {st : Sto} (I : En → Prop) (hl : lockB lock st = true) : ∀ (items : List D) (env : En), I env →
    (∀ x ∈ items, ∀ env, I env → ∃ env1 env2, g x env st = some (env1, st) ∧ b env1 st = .nx env2 st ∧ I env2) → ∃ env', forL lock g b items env st = .nx env' st ∧ I env'
  | [], env, h, _ => ⟨env, by unfold forL; simp [hl], h⟩
  | x :: xs, env, h, k => by
    obtain ⟨env1, env2, h1, h2, h3⟩ := k x (List.mem_cons_self ..) env h
    obtain ⟨env', h4, h5⟩ := for_all I hl xs env2 h3 fun y hy => k y (List.mem_cons_of_mem _ hy)
    refine ⟨env', ?_, h5⟩
    unfold forL
    simp [hl, h1, h2, h4]
/-- the store goes on, too -/
theorem for_st {lock : List (Nat × List D)} {g : GM} {b : SM} (I : En → Sto → Prop) (hl : ∀ env st, I env st → lockB lock st = true) : ∀ (items : List D) (env : En) (st : Sto), I env st →
    (∀ x ∈ items, ∀ env st, I env st → ∃ env1 st1 env2 st2, g x env st = some (env1, st1) ∧ (b env1 st1 = .nx env2 st2 ∨ b env1 st1 = .ct env2 st2) ∧ I env2 st2) → ∃ env' st', forL lock g b items env st = .nx env' st' ∧ I env' st'
  | [], env, st, h, _ => ⟨env, st, by unfold forL; simp [hl env st h], h⟩
  | x :: xs, env, st, h, k => by
    obtain ⟨env1, st1, env2, st2, h1, h2, h3⟩ := k x (List.mem_cons_self ..) env st h
    obtain ⟨env', st', h4, h5⟩ := for_st I hl xs env2 st2 h3 fun y hy => k y (List.mem_cons_of_mem _ hy)
    refine ⟨env', st', ?_, h5⟩
    unfold forL
    rcases h2 with h2 | h2 <;> simp [hl env st h, h1, h2, h4]

theorem chkS_refl (st : Sto) : chkS st st = true := by
  unfold chkS
  rw [List.all_eq_true]
  intro k hk
  have hk := List.mem_range.mp hk
  have e : st[k]? = some st[k] := by simp [hk]
  rw [e]
  simp [cbeq_refl]

theorem for_ix {lock : List (Nat × List D)} {g : GM} {b : SM} (I : Nat → En → Sto → Prop) (hl : ∀ j env st, I j env st → lockB lock st = true) : ∀ (items : List D) (j : Nat) (env : En) (st : Sto), I j env st →
    (∀ i x, items[i]? = some x → ∀ env st, I (j + i) env st → ∃ env1 st1 env2 st2, g x env st = some (env1, st1) ∧ (b env1 st1 = .nx env2 st2 ∨ b env1 st1 = .ct env2 st2) ∧ I (j + i + 1) env2 st2) → ∃ env' st', forL lock g b items env st = .nx env' st' ∧ I (j + items.length) env' st'
  | [], j, env, st, h, _ => ⟨env, st, by unfold forL; simp [hl j env st h], h⟩
  | x :: xs, j, env, st, h, k => by
    obtain ⟨env1, st1, env2, st2, h1, h2, h3⟩ := k 0 x rfl env st h
    obtain ⟨env', st', h4, h5⟩ := for_ix I hl xs (j + 1) env2 st2 h3 fun i y hy env st hi => by
      have := k (i + 1) y (by simpa using hy) env st (by rw [show j + (i + 1) = j + 1 + i by omega]; exact hi)
      rw [show j + (i + 1) + 1 = j + 1 + i + 1 by omega] at this
      exact this
    refine ⟨env', st', ?_, ?_⟩
    · unfold forL
      rcases h2 with h2 | h2 <;> simp [hl j env st h, h1, h2, h4]
    · rw [List.length_cons, show j + (xs.length + 1) = j + 1 + xs.length by omega]
      exact h5
end Cw

/-! Weakest conditions of runs of models. -/
namespace Cw
open PySem
/-- what is wanted behind a result; X behind an error -/
def wx {α : Type} (X : Nat → D → Sto → Prop) (r : Res α) (Q : α → Sto → Prop) : Prop := match r with
  | .ok a st => Q a st
  | .exc c d st => X c d st
  | .bad => False
abbrev wp {α : Type} (r : Res α) (Q : α → Sto → Prop) : Prop := wx (fun _ _ _ => False) r Q
theorem w_out {α : Type} {r : Res α} {Q : α → Sto → Prop} (h : wp r Q) : ∃ a st, r = .ok a st ∧ Q a st := by
  cases r with
  | ok a st => exact ⟨a, st, rfl, h⟩
  | exc c d st => exact h.elim
  | bad => exact h.elim
theorem wx_wp {α : Type} {X : Nat → D → Sto → Prop} {r : Res α} {Q : α → Sto → Prop} (h : wp r Q) : wx X r Q := by
  cases r with
  | ok a st => exact h
  | exc c d st => exact h.elim
  | bad => exact h
theorem wx_eq {α : Type} {X : Nat → D → Sto → Prop} {r : Res α} {Q : α → Sto → Prop} {c : Nat} {d : D} {st : Sto} (e : r = .exc c d st) (q : X c d st) : wx X r Q := by
  rw [e]
  exact q
theorem wx_mono {α : Type} {X X' : Nat → D → Sto → Prop} {r : Res α} {P Q : α → Sto → Prop} (h : wx X r P) (k : ∀ a s, P a s → Q a s) (k2 : ∀ c d s, X c d s → X' c d s) : wx X' r Q := by
  cases r with
  | ok a st => exact k _ _ h
  | exc c d st => exact k2 _ _ _ h
  | bad => exact h
section
variable {X : Nat → D → Sto → Prop}
theorem w_eq {α : Type} {r : Res α} {Q : α → Sto → Prop} {a : α} {st : Sto} (e : r = .ok a st) (q : Q a st) : wx X r Q := by
  rw [e]
  exact q
theorem w_bind {α β : Type} {r : Res α} {f : α → Sto → Res β} {Q : β → Sto → Prop} (h : wx X r fun a s => wx X (f a s) Q) : wx X (r.bind f) Q := by
  cases r <;> exact h
theorem w_mono {α : Type} {r : Res α} {P Q : α → Sto → Prop} (h : wx X r P) (k : ∀ a s, P a s → Q a s) : wx X r Q := by
  cases r with
  | ok a st => exact k _ _ h
  | _ => exact h
theorem w_lift {x : Option (D × Sto)} {d : D} {s : Sto} {Q : D → Sto → Prop} (h : x = some (d, s)) (q : Q d s) : wx X (lift x) Q := by
  rw [h]
  exact q
section
variable {env : En} {st : Sto} {Q : D → Sto → Prop} {fa fb fc : EM D} {ta tb : EM Bool} {g : EM (List D)} {QL : List D → Sto → Prop} {QB : Bool → Sto → Prop}
theorem w_var {i : Nat} {d : D} (h : env[i]? = some (some d)) (q : Q d st) : wx X (mVar i env st) Q := by
  unfold mVar
  rw [h]
  exact q
theorem w_c {d : D} (q : Q d st) : wx X (mC d env st) Q := q
theorem w_bin {op : O2} (h : wx X (fa env st) fun a s1 => wx X (fb env s1) fun b s2 => wx X (lift (op a b s2)) Q) : wx X (mBin op fa fb env st) Q :=
  w_bind (w_mono h fun _ _ h => w_bind h)
theorem w_m1 {op : O1} (h : wx X (fa env st) fun a s1 => wx X (lift (op a s1)) Q) : wx X (m1 op fa env st) Q := w_bind h
theorem w_un {op : D → Option D} (h : wx X (fa env st) fun a s1 => ∃ d, op a = some d ∧ Q d s1) : wx X (mUn op fa env st) Q :=
  w_bind (w_mono h fun a s ⟨d, e, q⟩ => by rw [e]; exact q)
theorem w_T (h : wx X (fa env st) fun a s1 => ∃ b, a = .bl b ∧ QB b s1) : wx X (mT fa env st) QB :=
  w_bind (w_mono h fun a s ⟨d, e, q⟩ => by rw [e]; exact q)
theorem w_NotT (h : wx X (ta env st) fun b s1 => QB (!b) s1) : wx X (mNotT ta env st) QB := w_bind h
theorem w_AndT (h : wx X (ta env st) fun b s1 => (b = true → wx X (tb env s1) QB) ∧ (b = false → QB false s1)) : wx X (mAndT ta tb env st) QB :=
  w_bind (w_mono h fun b s k => by
    cases b with
    | true => exact k.1 rfl
    | false => exact k.2 rfl)
theorem w_OrT (h : wx X (ta env st) fun b s1 => (b = true → QB true s1) ∧ (b = false → wx X (tb env s1) QB)) : wx X (mOrT ta tb env st) QB :=
  w_bind (w_mono h fun b s k => by
    cases b with
    | true => exact k.1 rfl
    | false => exact k.2 rfl)
theorem w_And (h : wx X (fa env st) fun a s1 => ∃ b, a = .bl b ∧ (b = true → wx X (fb env s1) Q) ∧ (b = false → Q (.bl false) s1)) : wx X (mAnd fa fb env st) Q :=
  w_bind (w_mono h fun a s ⟨b, e, k⟩ => by
    subst e
    cases b with
    | true => exact k.1 rfl
    | false => exact k.2 rfl)
theorem w_Or (h : wx X (fa env st) fun a s1 => ∃ b, a = .bl b ∧ (b = true → Q (.bl true) s1) ∧ (b = false → wx X (fb env s1) Q)) : wx X (mOr fa fb env st) Q :=
  w_bind (w_mono h fun a s ⟨b, e, k⟩ => by
    subst e
    cases b with
    | true => exact k.1 rfl
    | false => exact k.2 rfl)
theorem w_Not (h : wx X (fa env st) fun a s1 => ∃ b, a = .bl b ∧ Q (.bl (!b)) s1) : wx X (mNot fa env st) Q :=
  w_bind (w_mono h fun a s ⟨b, e, k⟩ => by
    subst e
    exact k)
theorem w_If (h : wx X (ta env st) fun b s1 => (b = true → wx X (fa env s1) Q) ∧ (b = false → wx X (fb env s1) Q)) : wx X (mIf ta fa fb env st) Q :=
  w_bind (w_mono h fun b s k => by
    cases b with
    | true => exact k.1 rfl
    | false => exact k.2 rfl)
theorem w_nil (q : QL [] st) : wx X (mNil env st) QL := q
theorem w_cons (h : wx X (fa env st) fun a s1 => wx X (g env s1) fun l s2 => QL (a :: l) s2) : wx X (mCons fa g env st) QL :=
  w_bind (w_mono h fun _ _ h => w_bind h)
theorem w_tup (h : wx X (g env st) fun l s1 => l.length ≤ LIM ∧ Q (.tup l) s1) : wx X (mTup g env st) Q :=
  w_bind (w_mono h fun l s ⟨h1, h2⟩ => by rw [if_pos h1]; exact h2)
theorem w_lstF (h : wx X (g env st) fun l s1 => l.length ≤ LIM ∧ Q (.lst l) s1) : wx X (mLst false g env st) Q :=
  w_bind (w_mono h fun l s ⟨h1, h2⟩ => by rw [if_pos h1]; exact h2)
theorem w_lstT (h : wx X (g env st) fun l s1 => l.length ≤ LIM ∧ Q (.ref s1.length) (s1 ++ [.lst l])) : wx X (mLst true g env st) Q :=
  w_bind (w_mono h fun l s ⟨h1, h2⟩ => by rw [if_pos h1]; exact h2)
theorem w_noP {QO : Option Int → Sto → Prop} (q : QO none st) : wx X (mNoP env st) QO := q
theorem w_part {QO : Option Int → Sto → Prop} (h : wx X (fa env st) fun a s => ∃ i, a = .int i ∧ QO (some i) s) : wx X (mPart fa env st) QO :=
  w_bind (w_mono h fun a s ⟨d, e, q⟩ => by rw [e]; exact q)
theorem w_slice {c : Bool} {fl fh : EM (Option Int)} (h : wx X (fa env st) fun a s1 => wx X (fl env s1) fun l s2 => wx X (fh env s2) fun u s3 => wx X (lift (oSl c a l u s3)) Q) : wx X (mSlice c fa fl fh env st) Q :=
  w_bind (w_mono h fun _ _ h => w_bind (w_mono h fun _ _ h => w_bind h))
theorem w_isN {neg : Bool} (h : wx X (fa env st) fun a s1 => Q (.bl (match a with
  | .non => !neg
  | _ => neg)) s1) : wx X (mIsN neg fa env st) Q := w_bind h
theorem w_meth {T : String} {op : OM} (h : wx X (fa env st) fun d s1 => tyM T d s1 = true ∧ wx X (g env s1) fun ds s2 => wx X (lift (op d ds s2)) Q) : wx X (mMeth T op fa g env st) Q :=
  w_bind (w_mono h fun a s ⟨e, k⟩ => by rw [if_pos e]; exact w_bind k)
theorem w_callN {ar : Nat} {cf : List D → Sto → Res D} (h : wx X (g env st) fun ds s1 => ds.length = ar ∧ wx X (cf ds s1) Q) : wx X (mCallN ar cf g env st) Q :=
  w_bind (w_mono h fun a s ⟨e, k⟩ => by rw [if_pos e]; exact k)
theorem w_callK {ar : Nat} {perm : List Nat} {cf : List D → Sto → Res D} (h : wx X (g env st) fun ds s1 => ∃ es, perm.filterMap (ds[·]?) = es ∧ ds.length = ar ∧ es.length = ar ∧ wx X (cf es s1) Q) : wx X (mCallK ar perm cf g env st) Q :=
  w_bind (w_mono h fun a s ⟨es, e, e1, e2, k⟩ => by
    subst e
    rw [if_pos ⟨e1, e2⟩]
    exact k)
theorem w_fld {cs : List Nat} {a : Nat} (h : wx X (fa env st) fun d s1 => ∃ x, fldD s1 cs a d = some x ∧ Q x s1) : wx X (mFld cs a fa env st) Q :=
  w_bind (w_mono h fun d s ⟨x, e, k⟩ => by rw [e]; exact k)
theorem w_iSeq {QI : IterD → Sto → Prop} (h : wx X (fa env st) fun d s1 => ∃ it, iterOf s1 d = some it ∧ QI it s1) : wx X (iSeq fa env st) QI :=
  w_bind (w_mono h fun d s ⟨x, e, k⟩ => by rw [e]; exact k)
theorem w_iRg1 {QI : IterD → Sto → Prop} (h : wx X (fa env st) fun d s1 => ∃ n : Nat, d = .int n ∧ n < 1000000 ∧ QI (rngD 0 n) s1) : wx X (iRg1 fa env st) QI :=
  w_bind (w_mono h fun d s ⟨n, e, k, q⟩ => by
    have : small62 (n : Int) = true := by
      unfold small62
      rw [decide_eq_true_eq]
      omega
    subst e
    simp only [this, if_true, Int.toNat_natCast]
    exact q)
end
end
/-- ends of a suite: on, returned, a turn ended, a loop ended; Y behind an error -/
def wox (Y : Nat → D → En → Sto → Prop) (o : Out) (N : En → Sto → Prop) (R : D → Sto → Prop) (C B : En → Sto → Prop) : Prop := match o with
  | .nx e s => N e s
  | .rt d s => R d s
  | .ct e s => C e s
  | .bk e s => B e s
  | .exc c d e s => Y c d e s
  | .bad => False
abbrev wo (o : Out) (N : En → Sto → Prop) (R : D → Sto → Prop) (C B : En → Sto → Prop) : Prop := wox (fun _ _ _ _ => False) o N R C B
theorem o_mono {Y : Nat → D → En → Sto → Prop} {o : Out} {N N' : En → Sto → Prop} {R R' : D → Sto → Prop} {C C' B B' : En → Sto → Prop} (h : wox Y o N R C B) (hN : ∀ e s, N e s → N' e s) (hR : ∀ d s, R d s → R' d s) (hC : ∀ e s, C e s → C' e s) (hB : ∀ e s, B e s → B' e s) : wox Y o N' R' C' B' := by
  cases o with
  | nx e s => exact hN _ _ h
  | rt e s => exact hR _ _ h
  | ct e s => exact hC _ _ h
  | bk e s => exact hB _ _ h
  | exc c d e s => exact h
  | bad => exact h
theorem o_monoX {Y Y' : Nat → D → En → Sto → Prop} {o : Out} {N N' : En → Sto → Prop} {R R' : D → Sto → Prop} {C C' B B' : En → Sto → Prop} (h : wox Y o N R C B) (hN : ∀ e s, N e s → N' e s) (hR : ∀ d s, R d s → R' d s) (hC : ∀ e s, C e s → C' e s) (hB : ∀ e s, B e s → B' e s) (hY : ∀ c d e s, Y c d e s → Y' c d e s) : wox Y' o N' R' C' B' := by
  cases o with
  | nx e s => exact hN _ _ h
  | rt e s => exact hR _ _ h
  | ct e s => exact hC _ _ h
  | bk e s => exact hB _ _ h
  | exc c d e s => exact hY _ _ _ _ h
  | bad => exact h
theorem wox_wo {Y : Nat → D → En → Sto → Prop} {o : Out} {N : En → Sto → Prop} {R : D → Sto → Prop} {C B : En → Sto → Prop} (h : wo o N R C B) : wox Y o N R C B := o_monoX h (fun _ _ h => h) (fun _ _ h => h) (fun _ _ h => h) (fun _ _ h => h) (fun _ _ _ _ h => h.elim)
section
variable {Y : Nat → D → En → Sto → Prop} {env : En} {st : Sto} {fa fb fc : EM D} {ta tb : EM Bool} {f g : SM} {N : En → Sto → Prop} {R : D → Sto → Prop} {C B : En → Sto → Prop}
theorem o_toS {α : Type} {r : Res α} {k : α → Sto → Out} (h : wx (fun c d s => Y c d env s) r fun a s => wox Y (k a s) N R C B) : wox Y (r.toS env k) N R C B := by
  cases r with
  | ok a s => exact h
  | exc c d s => exact h
  | bad => exact h
theorem o_seq (h : wox Y (f env st) (fun e s => wox Y (g e s) N R C B) R C B) : wox Y (sSeq f g env st) N R C B := by
  unfold sSeq
  cases q : f env st with
  | nx e s => rw [q] at h; exact h
  | rt e s => rw [q] at h; exact h
  | ct e s => rw [q] at h; exact h
  | bk e s => rw [q] at h; exact h
  | exc c d e s => rw [q] at h; exact h
  | bad => rw [q] at h; exact h
theorem o_set {i : Nat} (h : wx (fun c d s => Y c d env s) (fa env st) fun d s => N (env.set i (some d)) s) : wox Y (sSet i fa env st) N R C B := o_toS h
theorem o_if (h : wx (fun c d s => Y c d env s) (ta env st) fun b s => (b = true → wox Y (f env s) N R C B) ∧ (b = false → wox Y (g env s) N R C B)) : wox Y (sIf ta f g env st) N R C B :=
  o_toS (w_mono h fun b s k => by
    cases b with
    | true => exact k.1 rfl
    | false => exact k.2 rfl)
theorem o_nil (h : N env st) : wox Y (sNil env st) N R C B := h
theorem o_expr (h : wx (fun c d s => Y c d env s) (fa env st) fun _ s => N env s) : wox Y (sExpr fa env st) N R C B := o_toS h
theorem o_ret (h : wx (fun c d s => Y c d env s) (fa env st) R) : wox Y (sRet fa env st) N R C B := o_toS h
theorem o_retN (h : R .non st) : wox Y (sRetN env st) N R C B := h
theorem o_brk (h : B env st) : wox Y (sBrk env st) N R C B := h
theorem o_cont (h : C env st) : wox Y (sCont env st) N R C B := h
theorem o_asg {gm : GM} (h : wx (fun c d s => Y c d env s) (fa env st) fun d s => ∃ e1 s1, gm d env s = some (e1, s1) ∧ N e1 s1) : wox Y (sAsg gm fa env st) N R C B :=
  o_toS (w_mono h fun d s ⟨e1, s1, e, k⟩ => by
    rw [e]
    exact k)
theorem o_for {fi : EM IterD} {gm : GM} (h : wx (fun c d s => Y c d env s) (fi env st) fun it s => ∃ I : Nat → En → Sto → Prop, I 0 env s ∧ (∀ j e s, I j e s → lockB it.lock s = true) ∧
    (∀ j x, it.items[j]? = some x → ∀ e s, I j e s → ∃ e1 s1, gm x e s = some (e1, s1) ∧ wox Y (f e1 s1) (I (j + 1)) R (I (j + 1)) N) ∧ ∀ e s, I it.items.length e s → N e s) : wox Y (sFor fi gm f env st) N R C B := by
  refine o_toS (w_mono h fun it s ⟨I, h0, hl, hs, hn⟩ => ?_)
  have go : ∀ (items : List D) (j : Nat) (env : En) (s : Sto), I j env s → j + items.length = it.items.length → (∀ i x, items[i]? = some x → it.items[j + i]? = some x) → wox Y (forL it.lock gm f items env s) N R C B := by
    intro items
    induction items with
    | nil =>
      intro j env s h0 hj _
      unfold forL
      rw [if_pos (hl j env s h0)]
      refine hn _ _ ?_
      rw [← hj]
      exact h0
    | cons x xs ih =>
      intro j env s h0 hj hx
      obtain ⟨e1, s1, q1, q2⟩ := hs j x (by simpa using hx 0 x rfl) env s h0
      unfold forL
      rw [if_pos (hl j env s h0), q1]
      have nxt : ∀ e2 s2, I (j + 1) e2 s2 → wox Y (forL it.lock gm f xs e2 s2) N R C B := fun e2 s2 hi => ih (j + 1) e2 s2 hi (by rw [List.length_cons] at hj; omega) fun i y hy => by
        have := hx (i + 1) y (by simpa using hy)
        rw [show j + 1 + i = j + (i + 1) by omega]
        exact this
      show wox Y (match f e1 s1 with
        | .nx env2 st2 => forL it.lock gm f xs env2 st2
        | .ct env2 st2 => forL it.lock gm f xs env2 st2
        | .bk env2 st2 => .nx env2 st2
        | o => o) N R C B
      cases q : f e1 s1 with
      | nx e s => rw [q] at q2; exact nxt e s q2
      | ct e s => rw [q] at q2; exact nxt e s q2
      | bk e s => rw [q] at q2; exact q2
      | rt d s => rw [q] at q2; exact q2
      | exc c d e s => rw [q] at q2; exact q2
      | bad => rw [q] at q2; exact q2
  exact go it.items 0 env s h0 (by omega) (fun i x hx => by rw [Nat.zero_add]; exact hx)
end
/-- a def's end -/
def fin (st : Sto) (Q : D → Sto → Prop) (d : D) (s : Sto) : Prop := ∃ e, frz s st.length 5 d = some e ∧ popB st s = true ∧ Q e (s.take st.length)
theorem w_run {X : Nat → D → Sto → Prop} {n : Nat} {f : SM} {ds : List D} {st : Sto} {Q : D → Sto → Prop} (h : wo (f (ds.map some ++ List.replicate (n - ds.length) none) st) (fun _ s => fin st Q .non s) (fin st Q) (fun _ _ => False) (fun _ _ => False)) : wx X (runF false n f ds st) Q := by
  refine wx_wp ?_
  unfold runF
  cases q : f (ds.map some ++ List.replicate (n - ds.length) none) st with
  | nx e s =>
    rw [q] at h
    obtain ⟨e, h1, h2, h3⟩ := h
    unfold bodyR popR
    simp only [h1, h2, Bool.false_eq_true, if_false, if_true]
    exact h3
  | rt d s =>
    rw [q] at h
    obtain ⟨e, h1, h2, h3⟩ := h
    unfold bodyR popR
    simp only [h1, h2, Bool.false_eq_true, if_false, if_true]
    exact h3
  | ct e s => rw [q] at h; exact h.elim
  | bk e s => rw [q] at h; exact h.elim
  | exc c d e s => rw [q] at h; exact h.elim
  | bad => rw [q] at h; exact h.elim
/-- a def's end that may be an error -/
def finX (st : Sto) (X : Nat → D → Sto → Prop) (c : Nat) (d : D) (s : Sto) : Prop := pl d = true ∧ popB st s = true ∧ X c d (s.take st.length)
theorem w_runX {n : Nat} {f : SM} {ds : List D} {st : Sto} {Q : D → Sto → Prop} {X : Nat → D → Sto → Prop} (h : wox (fun c d _ s => finX st X c d s) (f (ds.map some ++ List.replicate (n - ds.length) none) st) (fun _ s => fin st Q .non s) (fin st Q) (fun _ _ => False) (fun _ _ => False)) : wx X (runF false n f ds st) Q := by
  unfold runF
  cases q : f (ds.map some ++ List.replicate (n - ds.length) none) st with
  | nx e s =>
    rw [q] at h
    obtain ⟨e, h1, h2, h3⟩ := h
    unfold bodyR popR
    simp only [h1, h2, Bool.false_eq_true, if_false, if_true]
    exact h3
  | rt d s =>
    rw [q] at h
    obtain ⟨e, h1, h2, h3⟩ := h
    unfold bodyR popR
    simp only [h1, h2, Bool.false_eq_true, if_false, if_true]
    exact h3
  | exc c d e s =>
    rw [q] at h
    obtain ⟨h1, h2, h3⟩ := h
    unfold bodyR popR
    simp only [below_pl st.length d h1, h2, Bool.and_self, Bool.false_eq_true, if_false, if_true]
    exact h3
  | ct e s => rw [q] at h; exact h.elim
  | bk e s => rw [q] at h; exact h.elim
  | bad => rw [q] at h; exact h.elim
theorem chkE_set (m : Nat) (e : En) (i : Nat) (x : Option D) : chkE m e ((e.set i x).set i none) = true := by
  unfold chkE
  rw [List.all_eq_true]
  intro k hk
  rw [List.set_set]
  by_cases hi : i = k
  · subst hi
    by_cases hl : i < e.length
    · rw [List.getElem?_set_self hl]
    · rw [List.getElem?_eq_none (by simp; omega)]
  · rw [List.getElem?_set_ne hi]
    cases e[k]? with
    | none => rfl
    | some o => cases o with
      | none => rfl
      | some d => simp [dbeq_refl]
theorem chkE_none (m : Nat) (e : En) (i : Nat) : chkE m e (e.set i none) = true := by
  have := chkE_set m e i none
  rwa [List.set_set] at this
theorem chkE_same (m : Nat) (e : En) : chkE m e e = true := by
  unfold chkE
  rw [List.all_eq_true]
  intro k hk
  cases e[k]? with
  | none => rfl
  | some o => cases o with
    | none => rfl
    | some d => simp [dbeq_refl]
theorem o_raise {Y : Nat → D → En → Sto → Prop} {c : Nat} {fa : EM D} {env : En} {st : Sto} {N : En → Sto → Prop} {R : D → Sto → Prop} {C B : En → Sto → Prop} (h : wx (fun c d s => Y c d env s) (fa env st) fun d s => Y c d env s) : wox Y (sRaise c fa env st) N R C B := o_toS h
/-- a suite's end without change of the store -/
theorem o_try {Y : Nat → D → En → Sto → Prop} {mt : Nat → Option Bool} {i : Nat} {fb fs : SM} {env : En} {st : Sto} {N : En → Sto → Prop} {R : D → Sto → Prop} {C B : En → Sto → Prop} (h : wox (fun c d e s => ∃ b, mt c = some b ∧ (b = false → Y c d e s) ∧ (b = true → wo (fs (e.set i (some (.exn c d))) s) (fun e' s' => s' = s ∧ e' = (e.set i (some (.exn c d))) ∧ N (e.set i none) s) (fun d' s' => s' = s ∧ pl d' = true ∧ R d' s) (fun _ _ => False) (fun _ _ => False))) (fb env st) N R C B) : wox Y (sTry mt (some i) fb fs env st) N R C B := by
  unfold sTry
  cases q : fb env st with
  | nx e s => rw [q] at h; exact h
  | rt e s => rw [q] at h; exact h
  | ct e s => rw [q] at h; exact h
  | bk e s => rw [q] at h; exact h
  | bad => rw [q] at h; exact h
  | exc c d e s =>
    rw [q] at h
    obtain ⟨b, e1, h1, h2⟩ := h
    simp only [e1]
    cases b with
    | false => exact h1 rfl
    | true =>
      have h2 := h2 rfl
      simp only
      cases q2 : fs (e.set i (some (.exn c d))) s with
      | nx e' s' =>
        rw [q2] at h2
        obtain ⟨rfl, rfl, k⟩ := h2
        simp only [endX, endX.un, chkS_refl, chkE_set, chkE_none, chkE_same, Bool.and_self, if_true, List.set_set]
        exact k
      | rt d' s' =>
        rw [q2] at h2
        obtain ⟨rfl, k1, k2⟩ := h2
        simp only [endX, chkS_refl, below_pl _ _ k1, Bool.and_self, if_true]
        exact k2
      | exc c d e s => rw [q2] at h2; exact h2.elim
      | ct e s => rw [q2] at h2; exact h2.elim
      | bk e s => rw [q2] at h2; exact h2.elim
      | bad => rw [q2] at h2; exact h2.elim
/-- a suite's end without change of the store -/
theorem o_try0 {Y : Nat → D → En → Sto → Prop} {mt : Nat → Option Bool} {fb fs : SM} {env : En} {st : Sto} {N : En → Sto → Prop} {R : D → Sto → Prop} {C B : En → Sto → Prop} (h : wox (fun c d e s => ∃ b, mt c = some b ∧ (b = false → Y c d e s) ∧ (b = true → wo (fs e s) (fun e' s' => s' = s ∧ e' = e ∧ N e s) (fun d' s' => s' = s ∧ pl d' = true ∧ R d' s) (fun _ _ => False) (fun _ _ => False))) (fb env st) N R C B) : wox Y (sTry mt none fb fs env st) N R C B := by
  unfold sTry
  cases q : fb env st with
  | nx e s => rw [q] at h; exact h
  | rt e s => rw [q] at h; exact h
  | ct e s => rw [q] at h; exact h
  | bk e s => rw [q] at h; exact h
  | bad => rw [q] at h; exact h
  | exc c d e s =>
    rw [q] at h
    obtain ⟨b, e1, h1, h2⟩ := h
    simp only [e1]
    cases b with
    | false => exact h1 rfl
    | true =>
      have h2 := h2 rfl
      simp only
      cases q2 : fs e s with
      | nx e' s' =>
        rw [q2] at h2
        obtain ⟨rfl, rfl, k⟩ := h2
        simp only [endX, endX.un, chkS_refl, chkE_set, chkE_none, chkE_same, Bool.and_self, if_true, List.set_set]
        exact k
      | rt d' s' =>
        rw [q2] at h2
        obtain ⟨rfl, k1, k2⟩ := h2
        simp only [endX, chkS_refl, below_pl _ _ k1, Bool.and_self, if_true]
        exact k2
      | exc c d e s => rw [q2] at h2; exact h2.elim
      | ct e s => rw [q2] at h2; exact h2.elim
      | bk e s => rw [q2] at h2; exact h2.elim
      | bad => rw [q2] at h2; exact h2.elim
/-- a def's end with plain data -/
theorem fin_pl {st s : Sto} {Q : D → Sto → Prop} {d : D} (p : pl d = true) (b : popB st s = true) (q : Q d (s.take st.length)) : fin st Q d s := ⟨d, frz_pl _ _ p _, b, q⟩
theorem fin_same {st : Sto} {Q : D → Sto → Prop} {d : D} (p : pl d = true) (q : Q d st) : fin st Q d st := fin_pl p (popB_refl st) (by rw [List.take_of_length_le (Nat.le_refl _)]; exact q)
/-- a comprehension, its cell on top of a state that goes on -/
theorem w_comp {X : Nat → D → Sto → Prop} {fi : EM IterD} {vs : List Nat} {t : Tgt} {ft : EM Bool} {fe : EM D} {env : En} {st : Sto} {Q : D → Sto → Prop} (h : wp (fi env st) fun it s1 => ∃ I : Nat → List D → Sto → Prop, it.items.length < LIM ∧ I 0 [] s1 ∧
    (∀ j acc s, I j acc s → acc.length ≤ j ∧ s.length = s1.length ∧ lockB it.lock (s ++ [.lst acc]) = true) ∧
    (∀ j x, it.items[j]? = some x → ∀ acc s, I j acc s → ∃ e1, tgtD t x (wipeE env vs) = some e1 ∧ wp (ft e1 (s ++ [.lst acc])) fun c s2 =>
      (c = true → wp (fe e1 s2) fun d s3 => ∃ s4, s3 = s4 ++ [.lst acc] ∧ I (j + 1) (acc ++ [d]) s4) ∧ (c = false → ∃ s4, s2 = s4 ++ [.lst acc] ∧ I (j + 1) acc s4)) ∧
    ∀ acc s, I it.items.length acc s → plL acc = true ∧ popB s1 s = true ∧ Q (.lst acc) s) : wx X (mComp false fi vs t ft fe env st) Q := by
  refine wx_wp ?_
  unfold mComp
  refine w_bind (w_mono h fun it s1 ⟨I, hlim, h0, hl, hs, hn⟩ => ?_)
  have hget : ∀ (s : Sto) (acc : List D), s.length = s1.length → (s ++ [Cell.lst acc])[s1.length]? = some (.lst acc) := fun s acc e => by
    rw [← e]
    simp
  have hset : ∀ (s : Sto) (acc b : List D), s.length = s1.length → (s ++ [Cell.lst acc]).set s1.length (.lst b) = s ++ [.lst b] := fun s acc b e => by
    rw [← e]
    simp
  have go : ∀ (items : List D) (j : Nat) (acc : List D) (s : Sto), I j acc s → j + items.length = it.items.length → (∀ i x, items[i]? = some x → it.items[j + i]? = some x) →
      ∃ acc' s', compL it.lock vs t ft fe env s1.length items (s ++ [.lst acc]) = .ok (.ref s1.length) (s' ++ [.lst acc']) ∧ I it.items.length acc' s' := by
    intro items
    induction items with
    | nil =>
      intro j acc s h0 hj _
      refine ⟨acc, s, ?_, by rw [← hj]; exact h0⟩
      unfold compL
      rw [if_pos (hl j acc s h0).2.2]
    | cons x xs ih =>
      intro j acc s h0 hj hx
      obtain ⟨l1, l2, l3⟩ := hl j acc s h0
      obtain ⟨e1, q1, q2⟩ := hs j x (by simpa using hx 0 x rfl) acc s h0
      obtain ⟨c, s2, c1, c2, c3⟩ := w_out q2
      have hlen : acc.length < LIM := by
        rw [List.length_cons] at hj
        omega
      have nxt : ∀ acc2 s4, I (j + 1) acc2 s4 → ∃ acc' s', compL it.lock vs t ft fe env s1.length xs (s4 ++ [.lst acc2]) = .ok (.ref s1.length) (s' ++ [.lst acc']) ∧ I it.items.length acc' s' := fun acc2 s4 hi => ih (j + 1) acc2 s4 hi (by rw [List.length_cons] at hj; omega) fun i y hy => by
        have := hx (i + 1) y (by simpa using hy)
        rw [show j + 1 + i = j + (i + 1) by omega]
        exact this
      unfold compL
      rw [if_pos l3, q1]
      simp only [c1]
      cases c with
      | true =>
        obtain ⟨d, s3, d1, s4, d2, d3⟩ := w_out (c2 rfl)
        subst d2
        have l4 := (hl _ _ _ d3).2.1
        simp only [d1, hget s4 acc l4, hlen, if_true, hset s4 acc _ l4]
        exact nxt _ _ d3
      | false =>
        obtain ⟨s4, d2, d3⟩ := c3 rfl
        subst d2
        exact nxt _ _ d3
  obtain ⟨acc, s, e, hi⟩ := go it.items 0 [] s1 h0 (by omega) (fun i x hx => by rw [Nat.zero_add]; exact hx)
  obtain ⟨p1, p2, p3⟩ := hn acc s hi
  have l4 := (hl _ _ _ hi).2.1
  rw [e]
  have hf : frz (s ++ [Cell.lst acc]) s1.length 5 (.ref s1.length) = some (.lst acc) := by
    unfold frz frzG
    simp only [Nat.lt_irrefl, if_false, hget s acc l4]
    rw [frzL_pl _ _ p1]
  have hp : popB s1 (s ++ [Cell.lst acc]) = true := by
    unfold popB at p2 ⊢
    rw [List.all_eq_true] at p2 ⊢
    intro k hk
    have := p2 k hk
    have hk := List.mem_range.mp hk
    rw [List.getElem?_append_left (by omega)]
    exact this
  unfold popR
  simp only [Bool.false_eq_true, if_false, hf, hp, if_true]
  have : (s ++ [Cell.lst acc]).take s1.length = s := by
    rw [← l4]
    simp
  rw [this]
  exact p3
theorem ex_bl {b : Bool} {P : Bool → Prop} (q : P b) : ∃ b', D.bl b = .bl b' ∧ P b' := ⟨b, rfl, q⟩
theorem ex_int {b : Int} {P : Int → Prop} (q : P b) : ∃ b', D.int b = .int b' ∧ P b' := ⟨b, rfl, q⟩
/-! ### what operators give -/
section
variable {X : Nat → D → Sto → Prop} {st : Sto} {Q : D → Sto → Prop} {i j : Int} {ds : List D} {d : D} {k : Nat}
theorem w_add (q : Q (.int (i + j)) st) : wx X (lift (oAdd false (.int i) (.int j) st)) Q := q
theorem w_sub (q : Q (.int (i - j)) st) : wx X (lift (oSub (.int i) (.int j) st)) Q := q
theorem w_mod (h : 0 < j) (q : Q (.int (i % j)) st) : wx X (lift (oMod (.int i) (.int j) st)) Q := by
  refine w_lift (d := .int (i % j)) (s := st) ?_ q
  unfold oMod pu
  simp only [if_pos h]
theorem w_gt (q : Q (.bl (decide (j < i))) st) : wx X (lift (oGt (.int i) (.int j) st)) Q := q
theorem w_lt (q : Q (.bl (decide (i < j))) st) : wx X (lift (oLt (.int i) (.int j) st)) Q := q
theorem w_ge (q : Q (.bl (decide (j ≤ i))) st) : wx X (lift (oGe (.int i) (.int j) st)) Q := q
theorem w_le (q : Q (.bl (decide (i ≤ j))) st) : wx X (lift (oLe (.int i) (.int j) st)) Q := q
theorem w_eqI (q : Q (.bl (decide (i = j))) st) : wx X (lift (oEq false (.int i) (.int j) st)) Q := q
theorem w_neI (q : Q (.bl (!decide (i = j))) st) : wx X (lift (oEq true (.int i) (.int j) st)) Q := q
theorem w_eqS {x y : Str} (q : Q (.bl (decide (x = y))) st) : wx X (lift (oEq false (.str x) (.str y) st)) Q := q
theorem w_neS {x y : Str} (q : Q (.bl (!decide (x = y))) st) : wx X (lift (oEq true (.str x) (.str y) st)) Q := q
theorem w_ixT (h : L2.atI ds i = some d) (q : Q d st) : wx X (lift (oIx (.tup ds) (.int i) st)) Q := by
  refine w_lift (d := d) (s := st) ?_ q
  unfold oIx
  simp only [h]
theorem w_ixL (h : L2.atI ds i = some d) (q : Q d st) : wx X (lift (oIx (.lst ds) (.int i) st)) Q := by
  refine w_lift (d := d) (s := st) ?_ q
  unfold oIx seqR
  simp only [seqW, h]
theorem w_ixR (hk : st[k]? = some (.lst ds)) (h : L2.atI ds i = some d) (q : Q d st) : wx X (lift (oIx (.ref k) (.int i) st)) Q := by
  refine w_lift (d := d) (s := st) ?_ q
  unfold oIx seqR
  simp only [seqW, hk, h]
theorem w_lenT (q : Q (.int ds.length) st) : wx X (lift (oLen (.tup ds) st)) Q := q
theorem w_lenL (q : Q (.int ds.length) st) : wx X (lift (oLen (.lst ds) st)) Q := q
theorem w_lenR (hk : st[k]? = some (.lst ds)) (q : Q (.int ds.length) st) : wx X (lift (oLen (.ref k) st)) Q := by
  refine w_lift (d := .int ds.length) (s := st) ?_ q
  unfold oLen seqR
  simp only [seqW, hk]
theorem w_intI (q : Q (.int i) st) : wx X (lift (oInt (.int i) st)) Q := q
theorem w_intB {b : Bool} (q : Q (.int (if b then 1 else 0)) st) : wx X (lift (oInt (.bl b) st)) Q := q
theorem w_tupT (q : Q (.tup ds) st) : wx X (lift (oTuple (.tup ds) st)) Q := q
theorem w_tupL (q : Q (.tup ds) st) : wx X (lift (oTuple (.lst ds) st)) Q := q
theorem w_tupR (hk : st[k]? = some (.lst ds)) (q : Q (.tup ds) st) : wx X (lift (oTuple (.ref k) st)) Q := by
  refine w_lift (d := .tup ds) (s := st) ?_ q
  unfold oTuple seqR
  simp only [seqW, hk]
theorem w_addL {es : List D} (h : ds.length + es.length ≤ LIM) (q : Q (.lst (ds ++ es)) st) : wx X (lift (oAdd false (.lst ds) (.lst es) st)) Q := by
  refine w_lift (d := .lst (ds ++ es)) (s := st) ?_ q
  unfold oAdd
  simp only [seqW, if_pos h]
  rfl
theorem w_addT {es : List D} (h : ds.length + es.length ≤ LIM) (q : Q (.tup (ds ++ es)) st) : wx X (lift (oAdd false (.tup ds) (.tup es) st)) Q := by
  refine w_lift (d := .tup (ds ++ es)) (s := st) ?_ q
  unfold oAdd
  simp only [if_pos h]
theorem w_slT {lo hi : Option Int} (q : Q (.tup (cutD ds lo hi)) st) : wx X (lift (oSl false (.tup ds) lo hi st)) Q := q
theorem w_slL {lo hi : Option Int} (q : Q (.lst (cutD ds lo hi)) st) : wx X (lift (oSl false (.lst ds) lo hi st)) Q := q
theorem w_app {x : D} (hk : st[k]? = some (.lst ds)) (hl : ds.length < LIM) (q : Q .non (st.set k (.lst (ds ++ [x])))) : wx X (lift (oAppend (.ref k) [x] st)) Q := by
  refine w_lift (d := .non) (s := st.set k (.lst (ds ++ [x]))) ?_ q
  unfold oAppend onCell
  simp only [hk, if_pos hl]
theorem w_pow (h0 : 0 ≤ j) (h1 : j ≤ 1000000) (h2 : i.natAbs < 2 ^ 64) (q : Q (.int (i ^ j.toNat)) st) : wx X (lift (oPow (.int i) (.int j) st)) Q := by
  refine w_lift (d := .int (i ^ j.toNat)) (s := st) ?_ q
  unfold oPow pu
  simp only [h0, h1, h2, and_self, if_true]
theorem x_lenT {d : D} (e : d = .tup ds) (q : Q (.int ds.length) st) : wx X (lift (oLen d st)) Q := by
  subst e
  exact q
theorem x_lenL {d : D} (e : d = .lst ds) (q : Q (.int ds.length) st) : wx X (lift (oLen d st)) Q := by
  subst e
  exact q
theorem x_ixT {d x : D} (e : x = .tup ds) (h : L2.atI ds i = some d) (q : Q d st) : wx X (lift (oIx x (.int i) st)) Q := by
  subst e
  exact w_ixT h q
theorem x_ixL {d x : D} (e : x = .lst ds) (h : L2.atI ds i = some d) (q : Q d st) : wx X (lift (oIx x (.int i) st)) Q := by
  subst e
  exact w_ixL h q
theorem ex_neg {P : D → Prop} (q : P (.int (-i))) : ∃ d, oNeg (.int i) = some d ∧ P d := ⟨_, rfl, q⟩
end
end Cw

/-! == and in over plain data without bools. -/
namespace Cw
open PySem
def dat : Nat → D → Bool
  | _, .non => true
  | _, .int _ => true
  | _, .str x => PyData.strOk x
  | k + 1, .tup ds => ds.all (dat k)
  | k + 1, .lst ds => ds.all (dat k)
  | _, _ => false
theorem dat_str (k : Nat) {x : Str} (h : PyData.strOk x = true) : dat k (.str x) = true := by cases k <;> exact h
theorem dat_int (k : Nat) (i : Int) : dat k (.int i) = true := by cases k <;> rfl
theorem dat_non (k : Nat) : dat k .non = true := by cases k <;> rfl
theorem dat_up : ∀ {k : Nat} {d : D}, dat k d = true → dat (k + 1) d = true
  | k, .non, _ => rfl
  | k, .int _, _ => rfl
  | 0, .str _, h => h
  | k + 1, .str _, h => h
  | k + 1, .tup ds, h => by
    unfold dat at h ⊢
    rw [List.all_eq_true] at h ⊢
    exact fun x hx => dat_up (h x hx)
  | k + 1, .lst ds, h => by
    unfold dat at h ⊢
    rw [List.all_eq_true] at h ⊢
    exact fun x hx => dat_up (h x hx)
  | 0, .tup _, h => by simp [dat] at h
  | 0, .lst _, h => by simp [dat] at h
  | k, .bl _, h => by cases k <;> simp [dat] at h
  | k, .scr _, h => by cases k <;> simp [dat] at h
  | k, .obj _ _ _, h => by cases k <;> simp [dat] at h
  | k, .ref _, h => by cases k <;> simp [dat] at h
  | k, .exn _ _, h => by cases k <;> simp [dat] at h
theorem dat_le {j k : Nat} {d : D} (h : dat j d = true) (hk : j ≤ k) : dat k d = true := by
  induction hk with
  | refl => exact h
  | step _ ih => exact dat_up ih
theorem dat_py : ∀ (k : Nat) (d : D), dat k d = true → ∃ p, toPy d = some p ∧ p.canLay0 = true ∧ p.depth ≤ k
  | k, .non, _ => ⟨.none, by unfold toPy; rfl, by simp [PyData.canLay0], by simp [PyData.depth]⟩
  | k, .int i, _ => ⟨.int i, by unfold toPy; rfl, by simp [PyData.canLay0], by simp [PyData.depth]⟩
  | k, .str x, h => ⟨.str x, by unfold toPy; rfl, by
      have h : PyData.strOk x = true := by cases k <;> exact h
      simpa [PyData.canLay0] using h, by simp [PyData.depth]⟩
  | 0, .tup _, h => by simp [dat] at h
  | 0, .lst _, h => by simp [dat] at h
  | k + 1, .tup ds, h => by
    have go : ∀ ds : List D, (∀ x ∈ ds, dat k x = true) → ∃ ps, toPyL ds = some ps ∧ PyData.canLayAll0 ps = true ∧ PyData.depthAll ps ≤ k := fun ds => by
      induction ds with
      | nil => exact fun _ => ⟨[], by unfold toPyL; rfl, by simp [PyData.canLayAll0], by simp [PyData.depthAll]⟩
      | cons x xs ih =>
        intro hx
        obtain ⟨ps, e1, e2, e3⟩ := ih fun y hy => hx y (List.mem_cons_of_mem _ hy)
        obtain ⟨p, f1, f2, f3⟩ := dat_py k x (hx x (List.mem_cons_self ..))
        exact ⟨p :: ps, by unfold toPyL; rw [f1, e1], by simp only [PyData.canLayAll0, f2, e2, Bool.and_self], by simp only [PyData.depthAll]; omega⟩
    unfold dat at h
    obtain ⟨ps, e1, e2, e3⟩ := go ds (List.all_eq_true.mp h)
    exact ⟨.tuple ps, by unfold toPy; rw [e1], by simpa [PyData.canLay0] using e2, by simp only [PyData.depth]; omega⟩
  | k + 1, .lst ds, h => by
    have go : ∀ ds : List D, (∀ x ∈ ds, dat k x = true) → ∃ ps, toPyL ds = some ps ∧ PyData.canLayAll0 ps = true ∧ PyData.depthAll ps ≤ k := fun ds => by
      induction ds with
      | nil => exact fun _ => ⟨[], by unfold toPyL; rfl, by simp [PyData.canLayAll0], by simp [PyData.depthAll]⟩
      | cons x xs ih =>
        intro hx
        obtain ⟨ps, e1, e2, e3⟩ := ih fun y hy => hx y (List.mem_cons_of_mem _ hy)
        obtain ⟨p, f1, f2, f3⟩ := dat_py k x (hx x (List.mem_cons_self ..))
        exact ⟨p :: ps, by unfold toPyL; rw [f1, e1], by simp only [PyData.canLayAll0, f2, e2, Bool.and_self], by simp only [PyData.depthAll]; omega⟩
    unfold dat at h
    obtain ⟨ps, e1, e2, e3⟩ := go ds (List.all_eq_true.mp h)
    exact ⟨.list ps, by unfold toPy; rw [e1], by simpa [PyData.canLay0] using e2, by simp only [PyData.depth]; omega⟩
  | k, .bl _, h => by cases k <;> simp [dat] at h
  | k, .scr _, h => by cases k <;> simp [dat] at h
  | k, .obj _ _ _, h => by cases k <;> simp [dat] at h
  | k, .ref _, h => by cases k <;> simp [dat] at h
  | k, .exn _ _, h => by cases k <;> simp [dat] at h
mutual
theorem eqv_dat : ∀ (a b : D) (p q : PyData), (∃ k, dat k a = true) → (∃ k, dat k b = true) → toPy a = some p → toPy b = some q → PyData.eqv p q = dbeq a b := by
  intro a b p q ha hb e1 e2
  obtain ⟨k, ha⟩ := ha
  obtain ⟨j, hb⟩ := hb
  have go : ∀ xs ys : List D, (∃ k, ∀ x ∈ xs, dat k x = true) → (∃ k, ∀ x ∈ ys, dat k x = true) → (match a with
    | .tup zs => zs = xs
    | .lst zs => zs = xs
    | _ => False) → ∀ ps qs, toPyL xs = some ps → toPyL ys = some qs → PyData.eqvAll ps qs = dbeqL xs ys := fun xs ys hx hy hz ps qs => by
    cases a with
    | tup zs => subst hz; exact eqvL_dat _ ys ps qs hx hy
    | lst zs => subst hz; exact eqvL_dat _ ys ps qs hx hy
    | _ => exact hz.elim
  cases a with
  | non =>
    unfold toPy at e1
    cases e1
    cases b <;> simp only [toPy, Option.some.injEq, reduceCtorEq] at e2
    all_goals (try subst e2)
    all_goals (first | (simp [PyData.eqv, dbeq]; done) | (cases j <;> simp [dat] at hb; done) | skip)
    all_goals (split at e2 <;> first | (cases e2; simp [PyData.eqv, dbeq]; done) | cases e2)
  | int i =>
    unfold toPy at e1
    cases e1
    cases b <;> simp only [toPy, Option.some.injEq, reduceCtorEq] at e2
    all_goals (try subst e2)
    all_goals (try (cases j <;> simp [dat] at hb; done))
    all_goals (try (simp [PyData.eqv, dbeq]; done))
    all_goals (split at e2 <;> cases e2; simp [PyData.eqv, dbeq])
  | str i =>
    unfold toPy at e1
    cases e1
    cases b <;> simp only [toPy, Option.some.injEq, reduceCtorEq] at e2
    all_goals (try subst e2)
    all_goals (try (cases j <;> simp [dat] at hb; done))
    all_goals (try (simp [PyData.eqv, dbeq]; done))
    all_goals (try (rw [Bool.eq_iff_iff]; simp [PyData.eqv, dbeq]; done))
    all_goals (split at e2 <;> cases e2; simp [PyData.eqv, dbeq])
  | tup xs =>
    cases k with
    | zero => simp [dat] at ha
    | succ k =>
      unfold dat at ha
      unfold toPy at e1
      split at e1
      · rename_i ps q1
        cases e1
        cases b with
        | tup ys =>
          cases j with
          | zero => simp [dat] at hb
          | succ j =>
            unfold dat at hb
            unfold toPy at e2
            split at e2
            · rename_i qs q2
              cases e2
              unfold PyData.eqv dbeq
              exact go xs ys ⟨k, List.all_eq_true.mp ha⟩ ⟨j, List.all_eq_true.mp hb⟩ rfl ps qs q1 q2
            · cases e2
        | lst ys =>
          unfold toPy at e2
          split at e2
          · cases e2; simp [PyData.eqv, dbeq]
          · cases e2
        | _ =>
          first
            | (cases j <;> simp [dat] at hb; done)
            | (simp only [toPy, Option.some.injEq, reduceCtorEq] at e2; try subst e2
               simp [PyData.eqv, dbeq])
      · cases e1
  | lst xs =>
    cases k with
    | zero => simp [dat] at ha
    | succ k =>
      unfold dat at ha
      unfold toPy at e1
      split at e1
      · rename_i ps q1
        cases e1
        cases b with
        | lst ys =>
          cases j with
          | zero => simp [dat] at hb
          | succ j =>
            unfold dat at hb
            unfold toPy at e2
            split at e2
            · rename_i qs q2
              cases e2
              unfold PyData.eqv dbeq
              exact go xs ys ⟨k, List.all_eq_true.mp ha⟩ ⟨j, List.all_eq_true.mp hb⟩ rfl ps qs q1 q2
            · cases e2
        | tup ys =>
          unfold toPy at e2
          split at e2
          · cases e2; simp [PyData.eqv, dbeq]
          · cases e2
        | _ =>
          first
            | (cases j <;> simp [dat] at hb; done)
            | (simp only [toPy, Option.some.injEq, reduceCtorEq] at e2; try subst e2
               simp [PyData.eqv, dbeq])
      · cases e1
  | _ => cases k <;> simp [dat] at ha
theorem eqvL_dat : ∀ (xs ys : List D) (ps qs : List PyData), (∃ k, ∀ x ∈ xs, dat k x = true) → (∃ k, ∀ x ∈ ys, dat k x = true) → toPyL xs = some ps → toPyL ys = some qs → PyData.eqvAll ps qs = dbeqL xs ys
  | [], [], ps, qs, _, _, e1, e2 => by
    unfold toPyL at e1 e2
    cases e1
    cases e2
    simp [PyData.eqvAll, dbeqL]
  | [], y :: ys, ps, qs, _, _, e1, e2 => by
    unfold toPyL at e1 e2
    cases e1
    split at e2
    · cases e2; simp [PyData.eqvAll, dbeqL]
    · cases e2
  | x :: xs, [], ps, qs, _, _, e1, e2 => by
    unfold toPyL at e1 e2
    cases e2
    split at e1
    · cases e1; simp [PyData.eqvAll, dbeqL]
    · cases e1
  | x :: xs, y :: ys, ps, qs, hx, hy, e1, e2 => by
    obtain ⟨k, hx⟩ := hx
    obtain ⟨j, hy⟩ := hy
    unfold toPyL at e1 e2
    split at e1
    · rename_i p ps' f1 f2
      cases e1
      split at e2
      · rename_i q qs' g1 g2
        cases e2
        unfold PyData.eqvAll dbeqL
        rw [eqv_dat x y p q ⟨k, hx x (List.mem_cons_self ..)⟩ ⟨j, hy y (List.mem_cons_self ..)⟩ f1 g1, eqvL_dat xs ys ps' qs' ⟨k, fun z hz => hx z (List.mem_cons_of_mem _ hz)⟩ ⟨j, fun z hz => hy z (List.mem_cons_of_mem _ hz)⟩ f2 g2]
      · cases e2
    · cases e1
end
/-- what a value shows: a live list as a list -/
def vw (st : Sto) (d : D) : D := match d with
  | .ref k => match st[k]? with
    | some (.lst ds) => .lst ds
    | _ => d
  | d => d
theorem pyOf_vw (st : Sto) (d : D) (h : dat 64 (vw st d) = true) : ∃ p, pyOf st d = some p ∧ toPy (vw st d) = some p ∧ SeqAt.shaped p = true := by
  obtain ⟨p, e1, e2, e3⟩ := dat_py 64 _ h
  refine ⟨p, ?_, e1, by unfold SeqAt.shaped; rw [e2, Bool.true_and, decide_eq_true_eq]; exact e3⟩
  cases d with
  | ref k =>
    unfold pyOf seqW
    unfold vw at h e1
    simp only at h e1 ⊢
    split at e1
    · rename_i ds q
      simp only [q]
      unfold toPy at e1
      split at e1
      · rename_i ps q2
        cases e1
        simp only [q2]
      · cases e1
    · simp [toPy] at e1
  | _ => exact e1
theorem dbeq_iff {a b : D} : dbeq a b = true ↔ a = b := ⟨dbeq_eq a b, fun h => by rw [h]; exact dbeq_refl b⟩
theorem dbeq_comm (a b : D) : dbeq a b = dbeq b a := by
  rw [Bool.eq_iff_iff, dbeq_iff, dbeq_iff]
  exact eq_comm
theorem eqD_dat {st : Sto} {a b : D} (ha : dat 64 (vw st a) = true) (hb : dat 64 (vw st b) = true) : eqD st a b = some (dbeq (vw st a) (vw st b)) := by
  obtain ⟨p, p1, p2, p3⟩ := pyOf_vw st a ha
  obtain ⟨q, q1, q2, q3⟩ := pyOf_vw st b hb
  have e := eqv_dat _ _ p q ⟨64, ha⟩ ⟨64, hb⟩ p2 q2
  have gen : (match pyOf st a, pyOf st b with
    | some p, some q => if (SeqAt.shaped p && SeqAt.shaped q) = true then some (PyData.eqv p q) else none
    | _, _ => none) = some (dbeq (vw st a) (vw st b)) := by
    simp only [p1, q1, p3, q3, Bool.and_self, if_true, e]
  unfold eqD
  split
  · (first | (simp [vw, dbeq]; done) | (simp only [vw, dbeq, Option.some.injEq]; rw [Bool.eq_iff_iff]; simp))
  · (first | (simp [vw, dbeq]; done) | (simp only [vw, dbeq, Option.some.injEq]; rw [Bool.eq_iff_iff]; simp))
  · (first | (simp [vw, dbeq]; done) | (simp only [vw, dbeq, Option.some.injEq]; rw [Bool.eq_iff_iff]; simp))
  · (first | (simp [vw, dbeq]; done) | (simp only [vw, dbeq, Option.some.injEq]; rw [Bool.eq_iff_iff]; simp))
  · (first | (simp [vw, dbeq]; done) | (simp only [vw, dbeq, Option.some.injEq]; rw [Bool.eq_iff_iff]; simp))
  · (first | (simp [vw, dbeq]; done) | (simp only [vw, dbeq, Option.some.injEq]; rw [Bool.eq_iff_iff]; simp))
  · (first | (simp [vw, dbeq]; done) | (simp only [vw, dbeq, Option.some.injEq]; rw [Bool.eq_iff_iff]; simp))
  · (first | (simp [vw, dbeq]; done) | (simp only [vw, dbeq, Option.some.injEq]; rw [Bool.eq_iff_iff]; simp))
  · (first | (simp [vw, dbeq]; done) | (simp only [vw, dbeq, Option.some.injEq]; rw [Bool.eq_iff_iff]; simp))
  · (first | (simp [vw, dbeq]; done) | (simp only [vw, dbeq, Option.some.injEq]; rw [Bool.eq_iff_iff]; simp))
  · exact gen
theorem eq_dat {st : Sto} {a b : D} {neg : Bool} (ha : dat 64 (vw st a) = true) (hb : dat 64 (vw st b) = true) : oEq neg a b st = some (.bl (if neg then !dbeq (vw st a) (vw st b) else dbeq (vw st a) (vw st b)), st) := by
  unfold oEq
  rw [eqD_dat ha hb]
theorem any_py {xs : List D} {ps : List PyData} {a : D} {p : PyData} (ha : ∃ k, dat k a = true) (hx : ∃ k, ∀ x ∈ xs, dat k x = true) (e1 : toPy a = some p) (e2 : toPyL xs = some ps) : ps.any (fun y => PyData.eqv y p) = xs.any fun x => dbeq x a := by
  induction xs generalizing ps with
  | nil =>
    unfold toPyL at e2
    cases e2
    rfl
  | cons x xs ih =>
    obtain ⟨k, hx⟩ := hx
    unfold toPyL at e2
    split at e2
    · rename_i q qs f1 f2
      cases e2
      rw [List.any_cons, List.any_cons, ih ⟨k, fun z hz => hx z (List.mem_cons_of_mem _ hz)⟩ f2, eqv_dat x a q p ⟨k, hx x (List.mem_cons_self ..)⟩ ha f1 e1]
    · cases e2
/-- the row that a value shows -/
def rowV (st : Sto) (d : D) : Option (List D) := match vw st d with
  | .lst ds => some ds
  | .tup ds => some ds
  | _ => none
theorem inD_dat {st : Sto} {a b : D} {xs : List D} (hb : rowV st b = some xs) (ha : dat 64 (vw st a) = true) (hx : ∀ x ∈ xs, dat 63 x = true) : inD st a b = some (xs.any fun x => dbeq x (vw st a)) := by
  have hvb : vw st b = .lst xs ∨ vw st b = .tup xs := by
    unfold rowV at hb
    split at hb
    · rename_i ds e; cases hb; exact .inl e
    · rename_i ds e; cases hb; exact .inr e
    · cases hb
  have hall : xs.all (dat 63) = true := List.all_eq_true.mpr hx
  have hdb : dat 64 (vw st b) = true := by
    rcases hvb with e | e <;> rw [e]
    · exact hall
    · exact hall
  obtain ⟨p, p1, p2, p3⟩ := pyOf_vw st a ha
  obtain ⟨q, q1, q2, q3⟩ := pyOf_vw st b hdb
  obtain ⟨ps, e1, e2⟩ : ∃ ps, toPyL xs = some ps ∧ itemsPy q = some ps := by
    rcases hvb with e | e <;> rw [e] at q2 <;> unfold toPy at q2 <;> split at q2
    · rename_i ps h; cases q2; exact ⟨ps, h, rfl⟩
    · cases q2
    · rename_i ps h; cases q2; exact ⟨ps, h, rfl⟩
    · cases q2
  have gen : (match pyOf st a, pyOf st b with
    | some p, some q => match itemsPy q with
      | some l => if (SeqAt.shaped p && SeqAt.shaped q) = true then some (l.any fun y => PyData.eqv y p) else none
      | none => none
    | _, _ => none) = some (xs.any fun x => dbeq x (vw st a)) := by
    simp only [p1, q1, e2, p3, q3, Bool.and_self, if_true, any_py ⟨64, ha⟩ ⟨63, hx⟩ p2 e1]
  unfold inD
  split
  · rcases hvb with e | e <;> simp [vw] at e
  · exact gen
theorem in_dat {st : Sto} {a b : D} {xs : List D} {neg : Bool} (hb : rowV st b = some xs) (ha : dat 64 (vw st a) = true) (hx : ∀ x ∈ xs, dat 63 x = true) : oIn neg a b st = some (.bl (if neg then !(xs.any fun x => dbeq x (vw st a)) else xs.any fun x => dbeq x (vw st a)), st) := by
  unfold oIn
  rw [inD_dat hb ha hx]
theorem dbeq_inj {α : Type} [DecidableEq α] {f : α → D} (hf : ∀ a b, f a = f b → a = b) (a b : α) : dbeq (f a) (f b) = decide (a = b) := by
  rw [Bool.eq_iff_iff, dbeq_iff, decide_eq_true_eq]
  exact ⟨hf a b, fun h => by rw [h]⟩
theorem any_inj {α : Type} [DecidableEq α] {f : α → D} (hf : ∀ a b, f a = f b → a = b) (a : α) (xs : List α) : ((xs.map f).any fun x => dbeq x (f a)) = decide (a ∈ xs) := by
  rw [Bool.eq_iff_iff, List.any_eq_true, decide_eq_true_eq]
  constructor
  · rintro ⟨x, hx, e⟩
    obtain ⟨y, hy, rfl⟩ := List.mem_map.mp hx
    rw [← hf _ _ (dbeq_eq _ _ e)]
    exact hy
  · exact fun h => ⟨_, List.mem_map_of_mem h, dbeq_refl _⟩
theorem dat_map {α : Type} {k : Nat} {f : α → D} {l : List α} (h : ∀ a ∈ l, dat k (f a) = true) : dat (k + 1) (.tup (l.map f)) = true ∧ dat (k + 1) (.lst (l.map f)) = true := by
  have : (l.map f).all (dat k) = true := by
    rw [List.all_eq_true]
    intro x hx
    obtain ⟨a, ha, rfl⟩ := List.mem_map.mp hx
    exact h a ha
  exact ⟨this, this⟩
theorem pl_dat : ∀ (k : Nat) (d : D), dat k d = true → pl d = true
  | k, .non, _ => rfl
  | k, .int _, _ => rfl
  | k, .str _, _ => rfl
  | 0, .tup _, h => by simp [dat] at h
  | 0, .lst _, h => by simp [dat] at h
  | k + 1, .tup ds, h => by
    unfold dat at h
    unfold pl
    rw [plL_iff]
    exact fun x hx => pl_dat k x (List.all_eq_true.mp h x hx)
  | k + 1, .lst ds, h => by
    unfold dat at h
    unfold pl
    rw [plL_iff]
    exact fun x hx => pl_dat k x (List.all_eq_true.mp h x hx)
  | k, .bl _, h => by cases k <;> simp [dat] at h
  | k, .scr _, h => by cases k <;> simp [dat] at h
  | k, .obj _ _ _, h => by cases k <;> simp [dat] at h
  | k, .ref _, h => by cases k <;> simp [dat] at h
  | k, .exn _ _, h => by cases k <;> simp [dat] at h
theorem rng_at {n j : Nat} {x : D} (h : (rngD 0 n).items[j]? = some x) : j < n ∧ x = .int j := by
  have hj : j < n := by
    have := (List.getElem?_eq_some_iff.mp h).1
    simpa [rngD] using this
  refine ⟨hj, ?_⟩
  simp [rngD, hj] at h
  exact h.symm
theorem rng_len (n : Nat) : (rngD 0 n).items.length = n := by simp [rngD]
end Cw

/-! Rules for the walker. -/
namespace Cw
open PySem
section
variable {A B : Prop}
theorem if_T (h : A) : (true = true → A) ∧ (true = false → B) := ⟨fun _ => h, fun h => (by cases h)⟩
theorem if_F (h : B) : (false = true → A) ∧ (false = false → B) := ⟨fun h => (by cases h), fun _ => h⟩
theorem if_nT (h : B) : ((!true) = true → A) ∧ ((!true) = false → B) := ⟨fun h => (by cases h), fun _ => h⟩
theorem if_nF (h : A) : ((!false) = true → A) ∧ ((!false) = false → B) := ⟨fun _ => h, fun h => (by cases h)⟩
theorem if_d {p : Prop} [Decidable p] (h1 : p → A) (h2 : ¬ p → B) : (decide p = true → A) ∧ (decide p = false → B) := ⟨fun h => h1 (of_decide_eq_true h), fun h => h2 (of_decide_eq_false h)⟩
theorem if_nd {p : Prop} [Decidable p] (h1 : ¬ p → A) (h2 : p → B) : ((!decide p) = true → A) ∧ ((!decide p) = false → B) := ⟨fun h => h1 (by simpa using h), fun h => h2 (by simpa using h)⟩
end
theorem o_mid {Y : Nat → D → En → Sto → Prop} {o : Out} {N : En → Sto → Prop} {R : D → Sto → Prop} {C B : En → Sto → Prop} (P : En → Sto → Prop) (h : wox Y o P R C B) (h2 : ∀ e s, P e s → N e s) : wox Y o N R C B := o_mono h h2 (fun _ _ h => h) (fun _ _ h => h) (fun _ _ h => h)
def nIs (neg : Bool) (a : D) (Q : D → Sto → Prop) (s : Sto) : Prop := Q (.bl (match a with
  | .non => !neg
  | _ => neg)) s
section
variable {X : Nat → D → Sto → Prop} {env : En} {st : Sto} {Q : D → Sto → Prop} {fa : EM D} {neg : Bool}
theorem w_isM (h : wx X (fa env st) fun a s1 => nIs neg a Q s1) : wx X (mIsN neg fa env st) Q := w_isN h
theorem nI_non (q : Q (.bl (!neg)) st) : nIs neg .non Q st := q
theorem nI_nonT (q : Q (.bl false) st) : nIs true .non Q st := q
theorem nI_nonF (q : Q (.bl true) st) : nIs false .non Q st := q
theorem nI_int {i : Int} (q : Q (.bl neg) st) : nIs neg (.int i) Q st := q
theorem nI_str {i : Str} (q : Q (.bl neg) st) : nIs neg (.str i) Q st := q
theorem nI_tup {i : List D} (q : Q (.bl neg) st) : nIs neg (.tup i) Q st := q
theorem nI_lst {i : List D} (q : Q (.bl neg) st) : nIs neg (.lst i) Q st := q
theorem nI_ref {i : Nat} (q : Q (.bl neg) st) : nIs neg (.ref i) Q st := q
theorem nI_obj {c : Nat} {ks : List Nat} {xs : List D} (q : Q (.bl neg) st) : nIs neg (.obj c ks xs) Q st := q
theorem w_isiT {T : String} {d : D} (h : oIsi T d st = some (.bl true, st)) (q : Q (.bl true) st) : wx X (lift (oIsi T d st)) Q := w_lift h q
theorem w_isiF {T : String} {d : D} (h : oIsi T d st = some (.bl false, st)) (q : Q (.bl false) st) : wx X (lift (oIsi T d st)) Q := w_lift h q
theorem w_isi2T {T U : String} {d : D} (h : oIsi2 T U d st = some (.bl true, st)) (q : Q (.bl true) st) : wx X (lift (oIsi2 T U d st)) Q := w_lift h q
theorem w_isi2F {T U : String} {d : D} (h : oIsi2 T U d st = some (.bl false, st)) (q : Q (.bl false) st) : wx X (lift (oIsi2 T U d st)) Q := w_lift h q
theorem w_eqI_t {i : Int} (q : Q (.bl true) st) : wx X (lift (oEq false (.int i) (.int i) st)) Q := w_eqI (by rw [decide_eq_true rfl]; exact q)
theorem w_eqI_f {i j : Int} (h : ¬ i = j) (q : Q (.bl false) st) : wx X (lift (oEq false (.int i) (.int j) st)) Q := w_eqI (by rw [decide_eq_false h]; exact q)
theorem w_neI_t {i j : Int} (h : ¬ i = j) (q : Q (.bl true) st) : wx X (lift (oEq true (.int i) (.int j) st)) Q := w_neI (by rw [decide_eq_false h]; exact q)
theorem w_neI_f {i : Int} (q : Q (.bl false) st) : wx X (lift (oEq true (.int i) (.int i) st)) Q := w_neI (by rw [decide_eq_true rfl]; exact q)
theorem w_eqS_t {i : Str} (q : Q (.bl true) st) : wx X (lift (oEq false (.str i) (.str i) st)) Q := w_eqS (by rw [decide_eq_true rfl]; exact q)
theorem w_eqS_f {i j : Str} (h : ¬ i = j) (q : Q (.bl false) st) : wx X (lift (oEq false (.str i) (.str j) st)) Q := w_eqS (by rw [decide_eq_false h]; exact q)
theorem w_neS_t {i j : Str} (h : ¬ i = j) (q : Q (.bl true) st) : wx X (lift (oEq true (.str i) (.str j) st)) Q := w_neS (by rw [decide_eq_false h]; exact q)
theorem w_neS_f {i : Str} (q : Q (.bl false) st) : wx X (lift (oEq true (.str i) (.str i) st)) Q := w_neS (by rw [decide_eq_true rfl]; exact q)
theorem x_ixR {d : D} {k : Nat} {ds : List D} {i : Int} (hk : st[k]? = some (.lst ds)) (h : L2.atI ds i = some d) (q : Q d st) : wx X (lift (oIx (.ref k) (.int i) st)) Q := w_ixR hk h q
theorem ex_asg {x : Option (En × Sto)} {P : En → Sto → Prop} {e1 : En} {s1 : Sto} (h : x = some (e1, s1)) (q : P e1 s1) : ∃ e1 s1, x = some (e1, s1) ∧ P e1 s1 := ⟨e1, s1, h, q⟩
theorem ex_iter {x : Option IterD} {it : IterD} {P : IterD → Prop} (h : x = some it) (q : P it) : ∃ it, x = some it ∧ P it := ⟨it, h, q⟩
theorem ex_nat {i : Nat} {P : Nat → Prop} (q : P i) : ∃ n : Nat, D.int (i : Int) = .int n ∧ P n := ⟨i, rfl, q⟩
theorem ex_fld {x : Option D} {d : D} {P : D → Prop} (h : x = some d) (q : P d) : ∃ d, x = some d ∧ P d := ⟨d, h, q⟩
theorem ex_lst {l : List D} {P : List D → Prop} (q : P l) : ∃ ds, D.tup l = .tup ds ∧ P ds := ⟨l, rfl, q⟩
theorem at_e {α : Type} {f : α → D} {l : List α} {i : Nat} {x : α} (h : l[i]? = some x) : L2.atI (l.map f) (i : Int) = some (f x) := by rw [at_nat, List.getElem?_map, h]; rfl
theorem at_s {l : List D} {i : Nat} {x : D} (h : l[i]? = some x) : L2.atI l (i : Int) = some x := by rw [at_nat, h]
theorem tyM_r {n : Nat} {l : List D} {s : Sto} (h : s[n]? = some (.lst l)) : tyM "list" (.ref n) s = true := by simp [tyM, h]
theorem w_isXT {tab : Nat → Option Bool} {c : Nat} {x : D} (h : tab c = some true) (q : Q (.bl true) st) : wx X (lift (oIsX tab (.exn c x) st)) Q := w_lift (by unfold oIsX; simp only [h]) q
theorem w_isXF {tab : Nat → Option Bool} {c : Nat} {x : D} (h : tab c = some false) (q : Q (.bl false) st) : wx X (lift (oIsX tab (.exn c x) st)) Q := w_lift (by unfold oIsX; simp only [h]) q
theorem w_atL {cs : List Nat} (h : wx X (fa env st) fun a s => ∃ c x, a = .exn c x ∧ cs.contains c = true ∧ Q x s) : wx X (mAtL cs fa env st) Q := w_bind (w_mono h fun a s ⟨c, x, e, h1, q⟩ => by
  subst e
  simp only [h1, if_true]
  exact q)
theorem w_at {c0 : Nat} (h : wx X (fa env st) fun a s => ∃ x, a = .exn c0 x ∧ Q x s) : wx X (mAt c0 fa env st) Q := w_bind (w_mono h fun a s ⟨x, e, q⟩ => by
  subst e
  simp only [if_true]
  exact q)
theorem ex_exn1 {c : Nat} {x : D} {R : D → Prop} (q : R x) : ∃ x', D.exn c x = .exn c x' ∧ R x' := ⟨x, rfl, q⟩
theorem w_callK3 {cf : List D → Sto → Res D} {g : EM (List D)} (h : wx X (g env st) fun ds s1 => ∃ a b c, ds = [a, b, c] ∧ wx X (cf [a, b, c] s1) Q) : wx X (mCallK 3 [0, 1, 2] cf g env st) Q :=
  w_callK (w_mono h fun ds s ⟨a, b, c, e, k⟩ => by
    subst e
    exact ⟨_, rfl, rfl, rfl, k⟩)
theorem ex_three {a b c : D} {P : D → D → D → Prop} (q : P a b c) : ∃ a' b' c', [a, b, c] = [a', b', c'] ∧ P a' b' c' := ⟨a, b, c, rfl, q⟩
theorem w_callK4 {cf : List D → Sto → Res D} {g : EM (List D)} (h : wx X (g env st) fun ds s1 => ∃ a b c d, ds = [a, b, c, d] ∧ wx X (cf [a, b, c, d] s1) Q) : wx X (mCallK 4 [0, 1, 2, 3] cf g env st) Q :=
  w_callK (w_mono h fun ds s ⟨a, b, c, d, e, k⟩ => by
    subst e
    exact ⟨_, rfl, rfl, rfl, k⟩)
theorem ex_four {a b c d : D} {P : D → D → D → D → Prop} (q : P a b c d) : ∃ a' b' c' d', [a, b, c, d] = [a', b', c', d'] ∧ P a' b' c' d' := ⟨a, b, c, d, rfl, q⟩
theorem ex_exn {c : Nat} {x : D} {P : Nat → Prop} {R : D → Prop} (h : P c) (q : R x) : ∃ c' x', D.exn c x = .exn c' x' ∧ P c' ∧ R x' := ⟨c, x, rfl, h, q⟩
theorem w_listL {ds : List D} (q : Q (.lst ds) st) : wx X (lift (oList false (.lst ds) st)) Q := q
theorem w_listT {ds : List D} (q : Q (.lst ds) st) : wx X (lift (oList false (.tup ds) st)) Q := q
theorem w_eqSame {d : D} (h : dat 64 d = true) (hv : vw st d = d) (q : Q (.bl true) st) : wx X (lift (oEq false d d st)) Q := w_lift (by rw [eq_dat (by rw [hv]; exact h) (by rw [hv]; exact h), dbeq_refl]; rfl) q
theorem w_neSame {d : D} (h : dat 64 d = true) (hv : vw st d = d) (q : Q (.bl false) st) : wx X (lift (oEq true d d st)) Q := w_lift (by rw [eq_dat (by rw [hv]; exact h) (by rw [hv]; exact h), dbeq_refl]; rfl) q
theorem w_callK2 {cf : List D → Sto → Res D} {g : EM (List D)} (h : wx X (g env st) fun ds s1 => ∃ a b, ds = [a, b] ∧ wx X (cf [a, b] s1) Q) : wx X (mCallK 2 [0, 1] cf g env st) Q :=
  w_callK (w_mono h fun ds s ⟨a, b, e, k⟩ => by
    subst e
    exact ⟨_, rfl, rfl, rfl, k⟩)
theorem ex_two {a b : D} {P : D → D → Prop} (q : P a b) : ∃ a' b', [a, b] = [a', b'] ∧ P a' b' := ⟨a, b, rfl, q⟩
theorem cut_to_s {l : List D} {k : Nat} : cutD l none (some ((k : Int) + 1)) = l.take (k + 1) := cut_to l (k := k + 1)
theorem w_pick {l : List D} {r : Nat} (P : D → Prop) (hr : (r : Int) < (l.length : Nat)) (hl : ∀ x ∈ l, P x) (q : ∀ x, P x → Q x st) : wx X (lift (oIx (.lst l) (.int r) st)) Q := by
  have h : r < l.length := by omega
  exact w_ixL (d := l[r]) (by rw [at_nat]; simp [h]) (q _ (hl _ (List.getElem_mem h)))
end
theorem lim2 {a : Nat} (h : a ≤ 2000000) : a ≤ LIM := Nat.le_trans h (Nat.le_of_ble_eq_true rfl)
theorem lim3 {a : Nat} (h : a ≤ 2000000) : a < LIM := Nat.lt_of_le_of_lt h (Nat.le_of_ble_eq_true rfl)
/-! ### rows, live or frozen -/
def Rw (st : Sto) (a : D) (xs : List D) : Prop := seqW st a = some xs
section
variable {X : Nat → D → Sto → Prop} {env : En} {st : Sto} {Q : D → Sto → Prop} {a b : D} {xs ys : List D} {k : Nat}
theorem rw_l : Rw st (.lst xs) xs := rfl
theorem rw_r (h : st[k]? = some (.lst xs)) : Rw st (.ref k) xs := by
  unfold Rw seqW
  simp only [h]
theorem Rw.cases (h : Rw st a xs) : a = .lst xs ∨ ∃ k, a = .ref k ∧ st[k]? = some (.lst xs) := by
  unfold Rw seqW at h
  split at h
  · cases h; exact .inl rfl
  · rename_i k
    split at h
    · rename_i ds e
      cases h
      exact .inr ⟨k, rfl, e⟩
    · cases h
  · cases h
theorem Rw.seqR (h : Rw st a xs) : seqR st a = some xs := by
  rcases h.cases with rfl | ⟨k, rfl, e⟩
  · rfl
  · unfold Cw.seqR
    exact h
theorem oAdd_rw {c : Bool} (ha : Rw st a xs) (hb : Rw st b ys) (hl : xs.length + ys.length ≤ LIM) : oAdd c a b st = some (mkL c (xs ++ ys) st) := by
  have e1 : seqW st a = some xs := ha
  have e2 : seqW st b = some ys := hb
  rcases ha.cases with rfl | ⟨k, rfl, _⟩ <;> rcases hb.cases with rfl | ⟨j, rfl, _⟩ <;> unfold oAdd <;> simp only [e1, e2, if_pos hl]
theorem y_addF (ha : Rw st a xs) (hb : Rw st b ys) (hl : xs.length + ys.length ≤ LIM) (q : Q (.lst (xs ++ ys)) st) : wx X (lift (oAdd false a b st)) Q := w_lift (oAdd_rw ha hb hl) q
theorem y_addT (ha : Rw st a xs) (hb : Rw st b ys) (hl : xs.length + ys.length ≤ LIM) (q : Q (.ref st.length) (st ++ [.lst (xs ++ ys)])) : wx X (lift (oAdd true a b st)) Q := w_lift (oAdd_rw ha hb hl) q
theorem oSl_rw {c : Bool} {lo hi : Option Int} (ha : Rw st a xs) : oSl c a lo hi st = some (mkL c (cutD xs lo hi) st) := by
  have e := ha.seqR
  rcases ha.cases with rfl | ⟨k, rfl, _⟩ <;> unfold oSl <;> simp only [e]
theorem y_slF {lo hi : Option Int} (ha : Rw st a xs) (q : Q (.lst (cutD xs lo hi)) st) : wx X (lift (oSl false a lo hi st)) Q := w_lift (oSl_rw ha) q
theorem y_slT {lo hi : Option Int} (ha : Rw st a xs) (q : Q (.ref st.length) (st ++ [.lst (cutD xs lo hi)])) : wx X (lift (oSl true a lo hi st)) Q := w_lift (oSl_rw ha) q
theorem y_ix {i : Int} {d : D} (ha : Rw st a xs) (h : L2.atI xs i = some d) (q : Q d st) : wx X (lift (oIx a (.int i) st)) Q := by
  rcases ha.cases with rfl | ⟨k, rfl, e⟩
  · exact w_ixL h q
  · exact w_ixR e h q
theorem y_len (ha : Rw st a xs) (q : Q (.int xs.length) st) : wx X (lift (oLen a st)) Q := by
  rcases ha.cases with rfl | ⟨k, rfl, e⟩
  · exact q
  · exact w_lenR e q
theorem y_tup (ha : Rw st a xs) (q : Q (.tup xs) st) : wx X (lift (oTuple a st)) Q := by
  rcases ha.cases with rfl | ⟨k, rfl, e⟩
  · exact q
  · exact w_tupR e q
theorem oList_rw {c : Bool} (ha : Rw st a xs) : oList c a st = some (mkL c xs st) := by
  have e := ha.seqR
  rcases ha.cases with rfl | ⟨k, rfl, _⟩ <;> unfold oList <;> simp only [e]
theorem y_listF (ha : Rw st a xs) (q : Q (.lst xs) st) : wx X (lift (oList false a st)) Q := w_lift (oList_rw ha) q
theorem y_listT (ha : Rw st a xs) (q : Q (.ref st.length) (st ++ [.lst xs])) : wx X (lift (oList true a st)) Q := w_lift (oList_rw ha) q
theorem y_listTT (q : Q (.ref st.length) (st ++ [.lst xs])) : wx X (lift (oList true (.tup xs) st)) Q := q
theorem y_app {x : D} (hk : st[k]? = some (.lst xs)) (hl : xs.length < LIM) (q : Q .non (st.set k (.lst (xs ++ [x])))) : wx X (lift (oAppend (.ref k) [x] st)) Q := w_app hk hl q
theorem y_addTup (hl : xs.length + ys.length ≤ LIM) (q : Q (.tup (xs ++ ys)) st) : wx X (lift (oAdd false (.tup xs) (.tup ys) st)) Q := w_addT hl q
end
theorem w_iRgI {X : Nat → D → Sto → Prop} {fa : EM D} {env : En} {st : Sto} {QI : IterD → Sto → Prop} (h : wx X (fa env st) fun d s1 => ∃ i : Int, d = .int i ∧ i.natAbs < 1000000 ∧ QI (rngD 0 i.toNat) s1) : wx X (iRg1 fa env st) QI :=
  w_bind (w_mono h fun d s ⟨i, e, k, q⟩ => by
    have : small62 i = true := by
      unfold small62
      rw [decide_eq_true_eq]
      omega
    subst e
    simp only [this, if_true]
    exact q)
def refs (L n : Nat) : List D := (List.range n).map fun i => .ref (L + 1 + i)
theorem refs_succ (L n : Nat) : refs L (n + 1) = refs L n ++ [.ref (L + 1 + n)] := by
  unfold refs
  rw [List.range_succ, List.map_append]
  rfl
theorem refs_len (L n : Nat) : (refs L n).length = n := by simp [refs]
theorem refs_at {L n i : Nat} (h : i < n) : (refs L n)[i]? = some (.ref (L + 1 + i)) := by simp [refs, h]
/-- rows that are new live lists -/
theorem w_compR {X : Nat → D → Sto → Prop} {fi : EM IterD} {vs : List Nat} {t : Tgt} {env : En} {st : Sto} {Q : D → Sto → Prop} (n : Nat) (hi : wp (fi env st) fun it s => it.items.length = n ∧ (∀ xt, lockB it.lock (s ++ xt) = true) ∧ (∀ x ∈ it.items, ∃ e1, tgtD t x (wipeE env vs) = some e1) ∧ s = st) (hn : n < 1000000)
    (q : Q (.ref st.length) (st ++ .lst (refs st.length n) :: List.replicate n (.lst []))) : wx X (mComp true fi vs t mYes (mLst true mNil) env st) Q := by
  unfold mComp
  refine w_bind (w_mono (wx_wp hi) ?_)
  rintro it s ⟨hl, hlk, hx, rfl⟩
  have go : ∀ (items : List D) (k : Nat), (∀ x ∈ items, ∃ e1, tgtD t x (wipeE env vs) = some e1) → k + items.length < 1000000 →
      compL it.lock vs t mYes (mLst true mNil) env s.length items (s ++ .lst (refs s.length k) :: List.replicate k (.lst [])) = .ok (.ref s.length) (s ++ .lst (refs s.length (k + items.length)) :: List.replicate (k + items.length) (.lst [])) := by
    intro items
    induction items with
    | nil =>
      intro k _ _
      unfold compL
      rw [if_pos (hlk _)]
      rfl
    | cons x xs ih =>
      intro k hx hk
      rw [List.length_cons] at hk
      obtain ⟨e1, he⟩ := hx x (List.mem_cons_self ..)
      unfold compL
      rw [if_pos (hlk _), he]
      have e2 : mYes e1 (s ++ Cell.lst (refs s.length k) :: List.replicate k (.lst [])) = .ok true (s ++ Cell.lst (refs s.length k) :: List.replicate k (.lst [])) := rfl
      have hlen : (s ++ Cell.lst (refs s.length k) :: List.replicate k (Cell.lst [])).length = s.length + 1 + k := by simp; omega
      have e3 : mLst true mNil e1 (s ++ Cell.lst (refs s.length k) :: List.replicate k (.lst [])) = .ok (.ref (s.length + 1 + k)) (s ++ Cell.lst (refs s.length k) :: List.replicate (k + 1) (.lst [])) := by
        have := (w_out (Q := fun d s' => d = .ref (s.length + 1 + k) ∧ s' = s ++ Cell.lst (refs s.length k) :: List.replicate (k + 1) (.lst [])) (w_lstT (w_nil (env := e1) (st := s ++ Cell.lst (refs s.length k) :: List.replicate k (.lst [])) ⟨Nat.zero_le _, by rw [hlen], by rw [List.append_assoc, List.cons_append, List.replicate_succ']⟩)))
        obtain ⟨d, s', h1, rfl, rfl⟩ := this
        exact h1
      simp only [e2, e3]
      have e4 : (s ++ Cell.lst (refs s.length k) :: List.replicate (k + 1) (Cell.lst []))[s.length]? = some (.lst (refs s.length k)) := by simp
      have e5 : (refs s.length k).length < LIM := by
        rw [refs_len]
        exact lim3 (by omega)
      simp only [e4, if_pos e5]
      have e6 : (s ++ Cell.lst (refs s.length k) :: List.replicate (k + 1) (Cell.lst [])).set s.length (.lst (refs s.length k ++ [.ref (s.length + 1 + k)])) = s ++ Cell.lst (refs s.length (k + 1)) :: List.replicate (k + 1) (Cell.lst []) := by
        rw [List.set_append_right _ _ (Nat.le_refl _), Nat.sub_self, refs_succ]
        rfl
      rw [e6, ih (k + 1) (fun y hy => hx y (List.mem_cons_of_mem _ hy)) (by omega)]
      rw [List.length_cons, show k + 1 + xs.length = k + (xs.length + 1) by omega]
  have := go it.items 0 hx (by omega)
  simp only [Nat.zero_add, List.replicate_zero] at this
  have e0 : refs s.length 0 = [] := rfl
  rw [e0] at this
  rw [this, hl]
  exact q
end Cw

namespace K
open PySem L2 PyProof.Rows Cw
def top (i : Nat) : Stmt := PySem.Challenge.pw_cutweave_k07_channels_in_order_and_loose.main.body.getD i (.Pass ⟨0, 0, 0, 0⟩)
abbrev s_is_whole : Stmt := (top 13)
abbrev s_is_below : Stmt := (top 14)
abbrev s_is_name : Stmt := (top 15)
abbrev s_is_process : Stmt := (top 16)
abbrev s_is_channel : Stmt := (top 17)
abbrev s_is_act : Stmt := (top 18)
abbrev s_is_rule : Stmt := (top 19)
abbrev s__frozen : Stmt := (top 20)
abbrev s__rows : Stmt := (top 21)
abbrev s_Net_init : Stmt := (inClass (top 22) 0)
abbrev s_start : Stmt := (top 24)
abbrev s_is_lossy : Stmt := (top 25)
abbrev s_is_ordered : Stmt := (top 26)
abbrev s_as_deed : Stmt := (top 27)
abbrev s_open_messages_of : Stmt := (top 28)
abbrev s_can_do : Stmt := (top 29)
abbrev s_possible : Stmt := (top 30)
abbrev s__with_part : Stmt := (top 31)
abbrev s__without_message : Stmt := (top 32)
abbrev s_behind : Stmt := (top 33)
abbrev s_done : Stmt := (top 34)
abbrev s__law_mixed : Stmt := (top 36)
abbrev s__law_pool : Stmt := (top 37)
abbrev s__law_take : Stmt := (top 38)
abbrev s__law_names : Stmt := (top 39)
abbrev s__law_made : Stmt := (top 40)
abbrev s__law_start : Stmt := (top 41)
abbrev s__law_told : Stmt := (top 42)
abbrev s__law_first : Stmt := (top 43)
abbrev s__law_possible : Stmt := (top 44)
abbrev s__law_done : Stmt := (top 45)
abbrev s__law_near : Stmt := (top 46)
abbrev s__law_same : Stmt := (top 47)
abbrev s__law_lanes : Stmt := (top 48)
abbrev s__law_refused : Stmt := (top 49)
abbrev s__law_agrees : Stmt := (top 50)
abbrev s_law : Stmt := (top 51)
abbrev g_KINDS : List D := [.str ("order" : Str), .str ("loose" : Str), .str ("order lossy" : Str), .str ("loose lossy" : Str)]
abbrev cls_all : List Nat := [100]
abbrev attrs_all : List Str := [("at" : Str), ("word" : Str), ("name" : Str), ("processes" : Str), ("channels" : Str), ("rules" : Str), ("net" : Str), ("rows" : Str), ("run" : Str), ("whole" : Str), ("sent" : Str), ("ended" : Str), ("token" : Str), ("lost" : Str), ("clocks" : Str), ("world" : Str), ("deeds" : Str), ("counts" : Str), ("records" : Str), ("tokens" : Str), ("going" : Str), ("things" : Str), ("arrived" : Str), ("taken" : Str), ("begun" : Str), ("snapshots" : Str), ("pairs" : Str), ("bears" : Str), ("awaited" : Str), ("text" : Str), ("claim" : Str), ("place" : Str), ("number" : Str), ("sign" : Str), ("simple" : Str), ("told" : Str), ("empty" : Str), ("states" : Str), ("sends" : Str), ("gone" : Str), ("levels" : Str), ("steps" : Str), ("story" : Str), ("happenings" : Str), ("checkpoints" : Str), ("lines" : Str), ("cuts" : Str)]
def mt_BadStep (k : Nat) : Option Bool := List.lookup k [(0, false), (1, false), (3, true)]
def mb_is_whole : SM := (sRet (mAnd (m1 (oIsi "int") (mVar 0)) (mNot (m1 (oIsi "bool") (mVar 0)))))
def m_is_whole : List D → Sto → Res D := runF false 1 mb_is_whole
def mb_is_below : SM := (sRet (mAnd (mCallN 1 m_is_whole (mCons (mVar 0) mNil)) (mChain oLe oLt (mC (.int 0)) (mVar 0) (mVar 1))))
def m_is_below : List D → Sto → Res D := runF false 2 mb_is_below
def mb_is_name : SM := (sSeq (sIf (mOrT (mNotT (mT (m1 (oIsi "str") (mVar 0)))) (mNotT (mT (mChain oLe oLe (mC (.int 1)) (m1 oLen (mVar 0)) (mC (.int 6))))))
    (sRet (mC (.bl false)))
    sNil)
    (sRet (m1 oAll (mComp false (iSeq (mVar 0)) [1] (.nm 1) mYes (mBin (oIn false) (mVar 1) (mC (.str ("abcdefghijklmnopqrstuvwxyz" : Str))))))))
def m_is_name : List D → Sto → Res D := runF false 2 mb_is_name
def mb_is_process : SM := (sSeq (sIf (mOrT (mT (mBin (oEq true) (m1 oLen (mVar 0)) (mC (.int 2)))) (mOrT (mNotT (mT (mCallN 1 m_is_name (mCons (mBin oIx (mVar 0) (mC (.int 0))) mNil)))) (mNotT (mT (mCallN 1 m_is_whole (mCons (mBin oIx (mVar 0) (mC (.int 1))) mNil))))))
    (sRet (mC (.bl false)))
    sNil)
    (sRet (mAnd (mChain oLe oLe (mC (.int 1)) (mBin oIx (mVar 0) (mC (.int 1))) (mC (.int 8))) (mBin (oIn true) (mSlice false (mVar 0) mNoP (mPart (mC (.int 1)))) (mComp false (iSeq (mVar 1)) [2] (.nm 2) mYes (mSlice false (mVar 2) mNoP (mPart (mC (.int 1)))))))))
def m_is_process : List D → Sto → Res D := runF false 3 mb_is_process
def mb_is_channel : SM := (sSeq (sIf (mOrT (mT (mBin (oEq true) (m1 oLen (mVar 0)) (mC (.int 4)))) (mOrT (mNotT (mT (mCallN 1 m_is_name (mCons (mBin oIx (mVar 0) (mC (.int 0))) mNil)))) (mT (mBin (oIn false) (mSlice false (mVar 0) mNoP (mPart (mC (.int 1)))) (mComp false (iSeq (mVar 2)) [3] (.nm 3) mYes (mSlice false (mVar 3) mNoP (mPart (mC (.int 1)))))))))
    (sRet (mC (.bl false)))
    sNil)
    (sSeq (sIf (mOrT (mNotT (mT (mCallN 2 m_is_below (mCons (mBin oIx (mVar 0) (mC (.int 1))) (mCons (m1 oLen (mVar 1)) mNil))))) (mOrT (mNotT (mT (mCallN 2 m_is_below (mCons (mBin oIx (mVar 0) (mC (.int 2))) (mCons (m1 oLen (mVar 1)) mNil))))) (mT (mBin (oEq false) (mBin oIx (mVar 0) (mC (.int 1))) (mBin oIx (mVar 0) (mC (.int 2)))))))
    (sRet (mC (.bl false)))
    sNil)
    (sRet (mAnd (m1 (oIsi "str") (mBin oIx (mVar 0) (mC (.int 3)))) (mBin (oIn false) (mBin oIx (mVar 0) (mC (.int 3))) (mC (.tup g_KINDS)))))))
def m_is_channel : List D → Sto → Res D := runF false 4 mb_is_channel
def mb_is_act : SM := (sSeq (sIf (mOrT (mNotT (mT (m1 (oIsi "tuple") (mVar 0)))) (mOrT (mT (mBin (oEq false) (m1 oLen (mVar 0)) (mC (.int 0)))) (mNotT (mT (m1 (oIsi "str") (mBin oIx (mVar 0) (mC (.int 0))))))))
    (sRet (mC (.bl false)))
    sNil)
    (sSeq (sIf (mT (mBin (oEq false) (mBin oIx (mVar 0) (mC (.int 0))) (mC (.str ("do" : Str)))))
    (sRet (mBin (oEq false) (m1 oLen (mVar 0)) (mC (.int 1))))
    sNil)
    (sSeq (sIf (mOrT (mT (mBin (oIn true) (mBin oIx (mVar 0) (mC (.int 0))) (mTup (mCons (mC (.str ("send" : Str))) (mCons (mC (.str ("take" : Str))) mNil))))) (mT (mBin (oEq true) (m1 oLen (mVar 0)) (mC (.int 3)))))
    (sRet (mC (.bl false)))
    sNil)
    (sSeq (sIf (mOrT (mNotT (mT (mCallN 2 m_is_below (mCons (mBin oIx (mVar 0) (mC (.int 1))) (mCons (m1 oLen (mVar 2)) mNil))))) (mNotT (mT (mCallN 2 m_is_below (mCons (mBin oIx (mVar 0) (mC (.int 2))) (mCons (mC (.int 10)) mNil))))))
    (sRet (mC (.bl false)))
    sNil)
    (sRet (mBin (oEq false) (mBin oIx (mBin oIx (mVar 2) (mBin oIx (mVar 0) (mC (.int 1)))) (mIf (mT (mBin (oEq false) (mBin oIx (mVar 0) (mC (.int 0))) (mC (.str ("send" : Str))))) (mC (.int 1)) (mC (.int 2)))) (mVar 1)))))))
def m_is_act : List D → Sto → Res D := runF false 3 mb_is_act
def mb_is_rule : SM := (sSeq (sIf (mOrT (mT (mBin (oEq true) (m1 oLen (mVar 0)) (mC (.int 4)))) (mNotT (mT (mCallN 2 m_is_below (mCons (mBin oIx (mVar 0) (mC (.int 0))) (mCons (m1 oLen (mVar 1)) mNil))))))
    (sRet (mC (.bl false)))
    sNil)
    (sSeq (sSet 3 (mBin oIx (mBin oIx (mVar 1) (mBin oIx (mVar 0) (mC (.int 0)))) (mC (.int 1))))
    (sRet (mAnd (mCallN 2 m_is_below (mCons (mBin oIx (mVar 0) (mC (.int 1))) (mCons (mVar 3) mNil))) (mAnd (mCallN 2 m_is_below (mCons (mBin oIx (mVar 0) (mC (.int 3))) (mCons (mVar 3) mNil))) (mCallN 3 m_is_act (mCons (mBin oIx (mVar 0) (mC (.int 2))) (mCons (mBin oIx (mVar 0) (mC (.int 0))) (mCons (mVar 2) mNil)))))))))
def m_is_rule : List D → Sto → Res D := runF false 4 mb_is_rule
def mb__frozen (IHm : List D → Sto → Res D) : SM := (sSeq (sIf (mAndT (mT (mBin oGt (mVar 1) (mC (.int 0)))) (mT (m1 (oIsi2 "list" "tuple") (mVar 0))))
    (sRet (m1 oTuple (mComp false (iSeq (mVar 0)) [2] (.nm 2) mYes (mCallN 2 IHm (mCons (mVar 2) (mCons (mBin oSub (mVar 1) (mC (.int 1))) mNil))))))
    sNil)
    (sRet (mVar 0)))
def m__frozen : Nat → List D → Sto → Res D
  | 0 => fun _ _ => .bad
  | n + 1 => runF false 3 (mb__frozen (m__frozen n))
def mb__rows : SM := (sSeq (sSet 3 (mCallN 2 (m__frozen 8) (mCons (mVar 0) (mCons (mC (.int 3)) mNil))))
    (sSeq (sIf (mOrT (mNotT (mT (m1 (oIsi "tuple") (mVar 3)))) (mNotT (mT (mChain oLe oLe (mVar 1) (m1 oLen (mVar 3)) (mVar 2)))))
    (sRet (mC .non))
    sNil)
    (sRet (mIf (mT (m1 oAll (mComp false (iSeq (mVar 3)) [4] (.nm 4) mYes (m1 (oIsi "tuple") (mVar 4))))) (mVar 3) (mC .non)))))
def m__rows : List D → Sto → Res D := runF false 5 mb__rows
def mb_Net_init : SM := (sSeq (sSet 4 (mCallN 3 m__rows (mCons (mVar 1) (mCons (mC (.int 1)) (mCons (mC (.int 5)) mNil)))))
    (sSeq (sIf (mOrT (mT (mIsN false (mVar 4))) (mNotT (mT (m1 oAll (mComp false (iEn (mVar 4)) [7, 8] (.tp [7, 8]) mYes (mCallN 2 m_is_process (mCons (mVar 8) (mCons (mSlice false (mVar 4) mNoP (mPart (mVar 7))) mNil))))))))
    (sRaise 1 (mC (.int 0)))
    sNil)
    (sSeq (sSet 5 (mCallN 3 m__rows (mCons (mVar 2) (mCons (mC (.int 0)) (mCons (mC (.int 8)) mNil)))))
    (sSeq (sIf (mOrT (mT (mIsN false (mVar 5))) (mNotT (mT (m1 oAll (mComp false (iEn (mVar 5)) [7, 9] (.tp [7, 9]) mYes (mCallN 3 m_is_channel (mCons (mVar 9) (mCons (mVar 4) (mCons (mSlice false (mVar 5) mNoP (mPart (mVar 7))) mNil)))))))))
    (sRaise 1 (mC (.int 1)))
    sNil)
    (sSeq (sSet 6 (mCallN 3 m__rows (mCons (mVar 3) (mCons (mC (.int 0)) (mCons (mC (.int 40)) mNil)))))
    (sSeq (sIf (mOrT (mT (mIsN false (mVar 6))) (mNotT (mT (m1 oAll (mComp false (iSeq (mVar 6)) [10] (.nm 10) mYes (mCallN 3 m_is_rule (mCons (mVar 10) (mCons (mVar 4) (mCons (mVar 5) mNil)))))))))
    (sRaise 1 (mC (.int 2)))
    sNil)
    (sSeq (sFld cls_all 3 (mVar 0) (mVar 4))
    (sSeq (sFld cls_all 4 (mVar 0) (mVar 5))
    (sFld cls_all 5 (mVar 0) (mVar 6))))))))))
def m_Net_init : List D → Sto → Res D := runF false 11 mb_Net_init
def mb_start : SM := (sSeq (sSet 1 (m1 oLen (mFld cls_all 4 (mVar 0))))
    (sRet (mTup (mCons (mBin (oRep false) (mTup (mCons (mC (.int 0)) mNil)) (m1 oLen (mFld cls_all 3 (mVar 0)))) (mCons (mBin (oRep false) (mTup (mCons (mC (.int 0)) mNil)) (mVar 1)) (mCons (mBin (oRep false) (mTup (mCons (mTup mNil) mNil)) (mVar 1)) mNil))))))
def m_start : List D → Sto → Res D := runF false 2 mb_start
def mb_is_lossy : SM := (sRet (mBin (oIn false) (mBin oIx (mBin oIx (mFld cls_all 4 (mVar 0)) (mVar 1)) (mC (.int 3))) (mTup (mCons (mC (.str ("order lossy" : Str))) (mCons (mC (.str ("loose lossy" : Str))) mNil)))))
def m_is_lossy : List D → Sto → Res D := runF false 2 mb_is_lossy
def mb_is_ordered : SM := (sRet (mBin (oIn false) (mBin oIx (mBin oIx (mFld cls_all 4 (mVar 0)) (mVar 1)) (mC (.int 3))) (mTup (mCons (mC (.str ("order" : Str))) (mCons (mC (.str ("order lossy" : Str))) mNil)))))
def m_is_ordered : List D → Sto → Res D := runF false 2 mb_is_ordered
def mb_as_deed : SM := (sSeq (sIf (mOrT (mNotT (mT (m1 (oIsi2 "list" "tuple") (mVar 1)))) (mOrT (mT (mBin oLt (m1 oLen (mVar 1)) (mC (.int 2)))) (mNotT (mT (m1 (oIsi "str") (mBin oIx (mVar 1) (mC (.int 0))))))))
    (sRet (mC .non))
    sNil)
    (sSeq (sIf (mNotT (mT (m1 oAll (mComp false (iSeq (mSlice false (mVar 1) (mPart (mC (.int 1))) mNoP)) [4] (.nm 4) mYes (mAnd (mCallN 1 m_is_whole (mCons (mVar 4) mNil)) (mBin oGe (mVar 4) (mC (.int 0))))))))
    (sRet (mC .non))
    sNil)
    (sSeq (sIf (mT (mBin (oEq false) (mBin oIx (mVar 1) (mC (.int 0))) (mC (.str ("lose" : Str)))))
    (sSeq (sSet 3 (mAnd (mBin (oEq false) (m1 oLen (mVar 1)) (mC (.int 3))) (mAnd (mCallN 2 m_is_below (mCons (mBin oIx (mVar 1) (mC (.int 1))) (mCons (m1 oLen (mFld cls_all 4 (mVar 0))) mNil))) (mCallN 2 m_is_lossy (mCons (mVar 0) (mCons (mBin oIx (mVar 1) (mC (.int 1))) mNil))))))
    (sRet (mIf (mT (mVar 3)) (m1 oTuple (mVar 1)) (mC .non))))
    sNil)
    (sSeq (sIf (mOrT (mT (mBin (oIn true) (mBin oIx (mVar 1) (mC (.int 0))) (mTup (mCons (mC (.str ("act" : Str))) (mCons (mC (.str ("take" : Str))) mNil))))) (mNotT (mT (mCallN 2 m_is_below (mCons (mBin oIx (mVar 1) (mC (.int 1))) (mCons (m1 oLen (mFld cls_all 5 (mVar 0))) mNil))))))
    (sRet (mC .non))
    sNil)
    (sSeq (sSet 2 (mBin (oEq false) (mBin oIx (mBin oIx (mBin oIx (mFld cls_all 5 (mVar 0)) (mBin oIx (mVar 1) (mC (.int 1)))) (mC (.int 2))) (mC (.int 0))) (mC (.str ("take" : Str)))))
    (sSeq (sSet 3 (mAnd (mBin (oEq false) (mVar 2) (mBin (oEq false) (mBin oIx (mVar 1) (mC (.int 0))) (mC (.str ("take" : Str))))) (mBin (oEq false) (m1 oLen (mVar 1)) (mIf (mT (mVar 2)) (mC (.int 3)) (mC (.int 2))))))
    (sRet (mIf (mT (mVar 3)) (m1 oTuple (mVar 1)) (mC .non)))))))))
def m_as_deed : List D → Sto → Res D := runF false 5 mb_as_deed
def mb_open_messages_of : SM := (sSeq (sSet 3 (m1 oTuple (mComp false (iSeq (mBin oIx (mBin oIx (mVar 1) (mC (.int 2))) (mVar 2))) [4] (.nm 4) mYes (m1 oTuple (mVar 4)))))
    (sRet (mIf (mT (mCallN 2 m_is_ordered (mCons (mVar 0) (mCons (mVar 2) mNil)))) (mSlice false (mVar 3) mNoP (mPart (mC (.int 1)))) (mVar 3))))
def m_open_messages_of : List D → Sto → Res D := runF false 5 mb_open_messages_of
def mb_can_do : SM := (sSeq (sIf (mT (mBin (oEq false) (mBin oIx (mVar 2) (mC (.int 0))) (mC (.str ("lose" : Str)))))
    (sRet (mBin (oIn false) (mBin oIx (mVar 2) (mC (.int 2))) (mComp false (iSeq (mCallN 3 m_open_messages_of (mCons (mVar 0) (mCons (mVar 1) (mCons (mBin oIx (mVar 2) (mC (.int 1))) mNil))))) [7, 6] (.tp [7, 6]) mYes (mVar 7))))
    sNil)
    (sSeq (sAsg (gT 4 (gsCons (gN 3) (gsCons (gN 4) (gsCons (gN 5) (gsCons (gN 6) gsNil))))) (mBin oIx (mFld cls_all 5 (mVar 0)) (mBin oIx (mVar 2) (mC (.int 1)))))
    (sSeq (sIf (mT (mBin (oEq true) (mBin oIx (mBin oIx (mVar 1) (mC (.int 0))) (mVar 3)) (mVar 4)))
    (sRet (mC (.bl false)))
    sNil)
    (sRet (mOr (mBin (oEq false) (mBin oIx (mVar 2) (mC (.int 0))) (mC (.str ("act" : Str)))) (mBin (oIn false) (mTup (mCons (mBin oIx (mVar 2) (mC (.int 2))) (mCons (mBin oIx (mVar 5) (mC (.int 2))) mNil))) (mCallN 3 m_open_messages_of (mCons (mVar 0) (mCons (mVar 1) (mCons (mBin oIx (mVar 5) (mC (.int 1))) mNil))))))))))
def m_can_do : List D → Sto → Res D := runF false 8 mb_can_do
def mb_possible : SM := (sSeq (sSet 2 (mLst true mNil))
    (sSeq (sFor (iEn (mFld cls_all 5 (mVar 0))) (gT 2 (gsCons (gN 3) (gsCons (gN 4) gsNil)))
    (sIf (mAndT (mT (mBin (oEq false) (mBin oIx (mBin oIx (mVar 1) (mC (.int 0))) (mBin oIx (mVar 4) (mC (.int 0)))) (mBin oIx (mVar 4) (mC (.int 1))))) (mT (mBin (oEq true) (mBin oIx (mBin oIx (mVar 4) (mC (.int 2))) (mC (.int 0))) (mC (.str ("take" : Str))))))
    (sExpr (mMeth "list" oAppend (mVar 2) (mCons (mTup (mCons (mC (.str ("act" : Str))) (mCons (mVar 3) mNil))) mNil)))
    (sIf (mT (mBin (oEq false) (mBin oIx (mBin oIx (mVar 1) (mC (.int 0))) (mBin oIx (mVar 4) (mC (.int 0)))) (mBin oIx (mVar 4) (mC (.int 1)))))
    (sSeq (sSet 6 (mCallN 3 m_open_messages_of (mCons (mVar 0) (mCons (mVar 1) (mCons (mBin oIx (mBin oIx (mVar 4) (mC (.int 2))) (mC (.int 1))) mNil)))))
    (sExpr (mMeth "list" oExtend (mVar 2) (mCons (mComp false (iSeq (mVar 6)) [7, 9] (.tp [7, 9]) (mT (mBin (oEq false) (mVar 9) (mBin oIx (mBin oIx (mVar 4) (mC (.int 2))) (mC (.int 2))))) (mTup (mCons (mC (.str ("take" : Str))) (mCons (mVar 3) (mCons (mVar 7) mNil))))) mNil))))
    sNil)))
    (sSeq (sFor (iRg1 (m1 oLen (mFld cls_all 4 (mVar 0)))) (gN 5)
    (sIf (mT (mCallN 2 m_is_lossy (mCons (mVar 0) (mCons (mVar 5) mNil))))
    (sExpr (mMeth "list" oExtend (mVar 2) (mCons (mComp false (iSeq (mCallN 3 m_open_messages_of (mCons (mVar 0) (mCons (mVar 1) (mCons (mVar 5) mNil))))) [7, 8] (.tp [7, 8]) mYes (mTup (mCons (mC (.str ("lose" : Str))) (mCons (mVar 5) (mCons (mVar 7) mNil))))) mNil)))
    sNil))
    (sRet (m1 oTuple (mVar 2))))))
def m_possible : List D → Sto → Res D := runF false 10 mb_possible
def mb__with_part : SM := (sRet (mBin (oAdd false) (mBin (oAdd false) (m1 oTuple (mSlice false (mVar 0) mNoP (mPart (mVar 1)))) (mTup (mCons (mVar 2) mNil))) (m1 oTuple (mSlice false (mVar 0) (mPart (mBin (oAdd false) (mVar 1) (mC (.int 1)))) mNoP))))
def m__with_part : List D → Sto → Res D := runF false 3 mb__with_part
def mb__without_message : SM := (sSeq (sSet 3 (m1 oTuple (mComp false (iSeq (mBin oIx (mVar 0) (mVar 1))) [4] (.nm 4) (mT (mBin (oEq true) (mBin oIx (mVar 4) (mC (.int 0))) (mVar 2))) (m1 oTuple (mVar 4)))))
    (sRet (mCallN 3 m__with_part (mCons (mVar 0) (mCons (mVar 1) (mCons (mVar 3) mNil))))))
def m__without_message : List D → Sto → Res D := runF false 5 mb__without_message
def mb_behind : SM := (sSeq (sSet 3 (m1 oTuple (mBin oIx (mVar 1) (mC (.int 0)))))
    (sSeq (sSet 4 (m1 oTuple (mBin oIx (mVar 1) (mC (.int 1)))))
    (sSeq (sSet 5 (m1 oTuple (mComp false (iSeq (mBin oIx (mVar 1) (mC (.int 2)))) [11] (.nm 11) mYes (m1 oTuple (mComp false (iSeq (mVar 11)) [12] (.nm 12) mYes (m1 oTuple (mVar 12)))))))
    (sSeq (sIf (mT (mBin (oEq false) (mBin oIx (mVar 2) (mC (.int 0))) (mC (.str ("lose" : Str)))))
    (sRet (mTup (mCons (mVar 3) (mCons (mVar 4) (mCons (mCallN 3 m__without_message (mCons (mVar 5) (mCons (mBin oIx (mVar 2) (mC (.int 1))) (mCons (mBin oIx (mVar 2) (mC (.int 2))) mNil)))) mNil)))))
    sNil)
    (sSeq (sAsg (gT 4 (gsCons (gN 6) (gsCons (gN 7) (gsCons (gN 8) (gsCons (gN 9) gsNil))))) (mBin oIx (mFld cls_all 5 (mVar 0)) (mBin oIx (mVar 2) (mC (.int 1)))))
    (sSeq (sSet 3 (mCallN 3 m__with_part (mCons (mVar 3) (mCons (mVar 6) (mCons (mVar 9) mNil)))))
    (sSeq (sIf (mT (mBin (oEq false) (mBin oIx (mVar 8) (mC (.int 0))) (mC (.str ("take" : Str)))))
    (sRet (mTup (mCons (mVar 3) (mCons (mVar 4) (mCons (mCallN 3 m__without_message (mCons (mVar 5) (mCons (mBin oIx (mVar 8) (mC (.int 1))) (mCons (mBin oIx (mVar 2) (mC (.int 2))) mNil)))) mNil)))))
    sNil)
    (sSeq (sIf (mT (mBin (oEq false) (mBin oIx (mVar 8) (mC (.int 0))) (mC (.str ("send" : Str)))))
    (sSeq (sSet 10 (mBin oIx (mVar 4) (mBin oIx (mVar 8) (mC (.int 1)))))
    (sSeq (sSet 5 (mCallN 3 m__with_part (mCons (mVar 5) (mCons (mBin oIx (mVar 8) (mC (.int 1))) (mCons (mBin (oAdd false) (mBin oIx (mVar 5) (mBin oIx (mVar 8) (mC (.int 1)))) (mTup (mCons (mTup (mCons (mVar 10) (mCons (mBin oIx (mVar 8) (mC (.int 2))) mNil))) mNil))) mNil)))))
    (sSet 4 (mCallN 3 m__with_part (mCons (mVar 4) (mCons (mBin oIx (mVar 8) (mC (.int 1))) (mCons (mBin (oAdd false) (mVar 10) (mC (.int 1))) mNil)))))))
    sNil)
    (sRet (mTup (mCons (mVar 3) (mCons (mVar 4) (mCons (mVar 5) mNil)))))))))))))
def m_behind : List D → Sto → Res D := runF false 13 mb_behind
def mb_done : SM := (sSeq (sSet 3 (mCallN 2 m_as_deed (mCons (mVar 0) (mCons (mVar 2) mNil))))
    (sSeq (sIf (mOrT (mT (mIsN false (mVar 3))) (mNotT (mT (mCallN 3 m_can_do (mCons (mVar 0) (mCons (mVar 1) (mCons (mVar 3) mNil)))))))
    (sRaise 3 (mC (.int 0)))
    sNil)
    (sRet (mCallN 3 m_behind (mCons (mVar 0) (mCons (mVar 1) (mCons (mVar 3) mNil)))))))
def m_done : List D → Sto → Res D := runF false 4 mb_done
def mb__law_mixed : SM := (sSeq (sSet 3 (mC (.int 2305843009213693951)))
    (sSeq (sSet 4 (mBin oMod (m1 oInt (mBin (oAdd false) (mBin (oAdd false) (mBin oMulX (mVar 0) (mC (.int 48271))) (mBin oMulX (mVar 1) (mC (.int 1000000000039)))) (mC (.int 12345678910111213)))) (mVar 3)))
    (sSeq (sSet 5 (mBin oMod (mBin oMulX (m1 oInt (mBin (oAdd false) (mBin oMulX (mVar 4) (mVar 4)) (mVar 1))) (mC (.int 7046029254386353))) (mVar 3)))
    (sRet (mBin oMod (mBin oFdiv (mVar 5) (mC (.int 8))) (mVar 2))))))
def m__law_mixed : List D → Sto → Res D := runF false 6 mb__law_mixed
def mb__law_pool : SM := (sSeq (sSet 1 (mC (.int 7)))
    (sSeq (sFor (iSeq (mVar 0)) (gN 2)
    (sSet 1 (mBin oMod (m1 oInt (mBin (oAdd false) (mBin oMulX (mVar 1) (mC (.int 1000003))) (mVar 2))) (mC (.int 2305843009213693951)))))
    (sSeq (sSet 3 (m1 (oList true) (mVar 0)))
    (sSeq (sIf (mAndT (mT (mBin oGt (m1 oLen (mVar 3)) (mC (.int 0)))) (mT (mBin (oEq false) (mBin oMod (m1 oInt (mBin oIx (mVar 3) (mC (.int 0)))) (mC (.int 2))) (mC (.int 1)))))
    (sSet 3 (mLst true mNil))
    sNil)
    (sSeq (sIf (mT (mBin oGt (m1 oLen (mVar 3)) (mC (.int 0))))
    (sAsg (gSet (mVar 3) (mC (.int 0))) (mBin oFdiv (mBin oIx (mVar 3) (mC (.int 0))) (mC (.int 2))))
    sNil)
    (sRet (mDict [.inr ("cells" : Str), .inr ("at" : Str), .inr ("rest" : Str), .inr ("left" : Str), .inr ("small" : Str), .inr ("seed" : Str), .inr ("turn" : Str)] (mCons (mVar 3) (mCons (mC (.int 0)) (mCons (mC (.int 0)) (mCons (mC (.int 0)) (mCons (mC (.bl true)) (mCons (mVar 1) (mCons (mC (.int 0)) mNil))))))))))))))
def m__law_pool : List D → Sto → Res D := runF true 4 mb__law_pool
def mb__law_take : SM := (sSeq (sPut (mVar 0) (mC (.str ("turn" : Str))) (mBin (oAdd false) (mGet (mVar 0) (mC (.str ("turn" : Str)))) (mC (.int 1))))
    (sSeq (sIf (mAndT (mT (mBin (oEq false) (mGet (mVar 0) (mC (.str ("left" : Str)))) (mC (.int 0)))) (mT (mBin oLt (mGet (mVar 0) (mC (.str ("at" : Str)))) (m1 oLen (mGet (mVar 0) (mC (.str ("cells" : Str))))))))
    (sSeq (sPut (mVar 0) (mC (.str ("rest" : Str))) (mBin oIx (mGet (mVar 0) (mC (.str ("cells" : Str)))) (mGet (mVar 0) (mC (.str ("at" : Str))))))
    (sSeq (sPut (mVar 0) (mC (.str ("at" : Str))) (mBin (oAdd false) (mGet (mVar 0) (mC (.str ("at" : Str)))) (mC (.int 1))))
    (sSeq (sPut (mVar 0) (mC (.str ("small" : Str))) (mBin oLt (mGet (mVar 0) (mC (.str ("rest" : Str)))) (mBin oPow (mC (.int 10)) (mC (.int 18)))))
    (sPut (mVar 0) (mC (.str ("left" : Str))) (mBin oIx (mLst false (mCons (mC (.int 60)) (mCons (mC (.int 2)) mNil))) (m1 oInt (mGet (mVar 0) (mC (.str ("small" : Str))))))))))
    sNil)
    (sSeq (sIf (mT (mBin (oEq false) (mGet (mVar 0) (mC (.str ("left" : Str)))) (mC (.int 0))))
    (sRet (mCallN 3 m__law_mixed (mCons (mGet (mVar 0) (mC (.str ("seed" : Str)))) (mCons (mGet (mVar 0) (mC (.str ("turn" : Str)))) (mCons (mVar 1) mNil)))))
    sNil)
    (sSeq (sPut (mVar 0) (mC (.str ("left" : Str))) (mBin oSub (mGet (mVar 0) (mC (.str ("left" : Str)))) (mC (.int 1))))
    (sSeq (sIf (mT (mGet (mVar 0) (mC (.str ("small" : Str)))))
    (sRet (mCallN 3 m__law_mixed (mCons (mGet (mVar 0) (mC (.str ("rest" : Str)))) (mCons (mGet (mVar 0) (mC (.str ("turn" : Str)))) (mCons (mVar 1) mNil)))))
    sNil)
    (sSeq (sSet 2 (mBin oMod (m1 oInt (mGet (mVar 0) (mC (.str ("rest" : Str))))) (mVar 1)))
    (sSeq (sPut (mVar 0) (mC (.str ("rest" : Str))) (mBin oFdiv (mGet (mVar 0) (mC (.str ("rest" : Str)))) (mVar 1)))
    (sSeq (sIf (mT (mBin (oEq false) (mGet (mVar 0) (mC (.str ("rest" : Str)))) (mC (.int 0))))
    (sPut (mVar 0) (mC (.str ("left" : Str))) (mC (.int 0)))
    sNil)
    (sRet (mVar 2))))))))))
def m__law_take : List D → Sto → Res D := runF false 3 mb__law_take
def mb__law_names : SM := (sSeq (sSet 2 (mC (.str ("abcdefghijklmnopqrstuvwxyz" : Str))))
    (sSeq (sSet 3 (mLst true mNil))
    (sSeq (sFor (iRg1 (mVar 1)) (gN 4)
    (sSeq (sSet 5 (mBin oIx (mLst false (mCons (mC (.int 1)) (mCons (mC (.int 1)) (mCons (mC (.int 2)) (mCons (mBin (oAdd false) (mC (.int 1)) (mCallN 2 m__law_take (mCons (mVar 0) (mCons (mC (.int 6)) mNil)))) mNil))))) (mCallN 2 m__law_take (mCons (mVar 0) (mCons (mC (.int 4)) mNil)))))
    (sSeq (sSet 6 (mMeth "str" oJoin (mC (.str ("" : Str))) (mCons (mComp false (iRg1 (mVar 5)) [8] (.nm 8) mYes (mBin oIx (mVar 2) (mCallN 2 m__law_take (mCons (mVar 0) (mCons (mC (.int 26)) mNil))))) mNil)))
    (sSeq (sIf (mT (mBin (oIn false) (mVar 6) (mVar 3)))
    (sSeq (sSet 7 (mComp false (iSeq (mC (.str ("abcdefgh" : Str)))) [9] (.nm 9) mYes (mBin (oAdd false) (mC (.str ("qqqqq" : Str))) (mVar 9))))
    (sSet 6 (mBin oIx (mComp false (iSeq (mVar 7)) [10] (.nm 10) (mT (mBin (oIn true) (mVar 10) (mVar 3))) (mVar 10)) (mC (.int 0)))))
    sNil)
    (sExpr (mMeth "list" oAppend (mVar 3) (mCons (mVar 6) mNil)))))))
    (sRet (mVar 3)))))
def m__law_names : List D → Sto → Res D := runF false 11 mb__law_names
def mb__law_made : SM := (sSeq (sIf (mT (mBin (oEq false) (mCallN 2 m__law_take (mCons (mVar 0) (mCons (mC (.int 2)) mNil))) (mC (.int 0))))
    (sRet (mMake 100 4 m_Net_init (mCons (m1 (oList false) (mGet (mVar 1) (mC (.str ("processes" : Str))))) (mCons (m1 (oList false) (mGet (mVar 1) (mC (.str ("channels" : Str))))) (mCons (m1 (oList false) (mGet (mVar 1) (mC (.str ("rules" : Str))))) mNil)))))
    sNil)
    (sRet (mMake 100 4 m_Net_init (mCons (m1 oTuple (mGet (mVar 1) (mC (.str ("processes" : Str))))) (mCons (m1 oTuple (mGet (mVar 1) (mC (.str ("channels" : Str))))) (mCons (m1 oTuple (mGet (mVar 1) (mC (.str ("rules" : Str))))) mNil))))))
def m__law_made : List D → Sto → Res D := runF false 2 mb__law_made
def mb__law_start : SM := (sRet (mTup (mCons (mComp false (iSeq (mGet (mVar 0) (mC (.str ("processes" : Str))))) [1] (.nm 1) mYes (mC (.int 0))) (mCons (mComp false (iSeq (mGet (mVar 0) (mC (.str ("channels" : Str))))) [2] (.nm 2) mYes (mC (.int 0))) (mCons (mComp false (iSeq (mGet (mVar 0) (mC (.str ("channels" : Str))))) [2] (.nm 2) mYes (mLst false mNil)) mNil)))))
def m__law_start : List D → Sto → Res D := runF false 3 mb__law_start
def mb__law_told : SM := (sRet (mTup (mCons (m1 oTuple (mBin oIx (mVar 0) (mC (.int 0)))) (mCons (m1 oTuple (mBin oIx (mVar 0) (mC (.int 1)))) (mCons (m1 oTuple (mComp false (iSeq (mBin oIx (mVar 0) (mC (.int 2)))) [1] (.nm 1) mYes (m1 oTuple (mVar 1)))) mNil)))))
def m__law_told : List D → Sto → Res D := runF false 2 mb__law_told
def mb__law_first : SM := (sSeq (sIf (mT (mBin (oEq false) (mSlice false (mBin oIx (mBin oIx (mGet (mVar 0) (mC (.str ("channels" : Str)))) (mVar 2)) (mC (.int 3))) mNoP (mPart (mC (.int 5)))) (mC (.str ("order" : Str)))))
    (sRet (mSlice false (mBin oIx (mBin oIx (mVar 1) (mC (.int 2))) (mVar 2)) mNoP (mPart (mC (.int 1)))))
    sNil)
    (sRet (mBin oIx (mBin oIx (mVar 1) (mC (.int 2))) (mVar 2))))
def m__law_first : List D → Sto → Res D := runF false 3 mb__law_first
def mb__law_possible : SM := (sSeq (sSet 2 (mLst true mNil))
    (sSeq (sFor (iRg1 (m1 oLen (mGet (mVar 0) (mC (.str ("rules" : Str)))))) (gN 3)
    (sSeq (sAsg (gT 4 (gsCons (gN 5) (gsCons (gN 6) (gsCons (gN 7) (gsCons (gN 8) gsNil))))) (mBin oIx (mGet (mVar 0) (mC (.str ("rules" : Str)))) (mVar 3)))
    (sIf (mAndT (mT (mBin (oEq false) (mBin oIx (mBin oIx (mVar 1) (mC (.int 0))) (mVar 5)) (mVar 6))) (mT (mBin (oEq true) (mBin oIx (mVar 7) (mC (.int 0))) (mC (.str ("take" : Str))))))
    (sExpr (mMeth "list" oAppend (mVar 2) (mCons (mTup (mCons (mC (.str ("act" : Str))) (mCons (mVar 3) mNil))) mNil)))
    (sIf (mT (mBin (oEq false) (mBin oIx (mBin oIx (mVar 1) (mC (.int 0))) (mVar 5)) (mVar 6)))
    (sSet 2 (mBin (oAdd true) (mVar 2) (mComp false (iSeq (mCallN 3 m__law_first (mCons (mVar 0) (mCons (mVar 1) (mCons (mBin oIx (mVar 7) (mC (.int 1))) mNil))))) [9] (.nm 9) (mT (mBin (oEq false) (mBin oIx (mVar 9) (mC (.int 1))) (mBin oIx (mVar 7) (mC (.int 2))))) (mTup (mCons (mC (.str ("take" : Str))) (mCons (mVar 3) (mCons (mBin oIx (mVar 9) (mC (.int 0))) mNil)))))))
    sNil))))
    (sSeq (sFor (iRg1 (m1 oLen (mGet (mVar 0) (mC (.str ("channels" : Str)))))) (gN 4)
    (sIf (mT (mBin (oEq false) (mSlice false (mBin oIx (mBin oIx (mGet (mVar 0) (mC (.str ("channels" : Str)))) (mVar 4)) (mC (.int 3))) (mPart (mUn oNeg (mC (.int 5)))) mNoP) (mC (.str ("lossy" : Str)))))
    (sSet 2 (mBin (oAdd true) (mVar 2) (mComp false (iSeq (mCallN 3 m__law_first (mCons (mVar 0) (mCons (mVar 1) (mCons (mVar 4) mNil))))) [9] (.nm 9) mYes (mTup (mCons (mC (.str ("lose" : Str))) (mCons (mVar 4) (mCons (mBin oIx (mVar 9) (mC (.int 0))) mNil)))))))
    sNil))
    (sRet (mVar 2)))))
def m__law_possible : List D → Sto → Res D := runF false 10 mb__law_possible
def mb__law_done : SM := (sSeq (sSet 3 (m1 (oList true) (mBin oIx (mVar 1) (mC (.int 0)))))
    (sSeq (sSet 4 (m1 (oList true) (mBin oIx (mVar 1) (mC (.int 1)))))
    (sSeq (sSet 5 (mComp true (iSeq (mBin oIx (mVar 1) (mC (.int 2)))) [10] (.nm 10) mYes (m1 (oList false) (mVar 10))))
    (sSeq (sIf (mT (mBin (oEq false) (mBin oIx (mVar 2) (mC (.int 0))) (mC (.str ("lose" : Str)))))
    (sSeq (sAsg (gSet (mVar 5) (mBin oIx (mVar 2) (mC (.int 1)))) (mComp false (iSeq (mBin oIx (mVar 5) (mBin oIx (mVar 2) (mC (.int 1))))) [11] (.nm 11) (mT (mBin (oEq true) (mBin oIx (mVar 11) (mC (.int 0))) (mBin oIx (mVar 2) (mC (.int 2))))) (mVar 11)))
    (sRet (mTup (mCons (mVar 3) (mCons (mVar 4) (mCons (mVar 5) mNil))))))
    sNil)
    (sSeq (sAsg (gT 4 (gsCons (gN 6) (gsCons (gN 7) (gsCons (gN 8) (gsCons (gN 9) gsNil))))) (mBin oIx (mGet (mVar 0) (mC (.str ("rules" : Str)))) (mBin oIx (mVar 2) (mC (.int 1)))))
    (sSeq (sAsg (gSet (mVar 3) (mVar 6)) (mVar 9))
    (sSeq (sIf (mT (mBin (oEq false) (mBin oIx (mVar 8) (mC (.int 0))) (mC (.str ("send" : Str)))))
    (sSeq (sAsg (gSet (mVar 5) (mBin oIx (mVar 8) (mC (.int 1)))) (mBin (oAdd false) (mBin oIx (mVar 5) (mBin oIx (mVar 8) (mC (.int 1)))) (mLst false (mCons (mTup (mCons (mBin oIx (mVar 4) (mBin oIx (mVar 8) (mC (.int 1)))) (mCons (mBin oIx (mVar 8) (mC (.int 2))) mNil))) mNil))))
    (sAsg (gSet (mVar 4) (mBin oIx (mVar 8) (mC (.int 1)))) (mBin (oAdd false) (mBin oIx (mVar 4) (mBin oIx (mVar 8) (mC (.int 1)))) (mC (.int 1)))))
    sNil)
    (sSeq (sIf (mT (mBin (oEq false) (mBin oIx (mVar 8) (mC (.int 0))) (mC (.str ("take" : Str)))))
    (sAsg (gSet (mVar 5) (mBin oIx (mVar 8) (mC (.int 1)))) (mComp false (iSeq (mBin oIx (mVar 5) (mBin oIx (mVar 8) (mC (.int 1))))) [11] (.nm 11) (mT (mBin (oEq true) (mBin oIx (mVar 11) (mC (.int 0))) (mBin oIx (mVar 2) (mC (.int 2))))) (mVar 11)))
    sNil)
    (sRet (mTup (mCons (mVar 3) (mCons (mVar 4) (mCons (mVar 5) mNil)))))))))))))
def m__law_done : List D → Sto → Res D := runF false 12 mb__law_done
def mb__law_near : SM := (sSeq (sSet 3 (mLst true (mCons (mTup (mCons (mC (.str ("act" : Str))) (mCons (m1 oLen (mGet (mVar 1) (mC (.str ("rules" : Str))))) mNil))) (mCons (mTup (mCons (mC (.str ("take" : Str))) (mCons (m1 oLen (mGet (mVar 1) (mC (.str ("rules" : Str))))) (mCons (mC (.int 0)) mNil)))) (mCons (mTup (mCons (mC (.str ("lose" : Str))) (mCons (m1 oLen (mGet (mVar 1) (mC (.str ("channels" : Str))))) (mCons (mC (.int 0)) mNil)))) mNil)))))
    (sSeq (sFor (iRg1 (m1 oLen (mGet (mVar 1) (mC (.str ("rules" : Str)))))) (gN 4)
    (sSeq (sSet 7 (mBin oIx (mBin oIx (mGet (mVar 1) (mC (.str ("rules" : Str)))) (mVar 4)) (mC (.int 2))))
    (sSeq (sExpr (mMeth "list" oAppend (mVar 3) (mCons (mTup (mCons (mC (.str ("act" : Str))) (mCons (mVar 4) mNil))) mNil)))
    (sIf (mT (mBin (oEq false) (mBin oIx (mVar 7) (mC (.int 0))) (mC (.str ("take" : Str)))))
    (sSet 3 (mBin (oAdd true) (mBin (oAdd false) (mVar 3) (mComp false (iSeq (mBin oIx (mBin oIx (mVar 2) (mC (.int 2))) (mBin oIx (mVar 7) (mC (.int 1))))) [11] (.nm 11) mYes (mTup (mCons (mC (.str ("take" : Str))) (mCons (mVar 4) (mCons (mBin oIx (mVar 11) (mC (.int 0))) mNil)))))) (mLst false (mCons (mTup (mCons (mC (.str ("take" : Str))) (mCons (mVar 4) (mCons (mBin oIx (mBin oIx (mVar 2) (mC (.int 1))) (mBin oIx (mVar 7) (mC (.int 1)))) mNil)))) mNil))))
    (sExpr (mMeth "list" oAppend (mVar 3) (mCons (mTup (mCons (mC (.str ("take" : Str))) (mCons (mVar 4) (mCons (mC (.int 0)) mNil)))) mNil)))))))
    (sSeq (sFor (iRg1 (m1 oLen (mGet (mVar 1) (mC (.str ("channels" : Str)))))) (gN 5)
    (sSeq (sSet 8 (mComp false (iRg1 (mBin oIx (mBin oIx (mVar 2) (mC (.int 1))) (mVar 5))) [10] (.nm 10) (mT (mBin (oIn true) (mVar 10) (mComp false (iSeq (mBin oIx (mBin oIx (mVar 2) (mC (.int 2))) (mVar 5))) [11] (.nm 11) mYes (mBin oIx (mVar 11) (mC (.int 0)))))) (mVar 10)))
    (sSeq (sSet 3 (mBin (oAdd true) (mBin (oAdd false) (mVar 3) (mComp false (iSeq (mBin oIx (mBin oIx (mVar 2) (mC (.int 2))) (mVar 5))) [11] (.nm 11) mYes (mTup (mCons (mC (.str ("lose" : Str))) (mCons (mVar 5) (mCons (mBin oIx (mVar 11) (mC (.int 0))) mNil)))))) (mComp false (iSeq (mSlice false (mVar 8) mNoP (mPart (mC (.int 2))))) [10] (.nm 10) mYes (mTup (mCons (mC (.str ("lose" : Str))) (mCons (mVar 5) (mCons (mVar 10) mNil)))))))
    (sSet 3 (mBin (oAdd true) (mVar 3) (mLst false (mCons (mTup (mCons (mC (.str ("lose" : Str))) (mCons (mVar 5) (mCons (mBin oIx (mBin oIx (mVar 2) (mC (.int 1))) (mVar 5)) mNil)))) (mCons (mTup (mCons (mC (.str ("lose" : Str))) (mCons (mVar 5) (mCons (mBin oPow (mC (.int 10)) (mC (.int 30))) mNil)))) mNil))))))))
    (sSeq (sSet 3 (mBin (oAdd true) (mVar 3) (mLst false (mCons (mC .non) (mCons (mC (.int 0)) (mCons (mC (.str ("act" : Str))) (mCons (mTup mNil) (mCons (mTup (mCons (mC (.str ("act" : Str))) mNil)) (mCons (mTup (mCons (mC (.str ("act" : Str))) (mCons (mC (.int 0)) (mCons (mC (.int 0)) mNil)))) (mCons (mTup (mCons (mC (.str ("do" : Str))) (mCons (mC (.int 0)) mNil))) (mCons (mTup (mCons (mC (.str ("act" : Str))) (mCons (mC .non) mNil))) (mCons (mTup (mCons (mC (.str ("act" : Str))) (mCons (mUn oNeg (mC (.int 1))) mNil))) mNil))))))))))))
    (sSeq (sSet 3 (mBin (oAdd true) (mVar 3) (mLst false (mCons (mTup (mCons (mC (.str ("take" : Str))) (mCons (mC (.int 0)) mNil))) (mCons (mTup (mCons (mC (.str ("take" : Str))) (mCons (mC (.int 0)) (mCons (mUn oNeg (mC (.int 1))) mNil)))) (mCons (mTup (mCons (mC (.str ("lose" : Str))) (mCons (mC (.int 0)) mNil))) (mCons (mTup (mCons (mC (.str ("lose" : Str))) (mCons (mUn oNeg (mC (.int 1))) (mCons (mC (.int 0)) mNil)))) (mCons (mTup (mCons (mC (.str ("lose" : Str))) (mCons (mC (.int 0)) (mCons (mUn oNeg (mC (.int 1))) mNil)))) mNil))))))))
    (sSeq (sSet 6 (mCallN 2 m__law_possible (mCons (mVar 1) (mCons (mVar 2) mNil))))
    (sSeq (sSet 3 (mComp true (iSeq (mVar 3)) [9] (.nm 9) (mT (mBin (oIn true) (mVar 9) (mVar 6))) (mVar 9)))
    (sRet (mBin oIx (mVar 3) (mCallN 2 m__law_take (mCons (mVar 0) (mCons (m1 oLen (mVar 3)) mNil))))))))))))
def m__law_near : List D → Sto → Res D := runF false 12 mb__law_near
def mb__law_same (IHm : List D → Sto → Res D) : SM := (sSeq (sIf (mT (m1 (oIsi "tuple") (mVar 1)))
    (sSeq (sIf (mOrT (mNotT (mT (m1 (oIsi "tuple") (mVar 0)))) (mT (mBin (oEq true) (m1 oLen (mVar 0)) (m1 oLen (mVar 1)))))
    (sRet (mC (.bl false)))
    sNil)
    (sSeq (sFor (iRg1 (m1 oLen (mVar 1))) (gN 2)
    (sIf (mNotT (mT (mCallN 2 IHm (mCons (mBin oIx (mVar 0) (mVar 2)) (mCons (mBin oIx (mVar 1) (mVar 2)) mNil)))))
    (sRet (mC (.bl false)))
    sNil))
    (sRet (mC (.bl true)))))
    sNil)
    (sSeq (sIf (mT (mIsN false (mVar 1)))
    (sRet (mIsN false (mVar 0)))
    sNil)
    (sSeq (sIf (mT (m1 (oIsi "str") (mVar 1)))
    (sRet (mAnd (m1 (oIsi "str") (mVar 0)) (mBin (oEq false) (mVar 0) (mVar 1))))
    sNil)
    (sRet (mAnd (m1 (oIsi "int") (mVar 0)) (mAnd (mNot (m1 (oIsi "bool") (mVar 0))) (mBin (oEq false) (mVar 0) (mVar 1))))))))
def m__law_same : Nat → List D → Sto → Res D
  | 0 => fun _ _ => .bad
  | n + 1 => runF false 3 (mb__law_same (m__law_same n))
def mbH__law_same : SM := (sSeq (sIf (mT (m1 (oIsi "tuple") (mVar 1)))
    (sSeq (sIf (mOrT (mNotT (mT (m1 (oIsi "tuple") (mVar 0)))) (mT (mBin (oEq true) (m1 oLen (mVar 0)) (m1 oLen (mVar 1)))))
    (sRet (mC (.bl false)))
    sNil)
    (sSeq sBad
    (sRet (mC (.bl true)))))
    sNil)
    (sSeq (sIf (mT (mIsN false (mVar 1)))
    (sRet (mIsN false (mVar 0)))
    sNil)
    (sSeq (sIf (mT (m1 (oIsi "str") (mVar 1)))
    (sRet (mAnd (m1 (oIsi "str") (mVar 0)) (mBin (oEq false) (mVar 0) (mVar 1))))
    sNil)
    (sRet (mAnd (m1 (oIsi "int") (mVar 0)) (mAnd (mNot (m1 (oIsi "bool") (mVar 0))) (mBin (oEq false) (mVar 0) (mVar 1))))))))
def mH__law_same : List D → Sto → Res D := runQ 3 mbH__law_same
def mb__law_lanes : SM := (sSeq (sSet 1 (mCallN 2 m__law_names (mCons (mVar 0) (mCons (mC (.int 5)) mNil))))
    (sSeq (sSet 2 (mLst true mNil))
    (sSeq (sSet 3 (mLst true mNil))
    (sSeq (sFor (iRg1 (mBin (oAdd false) (mC (.int 1)) (mCallN 2 m__law_take (mCons (mVar 0) (mCons (mC (.int 3)) mNil))))) (gN 4)
    (sSeq (sSet 6 (mBin oIx (mLst false (mCons (mC (.str ("order" : Str))) (mCons (mC (.str ("loose" : Str))) (mCons (mC (.str ("order lossy" : Str))) (mCons (mC (.str ("loose lossy" : Str))) mNil))))) (mCallN 2 m__law_take (mCons (mVar 0) (mCons (mC (.int 4)) mNil)))))
    (sSeq (sExpr (mMeth "list" oAppend (mVar 2) (mCons (mTup (mCons (mBin oIx (mVar 1) (mBin (oAdd false) (mC (.int 2)) (mVar 4))) (mCons (mC (.int 0)) (mCons (mC (.int 1)) (mCons (mVar 6) mNil))))) mNil)))
    (sSeq (sSet 7 (mLst false (mCons (mCallN 2 m__law_take (mCons (mVar 0) (mCons (mC (.int 10)) mNil))) (mCons (mCallN 2 m__law_take (mCons (mVar 0) (mCons (mC (.int 3)) mNil))) mNil))))
    (sFor (iSeq (mVar 7)) (gN 8)
    (sSeq (sExpr (mMeth "list" oAppend (mVar 3) (mCons (mTup (mCons (mC (.int 0)) (mCons (mC (.int 0)) (mCons (mTup (mCons (mC (.str ("send" : Str))) (mCons (mVar 4) (mCons (mVar 8) mNil)))) (mCons (mC (.int 0)) mNil))))) mNil)))
    (sExpr (mMeth "list" oAppend (mVar 3) (mCons (mTup (mCons (mC (.int 1)) (mCons (mC (.int 0)) (mCons (mTup (mCons (mC (.str ("take" : Str))) (mCons (mVar 4) (mCons (mVar 8) mNil)))) (mCons (mC (.int 0)) mNil))))) mNil)))))))))
    (sSeq (sSet 5 (mCallN 2 m__law_take (mCons (mVar 0) (mCons (m1 oLen (mVar 3)) mNil))))
    (sRet (mDict [.inr ("processes" : Str), .inr ("channels" : Str), .inr ("rules" : Str)] (mCons (mLst false (mCons (mTup (mCons (mBin oIx (mVar 1) (mC (.int 0))) (mCons (mC (.int 1)) mNil))) (mCons (mTup (mCons (mBin oIx (mVar 1) (mC (.int 1))) (mCons (mC (.int 1)) mNil))) mNil))) (mCons (mVar 2) (mCons (mBin (oAdd false) (mSlice false (mVar 3) (mPart (mVar 5)) mNoP) (mSlice false (mVar 3) mNoP (mPart (mVar 5)))) mNil))))))))))
def m__law_lanes : List D → Sto → Res D := runF true 9 mb__law_lanes
def mb__law_refused : SM := (sSeq (sTry mt_BadStep (some 3)
    (sExpr (mCallN 3 m_done (mCons (mVar 0) (mCons (mVar 1) (mCons (mVar 2) mNil)))))
    (sRet (mCallN 2 mH__law_same (mCons (mAt 3 (mVar 3)) (mCons (mC (.int 0)) mNil)))))
    (sRet (mC (.bl false))))
def m__law_refused : List D → Sto → Res D := runF false 4 mb__law_refused
def mb__law_agrees : SM := (sSeq (sSet 4 (mCallN 1 m__law_told (mCons (mVar 3) mNil)))
    (sSeq (sSet 5 (mLst false (mCons (m1 (oList false) (mBin oIx (mVar 3) (mC (.int 0)))) (mCons (m1 (oList false) (mBin oIx (mVar 3) (mC (.int 1)))) (mCons (mComp false (iSeq (mBin oIx (mVar 3) (mC (.int 2)))) [10] (.nm 10) mYes (mComp false (iSeq (mVar 10)) [11] (.nm 11) mYes (m1 (oList false) (mVar 11)))) mNil)))))
    (sSeq (sFor (iSeq (mLst false (mCons (mVar 4) (mCons (mVar 5) mNil)))) (gN 6)
    (sIf (mNotT (mT (mCallN 2 (m__law_same 8) (mCons (mCallN 2 m_possible (mCons (mVar 2) (mCons (mVar 6) mNil))) (mCons (m1 oTuple (mCallN 2 m__law_possible (mCons (mVar 1) (mCons (mVar 3) mNil)))) mNil)))))
    (sRet (mC (.bl false)))
    sNil))
    (sSeq (sSet 7 (mCallN 2 m__law_possible (mCons (mVar 1) (mCons (mVar 3) mNil))))
    (sSeq (sSet 8 (mBin oIx (mVar 7) (mCallN 2 m__law_take (mCons (mVar 0) (mCons (m1 oLen (mVar 7)) mNil)))))
    (sSeq (sIf (mNotT (mT (mCallN 2 (m__law_same 8) (mCons (mCallK 3 [0, 1, 2] m_done (mCons (mVar 2) (mCons (mVar 5) (mCons (m1 (oList false) (mVar 8)) mNil)))) (mCons (mCallN 1 m__law_told (mCons (mCallN 3 m__law_done (mCons (mVar 1) (mCons (mVar 3) (mCons (mVar 8) mNil)))) mNil)) mNil)))))
    (sRet (mC (.bl false)))
    sNil)
    (sSeq (sFor (iRg1 (mC (.int 3))) (gN 9)
    (sIf (mNotT (mT (mCallN 3 m__law_refused (mCons (mVar 2) (mCons (mVar 4) (mCons (mCallN 3 m__law_near (mCons (mVar 0) (mCons (mVar 1) (mCons (mVar 3) mNil)))) mNil))))))
    (sRet (mC (.bl false)))
    sNil))
    (sRet (mC (.bl true))))))))))
def m__law_agrees : List D → Sto → Res D := runF false 12 mb__law_agrees
def mb_law : SM := (sSeq (sSet 1 (mCallN 1 m__law_pool (mCons (mVar 0) mNil)))
    (sSeq (sSet 2 (mCallN 1 m__law_lanes (mCons (mVar 1) mNil)))
    (sSeq (sSet 3 (mCallN 2 m__law_made (mCons (mVar 1) (mCons (mVar 2) mNil))))
    (sSeq (sSet 4 (mCallN 1 m__law_start (mCons (mVar 2) mNil)))
    (sSeq (sIf (mNotT (mT (mCallN 2 (m__law_same 8) (mCons (mCallN 1 m_start (mCons (mVar 3) mNil)) (mCons (mCallN 1 m__law_told (mCons (mVar 4) mNil)) mNil)))))
    (sRet (mC (.bl false)))
    sNil)
    (sSeq (sSet 5 (mCallN 2 m__law_take (mCons (mVar 1) (mCons (mC (.int 9)) mNil))))
    (sSeq (sFor (iRg1 (mBin (oAdd false) (mVar 5) (mCallN 2 m__law_take (mCons (mVar 1) (mCons (mC (.int 11)) mNil))))) (gN 6)
    (sSeq (sSet 7 (mCallN 2 m__law_possible (mCons (mVar 2) (mCons (mVar 4) mNil))))
    (sSeq (sIf (mT (mBin oLt (mVar 6) (mVar 5)))
    (sSet 7 (mComp false (iSeq (mVar 7)) [8] (.nm 8) (mT (mBin (oEq false) (mBin oIx (mVar 8) (mC (.int 0))) (mC (.str ("act" : Str))))) (mVar 8)))
    sNil)
    (sSeq (sSet 8 (mBin oIx (mVar 7) (mCallN 2 m__law_take (mCons (mVar 1) (mCons (m1 oLen (mVar 7)) mNil)))))
    (sSeq (sSet 9 (mCallN 3 m__law_done (mCons (mVar 2) (mCons (mVar 4) (mCons (mVar 8) mNil)))))
    (sSeq (sIf (mNotT (mT (mCallN 2 (m__law_same 8) (mCons (mCallN 3 m_done (mCons (mVar 3) (mCons (mCallN 1 m__law_told (mCons (mVar 4) mNil)) (mCons (mVar 8) mNil)))) (mCons (mCallN 1 m__law_told (mCons (mVar 9) mNil)) mNil)))))
    (sRet (mC (.bl false)))
    sNil)
    (sSeq (sSet 4 (mVar 9))
    (sIf (mAndT (mT (mBin oGe (mVar 6) (mBin oSub (mVar 5) (mC (.int 1))))) (mNotT (mT (mCallN 4 m__law_agrees (mCons (mVar 1) (mCons (mVar 2) (mCons (mVar 3) (mCons (mVar 4) mNil))))))))
    (sRet (mC (.bl false)))
    sNil))))))))
    (sRet (mCallN 4 m__law_agrees (mCons (mVar 1) (mCons (mVar 2) (mCons (mVar 3) (mCons (mVar 4) mNil)))))))))))))
def m_law : List D → Sto → Res D := runF false 10 mb_law
structure Tx (P : Program) (K : PySem.W.Frag) (mg : Str → Option Value) where
  c_CutError : Addr
  c_BadValue : Addr
  c_BadStep : Addr
  i_BadValue : Addr
  i_BadStep : Addr
  ca_Net : Addr
  a_is_whole : Addr
  d_is_whole : FuncData
  F_is_whole : L2.Fun K "is_whole" "is_whole" s_is_whole a_is_whole d_is_whole
  b_is_whole : Binds K d_is_whole [("value" : Str)] []
  g_is_whole : mg "is_whole" = some (.ref a_is_whole)
  k_is_whole : PySem.W.keepIn K (.ref a_is_whole) = true
  a_is_below : Addr
  d_is_below : FuncData
  F_is_below : L2.Fun K "is_below" "is_below" s_is_below a_is_below d_is_below
  b_is_below : Binds K d_is_below [("value" : Str), ("top" : Str)] []
  g_is_below : mg "is_below" = some (.ref a_is_below)
  k_is_below : PySem.W.keepIn K (.ref a_is_below) = true
  a_is_name : Addr
  d_is_name : FuncData
  F_is_name : L2.Fun K "is_name" "is_name" s_is_name a_is_name d_is_name
  b_is_name : Binds K d_is_name [("value" : Str)] []
  g_is_name : mg "is_name" = some (.ref a_is_name)
  k_is_name : PySem.W.keepIn K (.ref a_is_name) = true
  a_is_process : Addr
  d_is_process : FuncData
  F_is_process : L2.Fun K "is_process" "is_process" s_is_process a_is_process d_is_process
  b_is_process : Binds K d_is_process [("value" : Str), ("elder" : Str)] []
  g_is_process : mg "is_process" = some (.ref a_is_process)
  k_is_process : PySem.W.keepIn K (.ref a_is_process) = true
  a_is_channel : Addr
  d_is_channel : FuncData
  F_is_channel : L2.Fun K "is_channel" "is_channel" s_is_channel a_is_channel d_is_channel
  b_is_channel : Binds K d_is_channel [("value" : Str), ("processes" : Str), ("elder" : Str)] []
  g_is_channel : mg "is_channel" = some (.ref a_is_channel)
  k_is_channel : PySem.W.keepIn K (.ref a_is_channel) = true
  a_is_act : Addr
  d_is_act : FuncData
  F_is_act : L2.Fun K "is_act" "is_act" s_is_act a_is_act d_is_act
  b_is_act : Binds K d_is_act [("act" : Str), ("process" : Str), ("channels" : Str)] []
  g_is_act : mg "is_act" = some (.ref a_is_act)
  k_is_act : PySem.W.keepIn K (.ref a_is_act) = true
  a_is_rule : Addr
  d_is_rule : FuncData
  F_is_rule : L2.Fun K "is_rule" "is_rule" s_is_rule a_is_rule d_is_rule
  b_is_rule : Binds K d_is_rule [("value" : Str), ("processes" : Str), ("channels" : Str)] []
  g_is_rule : mg "is_rule" = some (.ref a_is_rule)
  k_is_rule : PySem.W.keepIn K (.ref a_is_rule) = true
  a__frozen : Addr
  d__frozen : FuncData
  F__frozen : L2.Fun K "_frozen" "_frozen" s__frozen a__frozen d__frozen
  b__frozen : Binds K d__frozen [("value" : Str), ("depth" : Str)] []
  g__frozen : mg "_frozen" = some (.ref a__frozen)
  k__frozen : PySem.W.keepIn K (.ref a__frozen) = true
  a__rows : Addr
  d__rows : FuncData
  F__rows : L2.Fun K "_rows" "_rows" s__rows a__rows d__rows
  b__rows : Binds K d__rows [("value" : Str), ("least" : Str), ("most" : Str)] []
  g__rows : mg "_rows" = some (.ref a__rows)
  k__rows : PySem.W.keepIn K (.ref a__rows) = true
  a_Net_init : Addr
  d_Net_init : FuncData
  F_Net_init : L2.Fun K "__init__" "Net.__init__" s_Net_init a_Net_init d_Net_init
  b_Net_init : Binds K d_Net_init [("self" : Str), ("processes" : Str), ("channels" : Str), ("rules" : Str)] []
  a_start : Addr
  d_start : FuncData
  F_start : L2.Fun K "start" "start" s_start a_start d_start
  b_start : Binds K d_start [("net" : Str)] []
  g_start : mg "start" = some (.ref a_start)
  k_start : PySem.W.keepIn K (.ref a_start) = true
  a_is_lossy : Addr
  d_is_lossy : FuncData
  F_is_lossy : L2.Fun K "is_lossy" "is_lossy" s_is_lossy a_is_lossy d_is_lossy
  b_is_lossy : Binds K d_is_lossy [("net" : Str), ("channel" : Str)] []
  g_is_lossy : mg "is_lossy" = some (.ref a_is_lossy)
  k_is_lossy : PySem.W.keepIn K (.ref a_is_lossy) = true
  a_is_ordered : Addr
  d_is_ordered : FuncData
  F_is_ordered : L2.Fun K "is_ordered" "is_ordered" s_is_ordered a_is_ordered d_is_ordered
  b_is_ordered : Binds K d_is_ordered [("net" : Str), ("channel" : Str)] []
  g_is_ordered : mg "is_ordered" = some (.ref a_is_ordered)
  k_is_ordered : PySem.W.keepIn K (.ref a_is_ordered) = true
  a_as_deed : Addr
  d_as_deed : FuncData
  F_as_deed : L2.Fun K "as_deed" "as_deed" s_as_deed a_as_deed d_as_deed
  b_as_deed : Binds K d_as_deed [("net" : Str), ("deed" : Str)] []
  g_as_deed : mg "as_deed" = some (.ref a_as_deed)
  k_as_deed : PySem.W.keepIn K (.ref a_as_deed) = true
  a_open_messages_of : Addr
  d_open_messages_of : FuncData
  F_open_messages_of : L2.Fun K "open_messages_of" "open_messages_of" s_open_messages_of a_open_messages_of d_open_messages_of
  b_open_messages_of : Binds K d_open_messages_of [("net" : Str), ("world" : Str), ("channel" : Str)] []
  g_open_messages_of : mg "open_messages_of" = some (.ref a_open_messages_of)
  k_open_messages_of : PySem.W.keepIn K (.ref a_open_messages_of) = true
  a_can_do : Addr
  d_can_do : FuncData
  F_can_do : L2.Fun K "can_do" "can_do" s_can_do a_can_do d_can_do
  b_can_do : Binds K d_can_do [("net" : Str), ("world" : Str), ("deed" : Str)] []
  g_can_do : mg "can_do" = some (.ref a_can_do)
  k_can_do : PySem.W.keepIn K (.ref a_can_do) = true
  a_possible : Addr
  d_possible : FuncData
  F_possible : L2.Fun K "possible" "possible" s_possible a_possible d_possible
  b_possible : Binds K d_possible [("net" : Str), ("world" : Str)] []
  g_possible : mg "possible" = some (.ref a_possible)
  k_possible : PySem.W.keepIn K (.ref a_possible) = true
  a__with_part : Addr
  d__with_part : FuncData
  F__with_part : L2.Fun K "_with_part" "_with_part" s__with_part a__with_part d__with_part
  b__with_part : Binds K d__with_part [("row" : Str), ("at" : Str), ("part" : Str)] []
  g__with_part : mg "_with_part" = some (.ref a__with_part)
  k__with_part : PySem.W.keepIn K (.ref a__with_part) = true
  a__without_message : Addr
  d__without_message : FuncData
  F__without_message : L2.Fun K "_without_message" "_without_message" s__without_message a__without_message d__without_message
  b__without_message : Binds K d__without_message [("present" : Str), ("channel" : Str), ("k" : Str)] []
  g__without_message : mg "_without_message" = some (.ref a__without_message)
  k__without_message : PySem.W.keepIn K (.ref a__without_message) = true
  a_behind : Addr
  d_behind : FuncData
  F_behind : L2.Fun K "behind" "behind" s_behind a_behind d_behind
  b_behind : Binds K d_behind [("net" : Str), ("world" : Str), ("deed" : Str)] []
  g_behind : mg "behind" = some (.ref a_behind)
  k_behind : PySem.W.keepIn K (.ref a_behind) = true
  a_done : Addr
  d_done : FuncData
  F_done : L2.Fun K "done" "done" s_done a_done d_done
  b_done : Binds K d_done [("net" : Str), ("world" : Str), ("deed" : Str)] []
  g_done : mg "done" = some (.ref a_done)
  k_done : PySem.W.keepIn K (.ref a_done) = true
  a__law_mixed : Addr
  d__law_mixed : FuncData
  F__law_mixed : L2.Fun K "_law_mixed" "_law_mixed" s__law_mixed a__law_mixed d__law_mixed
  b__law_mixed : Binds K d__law_mixed [("_law_number" : Str), ("_law_turn" : Str), ("_law_many" : Str)] []
  g__law_mixed : mg "_law_mixed" = some (.ref a__law_mixed)
  k__law_mixed : PySem.W.keepIn K (.ref a__law_mixed) = true
  a__law_pool : Addr
  d__law_pool : FuncData
  F__law_pool : L2.Fun K "_law_pool" "_law_pool" s__law_pool a__law_pool d__law_pool
  b__law_pool : Binds K d__law_pool [("_law_script" : Str)] []
  g__law_pool : mg "_law_pool" = some (.ref a__law_pool)
  k__law_pool : PySem.W.keepIn K (.ref a__law_pool) = true
  a__law_take : Addr
  d__law_take : FuncData
  F__law_take : L2.Fun K "_law_take" "_law_take" s__law_take a__law_take d__law_take
  b__law_take : Binds K d__law_take [("_law_pool_here" : Str), ("_law_many" : Str)] []
  g__law_take : mg "_law_take" = some (.ref a__law_take)
  k__law_take : PySem.W.keepIn K (.ref a__law_take) = true
  a__law_names : Addr
  d__law_names : FuncData
  F__law_names : L2.Fun K "_law_names" "_law_names" s__law_names a__law_names d__law_names
  b__law_names : Binds K d__law_names [("_law_pool_here" : Str), ("_law_many" : Str)] []
  g__law_names : mg "_law_names" = some (.ref a__law_names)
  k__law_names : PySem.W.keepIn K (.ref a__law_names) = true
  a__law_made : Addr
  d__law_made : FuncData
  F__law_made : L2.Fun K "_law_made" "_law_made" s__law_made a__law_made d__law_made
  b__law_made : Binds K d__law_made [("_law_pool_here" : Str), ("_law_net" : Str)] []
  g__law_made : mg "_law_made" = some (.ref a__law_made)
  k__law_made : PySem.W.keepIn K (.ref a__law_made) = true
  a__law_start : Addr
  d__law_start : FuncData
  F__law_start : L2.Fun K "_law_start" "_law_start" s__law_start a__law_start d__law_start
  b__law_start : Binds K d__law_start [("_law_net" : Str)] []
  g__law_start : mg "_law_start" = some (.ref a__law_start)
  k__law_start : PySem.W.keepIn K (.ref a__law_start) = true
  a__law_told : Addr
  d__law_told : FuncData
  F__law_told : L2.Fun K "_law_told" "_law_told" s__law_told a__law_told d__law_told
  b__law_told : Binds K d__law_told [("_law_world" : Str)] []
  g__law_told : mg "_law_told" = some (.ref a__law_told)
  k__law_told : PySem.W.keepIn K (.ref a__law_told) = true
  a__law_first : Addr
  d__law_first : FuncData
  F__law_first : L2.Fun K "_law_first" "_law_first" s__law_first a__law_first d__law_first
  b__law_first : Binds K d__law_first [("_law_net" : Str), ("_law_world" : Str), ("_law_c" : Str)] []
  g__law_first : mg "_law_first" = some (.ref a__law_first)
  k__law_first : PySem.W.keepIn K (.ref a__law_first) = true
  a__law_possible : Addr
  d__law_possible : FuncData
  F__law_possible : L2.Fun K "_law_possible" "_law_possible" s__law_possible a__law_possible d__law_possible
  b__law_possible : Binds K d__law_possible [("_law_net" : Str), ("_law_world" : Str)] []
  g__law_possible : mg "_law_possible" = some (.ref a__law_possible)
  k__law_possible : PySem.W.keepIn K (.ref a__law_possible) = true
  a__law_done : Addr
  d__law_done : FuncData
  F__law_done : L2.Fun K "_law_done" "_law_done" s__law_done a__law_done d__law_done
  b__law_done : Binds K d__law_done [("_law_net" : Str), ("_law_world" : Str), ("_law_deed" : Str)] []
  g__law_done : mg "_law_done" = some (.ref a__law_done)
  k__law_done : PySem.W.keepIn K (.ref a__law_done) = true
  a__law_near : Addr
  d__law_near : FuncData
  F__law_near : L2.Fun K "_law_near" "_law_near" s__law_near a__law_near d__law_near
  b__law_near : Binds K d__law_near [("_law_pool_here" : Str), ("_law_net" : Str), ("_law_world" : Str)] []
  g__law_near : mg "_law_near" = some (.ref a__law_near)
  k__law_near : PySem.W.keepIn K (.ref a__law_near) = true
  a__law_same : Addr
  d__law_same : FuncData
  F__law_same : L2.Fun K "_law_same" "_law_same" s__law_same a__law_same d__law_same
  b__law_same : Binds K d__law_same [("_law_actual" : Str), ("_law_due" : Str)] []
  g__law_same : mg "_law_same" = some (.ref a__law_same)
  k__law_same : PySem.W.keepIn K (.ref a__law_same) = true
  a__law_lanes : Addr
  d__law_lanes : FuncData
  F__law_lanes : L2.Fun K "_law_lanes" "_law_lanes" s__law_lanes a__law_lanes d__law_lanes
  b__law_lanes : Binds K d__law_lanes [("_law_pool_here" : Str)] []
  g__law_lanes : mg "_law_lanes" = some (.ref a__law_lanes)
  k__law_lanes : PySem.W.keepIn K (.ref a__law_lanes) = true
  a__law_refused : Addr
  d__law_refused : FuncData
  F__law_refused : L2.Fun K "_law_refused" "_law_refused" s__law_refused a__law_refused d__law_refused
  b__law_refused : Binds K d__law_refused [("_law_made_here" : Str), ("_law_world" : Str), ("_law_deed" : Str)] []
  g__law_refused : mg "_law_refused" = some (.ref a__law_refused)
  k__law_refused : PySem.W.keepIn K (.ref a__law_refused) = true
  a__law_agrees : Addr
  d__law_agrees : FuncData
  F__law_agrees : L2.Fun K "_law_agrees" "_law_agrees" s__law_agrees a__law_agrees d__law_agrees
  b__law_agrees : Binds K d__law_agrees [("_law_pool_here" : Str), ("_law_net" : Str), ("_law_made_here" : Str), ("_law_world" : Str)] []
  g__law_agrees : mg "_law_agrees" = some (.ref a__law_agrees)
  k__law_agrees : PySem.W.keepIn K (.ref a__law_agrees) = true
  a_law : Addr
  d_law : FuncData
  F_law : L2.Fun K "law" "law" s_law a_law d_law
  b_law : Binds K d_law [("_law_script" : Str)] []
  g_law : mg "law" = some (.ref a_law)
  k_law : PySem.W.keepIn K (.ref a_law) = true
  n_all : mg "all" = none
  n_bool : mg "bool" = none
  n_enumerate : mg "enumerate" = none
  n_int : mg "int" = none
  n_isinstance : mg "isinstance" = none
  n_len : mg "len" = none
  n_list : mg "list" = none
  n_range : mg "range" = none
  n_str : mg "str" = none
  n_tuple : mg "tuple" = none
  g_KINDS : GTup K mg "KINDS" g_KINDS
  g_LETTERS : ∃ t, mg "LETTERS" = some (.str ("abcdefghijklmnopqrstuvwxyz" : Str) t)
  g_MOST_CHANNELS : ∃ t, mg "MOST_CHANNELS" = some (.int 8 t)
  g_MOST_LETTERS : ∃ t, mg "MOST_LETTERS" = some (.int 6 t)
  g_MOST_PROCESSES : ∃ t, mg "MOST_PROCESSES" = some (.int 5 t)
  g_MOST_RULES : ∃ t, mg "MOST_RULES" = some (.int 40 t)
  g_MOST_STATES : ∃ t, mg "MOST_STATES" = some (.int 8 t)
  g_TOKENS : ∃ t, mg "TOKENS" = some (.int 10 t)
  e_BadValue : E_at.Txt P K mg "BadValue" c_BadValue i_BadValue
  x_BadValue : XfC K c_BadValue
  e_BadStep : E_at.Txt P K mg "BadStep" c_BadStep i_BadStep
  x_BadStep : XfC K c_BadStep
  c_Net : mg "Net" = some (.ref ca_Net)
  mk_Net : Mk K ca_Net a_Net_init
  cl_Net : Cls K ca_Net
  na_Net_processes : NoAttr K ca_Net ("processes" : Str)
  na_Net_channels : NoAttr K ca_Net ("channels" : Str)
  na_Net_rules : NoAttr K ca_Net ("rules" : Str)
  xm_BadStep_CutError : PySem.W.exmOne K (.ref c_CutError) (.ref c_BadStep) = some false
  xm_BadStep_BadValue : PySem.W.exmOne K (.ref c_BadValue) (.ref c_BadStep) = some false
  xm_BadStep_BadStep : PySem.W.exmOne K (.ref c_BadStep) (.ref c_BadStep) = some true
namespace Tx
variable {P : Program} {K : PySem.W.Frag} {mg : Str → Option Value}
def CA (T : Tx P K mg) : Nat → Addr
  | 0 => T.c_CutError
  | 1 => T.c_BadValue
  | 3 => T.c_BadStep
  | 100 => T.ca_Net
  | _ => 0
def EN : Nat → Str
  | 1 => ("at" : Str)
  | 3 => ("at" : Str)
  | _ => ("" : Str)
def S (T : Tx P K mg) : Stat := { K := K, CA := T.CA, AN := anOf attrs_all, EN := EN, ex := none }
theorem an_inj (T : Tx P K mg) : ∀ a b, T.S.AN a = T.S.AN b → a = b := anOf_inj (by decide +kernel) (by decide +kernel)
theorem fld4 (T : Tx P K mg) : ∀ c ∈ cls_all, FldOk T.S c 4 := fun c hc => by
  simp only [cls_all, List.mem_cons, List.not_mem_nil, or_false] at hc
  rcases hc with rfl
  · exact ⟨T.cl_Net, T.na_Net_channels⟩
theorem fld3 (T : Tx P K mg) : ∀ c ∈ cls_all, FldOk T.S c 3 := fun c hc => by
  simp only [cls_all, List.mem_cons, List.not_mem_nil, or_false] at hc
  rcases hc with rfl
  · exact ⟨T.cl_Net, T.na_Net_processes⟩
theorem fld5 (T : Tx P K mg) : ∀ c ∈ cls_all, FldOk T.S c 5 := fun c hc => by
  simp only [cls_all, List.mem_cons, List.not_mem_nil, or_false] at hc
  rcases hc with rfl
  · exact ⟨T.cl_Net, T.na_Net_rules⟩
theorem mtk_BadStep (T : Tx P K mg) : ∀ k b, mt_BadStep k = some b → PySem.W.exmOne K (.ref (T.S.CA k)) (.ref T.c_BadStep) = some b := fun k b h => by
  unfold mt_BadStep at h
  simp only [List.lookup_cons, List.lookup_nil] at h
  repeat (first | (split at h; (rename_i hk; have hk := beq_iff_eq.mp hk; subst hk; cases h; first | exact T.xm_BadStep_CutError | exact T.xm_BadStep_BadValue | exact T.xm_BadStep_BadStep)) | cases h)
end Tx
section
variable {P : Program} {w : World} {K : PySem.W.Frag} {mg : Str → Option Value} {base : Heap}
theorem kb_done_0_1_2 (T : Tx P K mg) : KBindsP K T.d_done [("net" : Str), ("world" : Str), ("deed" : Str)] [("net" : Str), ("world" : Str), ("deed" : Str)] [0, 1, 2] := Fun.kbinds T.F_done fun _ _ _ _ _ _ ws hl => match ws, hl with | [_, _, _], _ => rfl
theorem sc_is_whole : FnScope [("value" : Str)] [("value" : Str)] (defScope s_is_whole) := ⟨rfl, rfl, rfl, by decide +kernel, rfl, by decide +kernel, by decide +kernel⟩
theorem ok_is_whole (T : Tx P K mg) : FnOk P w K mg base (L2.CX P w) 1 T.a_is_whole T.d_is_whole [("value" : Str)] (spM T.S 1 m_is_whole) :=
  def_ok2 (k := 0) rfl false (fb := mb_is_whole) T.F_is_whole sc_is_whole rfl rfl rfl (fun cdv A outer s H E hr tk hp =>
    (ss_one (s_ret (e_and (e_isi (e_var 0) T.n_isinstance T.n_int) (e_one (e_not (e_isi (e_var 0) T.n_isinstance T.n_bool)))))))
theorem sc_is_below : FnScope [("value" : Str), ("top" : Str)] [("value" : Str), ("top" : Str)] (defScope s_is_below) := ⟨rfl, rfl, rfl, by decide +kernel, rfl, by decide +kernel, by decide +kernel⟩
theorem ok_is_below (T : Tx P K mg) : FnOk P w K mg base (L2.CX P w) 2 T.a_is_below T.d_is_below [("value" : Str), ("top" : Str)] (spM T.S 2 m_is_below) :=
  def_ok2 (k := 1) rfl false (fb := mb_is_below) T.F_is_below sc_is_below rfl rfl rfl (fun cdv A outer s H E hr tk hp =>
    (ss_one (s_ret (e_and (e_call (ok_is_whole T) (hr.mono (by first | decide | omega)) T.g_is_whole T.k_is_whole T.b_is_whole tk (a_cons (e_var 0) a_nil)) (e_one (e_chain or_le or_lt e_int (e_var 0) (e_var 1)))))))
theorem sc_is_name : FnScope [("value" : Str), ("sign" : Str)] [("value" : Str)] (defScope s_is_name) := ⟨rfl, rfl, rfl, by decide +kernel, rfl, by decide +kernel, by decide +kernel⟩
theorem ok_is_name (T : Tx P K mg) : FnOk P w K mg base (L2.CX P w) 1 T.a_is_name T.d_is_name [("value" : Str)] (spM T.S 1 m_is_name) :=
  def_ok2 (k := 0) rfl false (fb := mb_is_name) T.F_is_name sc_is_name rfl rfl rfl (fun cdv A outer s H E hr tk hp =>
    (ss_cons (s_if (PW.pt (w_or (t_not (t_val (e_isi (e_var 0) T.n_isinstance T.n_str))) (w_or1 (t_not (t_chain or_le or_le e_int (e_callB1 cr_len T.n_len (e_var 0)) (e_gint T.g_MOST_LETTERS))))))
    (ss_one (s_ret e_bl))
    ss_nil)
    (ss_one (s_ret (e_callB1 cr_allD T.n_all (e_comp (own := [(("sign" : Str), 1)]) false (.nm 1) sc_is_name.nd (i_seq (e_var 0)) (blkOk_by (N := [("value" : Str), ("sign" : Str)]) (sc := defScope s_is_name) (by decide +kernel)) (fun _ _ _ _ _ => tg_nm 1 sc_is_name.nd) (fun _ _ _ _ _ => ts_nil) (fun _ _ _ _ _ => (e_cmp (or_in (hu65 hr)) (e_var 1) (e_gstr T.g_LETTERS)))))))))
theorem sc_is_process : FnScope [("value" : Str), ("elder" : Str), ("one" : Str)] [("value" : Str), ("elder" : Str)] (defScope s_is_process) := ⟨rfl, rfl, rfl, by decide +kernel, rfl, by decide +kernel, by decide +kernel⟩
theorem ok_is_process (T : Tx P K mg) : FnOk P w K mg base (L2.CX P w) 2 T.a_is_process T.d_is_process [("value" : Str), ("elder" : Str)] (spM T.S 2 m_is_process) :=
  def_ok2 (k := 1) rfl false (fb := mb_is_process) T.F_is_process sc_is_process rfl rfl rfl (fun cdv A outer s H E hr tk hp =>
    (ss_cons (s_if (PW.pt (w_or (t_cmp (or_ne (hu64 hr)) (e_callB1 cr_len T.n_len (e_var 0)) e_int) (w_or (t_not (t_val (e_call (ok_is_name T) (hr.mono (by first | decide | omega)) T.g_is_name T.k_is_name T.b_is_name tk (a_cons (e_ix (e_var 0) e_int) a_nil)))) (w_or1 (t_not (t_val (e_call (ok_is_whole T) (hr.mono (by first | decide | omega)) T.g_is_whole T.k_is_whole T.b_is_whole tk (a_cons (e_ix (e_var 0) e_int) a_nil))))))))
    (ss_one (s_ret e_bl))
    ss_nil)
    (ss_one (s_ret (e_and (e_chain or_le or_le e_int (e_ix (e_var 0) e_int) (e_gint T.g_MOST_STATES)) (e_one (e_cmp (or_notin (hu65 hr)) (e_slice false (e_var 0) o_none (o_some e_int)) (e_comp (own := [(("one" : Str), 2)]) false (.nm 2) sc_is_process.nd (i_seq (e_var 1)) (blkOk_by (N := [("value" : Str), ("elder" : Str), ("one" : Str)]) (sc := defScope s_is_process) (by decide +kernel)) (fun _ _ _ _ _ => tg_nm 2 sc_is_process.nd) (fun _ _ _ _ _ => ts_nil) (fun _ _ _ _ _ => (e_slice false (e_var 2) o_none (o_some e_int)))))))))))
theorem sc_is_channel : FnScope [("value" : Str), ("processes" : Str), ("elder" : Str), ("one" : Str)] [("value" : Str), ("processes" : Str), ("elder" : Str)] (defScope s_is_channel) := ⟨rfl, rfl, rfl, by decide +kernel, rfl, by decide +kernel, by decide +kernel⟩
theorem ok_is_channel (T : Tx P K mg) : FnOk P w K mg base (L2.CX P w) 3 T.a_is_channel T.d_is_channel [("value" : Str), ("processes" : Str), ("elder" : Str)] (spM T.S 3 m_is_channel) :=
  def_ok2 (k := 2) rfl false (fb := mb_is_channel) T.F_is_channel sc_is_channel rfl rfl rfl (fun cdv A outer s H E hr tk hp =>
    (ss_cons (s_if (PW.pt (w_or (t_cmp (or_ne (hu64 hr)) (e_callB1 cr_len T.n_len (e_var 0)) e_int) (w_or (t_not (t_val (e_call (ok_is_name T) (hr.mono (by first | decide | omega)) T.g_is_name T.k_is_name T.b_is_name tk (a_cons (e_ix (e_var 0) e_int) a_nil)))) (w_or1 (t_cmp (or_in (hu65 hr)) (e_slice false (e_var 0) o_none (o_some e_int)) (e_comp (own := [(("one" : Str), 3)]) false (.nm 3) sc_is_channel.nd (i_seq (e_var 2)) (blkOk_by (N := [("value" : Str), ("processes" : Str), ("elder" : Str), ("one" : Str)]) (sc := defScope s_is_channel) (by decide +kernel)) (fun _ _ _ _ _ => tg_nm 3 sc_is_channel.nd) (fun _ _ _ _ _ => ts_nil) (fun _ _ _ _ _ => (e_slice false (e_var 3) o_none (o_some e_int)))))))))
    (ss_one (s_ret e_bl))
    ss_nil)
    (ss_cons (s_if (PW.pt (w_or (t_not (t_val (e_call (ok_is_below T) (hr.mono (by first | decide | omega)) T.g_is_below T.k_is_below T.b_is_below tk (a_cons (e_ix (e_var 0) e_int) (a_cons (e_callB1 cr_len T.n_len (e_var 1)) a_nil))))) (w_or (t_not (t_val (e_call (ok_is_below T) (hr.mono (by first | decide | omega)) T.g_is_below T.k_is_below T.b_is_below tk (a_cons (e_ix (e_var 0) e_int) (a_cons (e_callB1 cr_len T.n_len (e_var 1)) a_nil))))) (w_or1 (t_cmp (or_eq (hu64 hr)) (e_ix (e_var 0) e_int) (e_ix (e_var 0) e_int))))))
    (ss_one (s_ret e_bl))
    ss_nil)
    (ss_one (s_ret (e_and (e_isi (e_ix (e_var 0) e_int) T.n_isinstance T.n_str) (e_one (e_inG T.g_KINDS (hu65 hr) (e_ix (e_var 0) e_int)))))))))
theorem sc_is_act : FnScope [("act" : Str), ("process" : Str), ("channels" : Str)] [("act" : Str), ("process" : Str), ("channels" : Str)] (defScope s_is_act) := ⟨rfl, rfl, rfl, by decide +kernel, rfl, by decide +kernel, by decide +kernel⟩
theorem ok_is_act (T : Tx P K mg) : FnOk P w K mg base (L2.CX P w) 3 T.a_is_act T.d_is_act [("act" : Str), ("process" : Str), ("channels" : Str)] (spM T.S 3 m_is_act) :=
  def_ok2 (k := 2) rfl false (fb := mb_is_act) T.F_is_act sc_is_act rfl rfl rfl (fun cdv A outer s H E hr tk hp =>
    (ss_cons (s_if (PW.pt (w_or (t_not (t_val (e_isi (e_var 0) T.n_isinstance T.n_tuple))) (w_or (t_cmp (or_eq (hu64 hr)) (e_callB1 cr_len T.n_len (e_var 0)) e_int) (w_or1 (t_not (t_val (e_isi (e_ix (e_var 0) e_int) T.n_isinstance T.n_str)))))))
    (ss_one (s_ret e_bl))
    ss_nil)
    (ss_cons (s_if (t_cmp (or_eq (hu64 hr)) (e_ix (e_var 0) e_int) e_str)
    (ss_one (s_ret (e_cmp (or_eq (hu64 hr)) (e_callB1 cr_len T.n_len (e_var 0)) e_int)))
    ss_nil)
    (ss_cons (s_if (PW.pt (w_or (t_cmp (or_notin (hu65 hr)) (e_ix (e_var 0) e_int) (e_tup (a_cons e_str (a_cons e_str a_nil)))) (w_or1 (t_cmp (or_ne (hu64 hr)) (e_callB1 cr_len T.n_len (e_var 0)) e_int))))
    (ss_one (s_ret e_bl))
    ss_nil)
    (ss_cons (s_if (PW.pt (w_or (t_not (t_val (e_call (ok_is_below T) (hr.mono (by first | decide | omega)) T.g_is_below T.k_is_below T.b_is_below tk (a_cons (e_ix (e_var 0) e_int) (a_cons (e_callB1 cr_len T.n_len (e_var 2)) a_nil))))) (w_or1 (t_not (t_val (e_call (ok_is_below T) (hr.mono (by first | decide | omega)) T.g_is_below T.k_is_below T.b_is_below tk (a_cons (e_ix (e_var 0) e_int) (a_cons (e_gint T.g_TOKENS) a_nil))))))))
    (ss_one (s_ret e_bl))
    ss_nil)
    (ss_one (s_ret (e_cmp (or_eq (hu64 hr)) (e_ix (e_ix (e_var 2) (e_ix (e_var 0) e_int)) (e_if (t_cmp (or_eq (hu64 hr)) (e_ix (e_var 0) e_int) e_str) e_int e_int)) (e_var 1)))))))))
theorem sc_is_rule : FnScope [("value" : Str), ("processes" : Str), ("channels" : Str), ("states" : Str)] [("value" : Str), ("processes" : Str), ("channels" : Str)] (defScope s_is_rule) := ⟨rfl, rfl, rfl, by decide +kernel, rfl, by decide +kernel, by decide +kernel⟩
theorem ok_is_rule (T : Tx P K mg) : FnOk P w K mg base (L2.CX P w) 4 T.a_is_rule T.d_is_rule [("value" : Str), ("processes" : Str), ("channels" : Str)] (spM T.S 3 m_is_rule) :=
  def_ok2 (k := 3) rfl false (fb := mb_is_rule) T.F_is_rule sc_is_rule rfl rfl rfl (fun cdv A outer s H E hr tk hp =>
    (ss_cons (s_if (PW.pt (w_or (t_cmp (or_ne (hu64 hr)) (e_callB1 cr_len T.n_len (e_var 0)) e_int) (w_or1 (t_not (t_val (e_call (ok_is_below T) (hr.mono (by first | decide | omega)) T.g_is_below T.k_is_below T.b_is_below tk (a_cons (e_ix (e_var 0) e_int) (a_cons (e_callB1 cr_len T.n_len (e_var 1)) a_nil))))))))
    (ss_one (s_ret e_bl))
    ss_nil)
    (ss_cons (s_set 3 (e_ix (e_ix (e_var 1) (e_ix (e_var 0) e_int)) e_int) sc_is_rule.nd)
    (ss_one (s_ret (e_and (e_call (ok_is_below T) (hr.mono (by first | decide | omega)) T.g_is_below T.k_is_below T.b_is_below tk (a_cons (e_ix (e_var 0) e_int) (a_cons (e_var 3) a_nil))) (e_and (e_call (ok_is_below T) (hr.mono (by first | decide | omega)) T.g_is_below T.k_is_below T.b_is_below tk (a_cons (e_ix (e_var 0) e_int) (a_cons (e_var 3) a_nil))) (e_one (e_call (ok_is_act T) (hr.mono (by first | decide | omega)) T.g_is_act T.k_is_act T.b_is_act tk (a_cons (e_ix (e_var 0) e_int) (a_cons (e_ix (e_var 0) e_int) (a_cons (e_var 2) a_nil))))))))))))
theorem sc__frozen : FnScope [("value" : Str), ("depth" : Str), ("part" : Str)] [("value" : Str), ("depth" : Str)] (defScope s__frozen) := ⟨rfl, rfl, rfl, by decide +kernel, rfl, by decide +kernel, by decide +kernel⟩
theorem ok__frozen (T : Tx P K mg) : ∀ n, FnOk P w K mg base (L2.CX P w) (1 + n) T.a__frozen T.d__frozen [("value" : Str), ("depth" : Str)] (spM T.S 2 (m__frozen n))
  | 0 => bad_ok2 rfl rfl
  | n + 1 => by
    have IH : FnOk P w K mg base (L2.CX P w) (1 + n) T.a__frozen T.d__frozen [("value" : Str), ("depth" : Str)] (spM T.S 2 (m__frozen n)) := ok__frozen T n
    exact def_ok2 (k := 1 + n) rfl false (fb := mb__frozen (m__frozen n)) T.F__frozen sc__frozen rfl rfl rfl (fun cdv A outer s H E hr tk hp =>
    (ss_cons (s_if (PW.pt (w_and (t_cmp or_gt (e_var 1) e_int) (w_and1 (t_val (e_isi2 (e_var 0) T.n_isinstance T.n_list T.n_tuple)))))
    (ss_one (s_ret (e_callT1 cr_tuple T.n_tuple (e_comp (own := [(("part" : Str), 2)]) false (.nm 2) sc__frozen.nd (i_seq (e_var 0)) (blkOk_by (N := [("value" : Str), ("depth" : Str), ("part" : Str)]) (sc := defScope s__frozen) (by decide +kernel)) (fun _ _ _ _ _ => tg_nm 2 sc__frozen.nd) (fun _ _ _ _ _ => ts_nil) (fun _ _ _ _ _ => (e_call IH (hr.mono (by first | decide | omega)) T.g__frozen T.k__frozen T.b__frozen takes0 (a_cons (e_var 2) (a_cons (e_bin or_sub (e_var 1) e_int) a_nil))))))))
    ss_nil)
    (ss_one (s_ret (e_var 0)))))
theorem sc__rows : FnScope [("value" : Str), ("least" : Str), ("most" : Str), ("rows" : Str), ("row" : Str)] [("value" : Str), ("least" : Str), ("most" : Str)] (defScope s__rows) := ⟨rfl, rfl, rfl, by decide +kernel, rfl, by decide +kernel, by decide +kernel⟩
theorem ok__rows (T : Tx P K mg) : FnOk P w K mg base (L2.CX P w) 10 T.a__rows T.d__rows [("value" : Str), ("least" : Str), ("most" : Str)] (spM T.S 3 m__rows) :=
  def_ok2 (k := 9) rfl false (fb := mb__rows) T.F__rows sc__rows rfl rfl rfl (fun cdv A outer s H E hr tk hp =>
    (ss_cons (s_set 3 (e_call (ok__frozen T 8) (hr.mono (by first | decide | omega)) T.g__frozen T.k__frozen T.b__frozen tk (a_cons (e_var 0) (a_cons e_int a_nil))) sc__rows.nd)
    (ss_cons (s_if (PW.pt (w_or (t_not (t_val (e_isi (e_var 3) T.n_isinstance T.n_tuple))) (w_or1 (t_not (t_chain or_le or_le (e_var 1) (e_callB1 cr_len T.n_len (e_var 3)) (e_var 2))))))
    (ss_one (s_ret e_non))
    ss_nil)
    (ss_one (s_ret (e_if (t_val (e_callB1 cr_allD T.n_all (e_comp (own := [(("row" : Str), 4)]) false (.nm 4) sc__rows.nd (i_seq (e_var 3)) (blkOk_by (N := [("value" : Str), ("least" : Str), ("most" : Str), ("rows" : Str), ("row" : Str)]) (sc := defScope s__rows) (by decide +kernel)) (fun _ _ _ _ _ => tg_nm 4 sc__rows.nd) (fun _ _ _ _ _ => ts_nil) (fun _ _ _ _ _ => (e_isi (e_var 4) T.n_isinstance T.n_tuple))))) (e_var 3) e_non))))))
theorem sc_Net_init : FnScope [("self" : Str), ("processes" : Str), ("channels" : Str), ("rules" : Str), ("rows" : Str), ("ways" : Str), ("told" : Str), ("at" : Str), ("row" : Str), ("way" : Str), ("rule" : Str)] [("self" : Str), ("processes" : Str), ("channels" : Str), ("rules" : Str)] (defScope s_Net_init) := ⟨rfl, rfl, rfl, by decide +kernel, rfl, by decide +kernel, by decide +kernel⟩
theorem ok_Net_init (T : Tx P K mg) : FnOk P w K mg base (L2.CX P w) 11 T.a_Net_init T.d_Net_init [("self" : Str), ("processes" : Str), ("channels" : Str), ("rules" : Str)] (spM T.S 4 m_Net_init) :=
  def_ok2 (k := 10) rfl false (fb := mb_Net_init) T.F_Net_init sc_Net_init rfl rfl rfl (fun cdv A outer s H E hr tk hp =>
    (ss_cons (s_set 4 (e_call (ok__rows T) (hr.mono (by first | decide | omega)) T.g__rows T.k__rows T.b__rows tk (a_cons (e_var 1) (a_cons e_int (a_cons (e_gint T.g_MOST_PROCESSES) a_nil)))) sc_Net_init.nd)
    (ss_cons (s_if (PW.pt (w_or (t_isN (e_var 4)) (w_or1 (t_not (t_val (e_callB1 cr_allD T.n_all (e_comp (own := [(("at" : Str), 7), (("row" : Str), 8)]) false (.tp [7, 8]) sc_Net_init.nd (i_en (e_var 4) T.n_enumerate) (blkOk_by (N := [("self" : Str), ("processes" : Str), ("channels" : Str), ("rules" : Str), ("rows" : Str), ("ways" : Str), ("told" : Str), ("at" : Str), ("row" : Str), ("way" : Str), ("rule" : Str)]) (sc := defScope s_Net_init) (by decide +kernel)) (fun _ _ _ _ _ => tg_tp [7, 8] (gn_cons 7 sc_Net_init.nd (gn_cons 8 sc_Net_init.nd gn_nil))) (fun _ _ _ _ _ => ts_nil) (fun _ _ _ _ _ => (e_call (ok_is_process T) (hr.mono (by first | decide | omega)) T.g_is_process T.k_is_process T.b_is_process takes0 (a_cons (e_var 8) (a_cons (e_slice false (e_var 4) o_none (o_some (e_var 7))) a_nil)))))))))))
    (ss_one (s_raise 1 tk (E_at.pmk T.e_BadValue hr e_int)))
    ss_nil)
    (ss_cons (s_set 5 (e_call (ok__rows T) (hr.mono (by first | decide | omega)) T.g__rows T.k__rows T.b__rows tk (a_cons (e_var 2) (a_cons e_int (a_cons (e_gint T.g_MOST_CHANNELS) a_nil)))) sc_Net_init.nd)
    (ss_cons (s_if (PW.pt (w_or (t_isN (e_var 5)) (w_or1 (t_not (t_val (e_callB1 cr_allD T.n_all (e_comp (own := [(("at" : Str), 7), (("way" : Str), 9)]) false (.tp [7, 9]) sc_Net_init.nd (i_en (e_var 5) T.n_enumerate) (blkOk_by (N := [("self" : Str), ("processes" : Str), ("channels" : Str), ("rules" : Str), ("rows" : Str), ("ways" : Str), ("told" : Str), ("at" : Str), ("row" : Str), ("way" : Str), ("rule" : Str)]) (sc := defScope s_Net_init) (by decide +kernel)) (fun _ _ _ _ _ => tg_tp [7, 9] (gn_cons 7 sc_Net_init.nd (gn_cons 9 sc_Net_init.nd gn_nil))) (fun _ _ _ _ _ => ts_nil) (fun _ _ _ _ _ => (e_call (ok_is_channel T) (hr.mono (by first | decide | omega)) T.g_is_channel T.k_is_channel T.b_is_channel takes0 (a_cons (e_var 9) (a_cons (e_var 4) (a_cons (e_slice false (e_var 5) o_none (o_some (e_var 7))) a_nil))))))))))))
    (ss_one (s_raise 1 tk (E_at.pmk T.e_BadValue hr e_int)))
    ss_nil)
    (ss_cons (s_set 6 (e_call (ok__rows T) (hr.mono (by first | decide | omega)) T.g__rows T.k__rows T.b__rows tk (a_cons (e_var 3) (a_cons e_int (a_cons (e_gint T.g_MOST_RULES) a_nil)))) sc_Net_init.nd)
    (ss_cons (s_if (PW.pt (w_or (t_isN (e_var 6)) (w_or1 (t_not (t_val (e_callB1 cr_allD T.n_all (e_comp (own := [(("rule" : Str), 10)]) false (.nm 10) sc_Net_init.nd (i_seq (e_var 6)) (blkOk_by (N := [("self" : Str), ("processes" : Str), ("channels" : Str), ("rules" : Str), ("rows" : Str), ("ways" : Str), ("told" : Str), ("at" : Str), ("row" : Str), ("way" : Str), ("rule" : Str)]) (sc := defScope s_Net_init) (by decide +kernel)) (fun _ _ _ _ _ => tg_nm 10 sc_Net_init.nd) (fun _ _ _ _ _ => ts_nil) (fun _ _ _ _ _ => (e_call (ok_is_rule T) (hr.mono (by first | decide | omega)) T.g_is_rule T.k_is_rule T.b_is_rule takes0 (a_cons (e_var 10) (a_cons (e_var 4) (a_cons (e_var 5) a_nil))))))))))))
    (ss_one (s_raise 1 tk (E_at.pmk T.e_BadValue hr e_int)))
    ss_nil)
    (ss_cons (s_fld cls_all 3 (e_var 0) (e_var 4) T.fld3 T.an_inj)
    (ss_cons (s_fld cls_all 4 (e_var 0) (e_var 5) T.fld4 T.an_inj)
    (ss_one (s_fld cls_all 5 (e_var 0) (e_var 6) T.fld5 T.an_inj)))))))))))
theorem sc_start : FnScope [("net" : Str), ("channels" : Str)] [("net" : Str)] (defScope s_start) := ⟨rfl, rfl, rfl, by decide +kernel, rfl, by decide +kernel, by decide +kernel⟩
theorem ok_start (T : Tx P K mg) : FnOk P w K mg base (L2.CX P w) 1 T.a_start T.d_start [("net" : Str)] (spM T.S 1 m_start) :=
  def_ok2 (k := 0) rfl false (fb := mb_start) T.F_start sc_start rfl rfl rfl (fun cdv A outer s H E hr tk hp =>
    (ss_cons (s_set 1 (e_callB1 cr_len T.n_len (e_fld 4 (e_var 0) T.fld4 T.an_inj)) sc_start.nd)
    (ss_one (s_ret (e_tup (a_cons (e_bin (or_rep false) (e_tup (a_cons e_int a_nil)) (e_callB1 cr_len T.n_len (e_fld 3 (e_var 0) T.fld3 T.an_inj))) (a_cons (e_bin (or_rep false) (e_tup (a_cons e_int a_nil)) (e_var 1)) (a_cons (e_bin (or_rep false) (e_tup (a_cons (e_tup a_nil) a_nil)) (e_var 1)) a_nil))))))))
theorem sc_is_lossy : FnScope [("net" : Str), ("channel" : Str)] [("net" : Str), ("channel" : Str)] (defScope s_is_lossy) := ⟨rfl, rfl, rfl, by decide +kernel, rfl, by decide +kernel, by decide +kernel⟩
theorem ok_is_lossy (T : Tx P K mg) : FnOk P w K mg base (L2.CX P w) 1 T.a_is_lossy T.d_is_lossy [("net" : Str), ("channel" : Str)] (spM T.S 2 m_is_lossy) :=
  def_ok2 (k := 0) rfl false (fb := mb_is_lossy) T.F_is_lossy sc_is_lossy rfl rfl rfl (fun cdv A outer s H E hr tk hp =>
    (ss_one (s_ret (e_cmp (or_in (hu65 hr)) (e_ix (e_ix (e_fld 4 (e_var 0) T.fld4 T.an_inj) (e_var 1)) e_int) (e_tup (a_cons e_str (a_cons e_str a_nil)))))))
theorem sc_is_ordered : FnScope [("net" : Str), ("channel" : Str)] [("net" : Str), ("channel" : Str)] (defScope s_is_ordered) := ⟨rfl, rfl, rfl, by decide +kernel, rfl, by decide +kernel, by decide +kernel⟩
theorem ok_is_ordered (T : Tx P K mg) : FnOk P w K mg base (L2.CX P w) 1 T.a_is_ordered T.d_is_ordered [("net" : Str), ("channel" : Str)] (spM T.S 2 m_is_ordered) :=
  def_ok2 (k := 0) rfl false (fb := mb_is_ordered) T.F_is_ordered sc_is_ordered rfl rfl rfl (fun cdv A outer s H E hr tk hp =>
    (ss_one (s_ret (e_cmp (or_in (hu65 hr)) (e_ix (e_ix (e_fld 4 (e_var 0) T.fld4 T.an_inj) (e_var 1)) e_int) (e_tup (a_cons e_str (a_cons e_str a_nil)))))))
theorem sc_as_deed : FnScope [("net" : Str), ("deed" : Str), ("is_take" : Str), ("fits" : Str), ("part" : Str)] [("net" : Str), ("deed" : Str)] (defScope s_as_deed) := ⟨rfl, rfl, rfl, by decide +kernel, rfl, by decide +kernel, by decide +kernel⟩
theorem ok_as_deed (T : Tx P K mg) : FnOk P w K mg base (L2.CX P w) 3 T.a_as_deed T.d_as_deed [("net" : Str), ("deed" : Str)] (spM T.S 2 m_as_deed) :=
  def_ok2 (k := 2) rfl false (fb := mb_as_deed) T.F_as_deed sc_as_deed rfl rfl rfl (fun cdv A outer s H E hr tk hp =>
    (ss_cons (s_if (PW.pt (w_or (t_not (t_val (e_isi2 (e_var 1) T.n_isinstance T.n_list T.n_tuple))) (w_or (t_cmp or_lt (e_callB1 cr_len T.n_len (e_var 1)) e_int) (w_or1 (t_not (t_val (e_isi (e_ix (e_var 1) e_int) T.n_isinstance T.n_str)))))))
    (ss_one (s_ret e_non))
    ss_nil)
    (ss_cons (s_if (t_not (t_val (e_callB1 cr_allD T.n_all (e_comp (own := [(("part" : Str), 4)]) false (.nm 4) sc_as_deed.nd (i_seq (e_slice false (e_var 1) (o_some e_int) o_none)) (blkOk_by (N := [("net" : Str), ("deed" : Str), ("is_take" : Str), ("fits" : Str), ("part" : Str)]) (sc := defScope s_as_deed) (by decide +kernel)) (fun _ _ _ _ _ => tg_nm 4 sc_as_deed.nd) (fun _ _ _ _ _ => ts_nil) (fun _ _ _ _ _ => (e_and (e_call (ok_is_whole T) (hr.mono (by first | decide | omega)) T.g_is_whole T.k_is_whole T.b_is_whole takes0 (a_cons (e_var 4) a_nil)) (e_one (e_cmp or_ge (e_var 4) e_int))))))))
    (ss_one (s_ret e_non))
    ss_nil)
    (ss_cons (s_if (t_cmp (or_eq (hu64 hr)) (e_ix (e_var 1) e_int) e_str)
    (ss_cons (s_set 3 (e_and (e_cmp (or_eq (hu64 hr)) (e_callB1 cr_len T.n_len (e_var 1)) e_int) (e_and (e_call (ok_is_below T) (hr.mono (by first | decide | omega)) T.g_is_below T.k_is_below T.b_is_below tk (a_cons (e_ix (e_var 1) e_int) (a_cons (e_callB1 cr_len T.n_len (e_fld 4 (e_var 0) T.fld4 T.an_inj)) a_nil))) (e_one (e_call (ok_is_lossy T) (hr.mono (by first | decide | omega)) T.g_is_lossy T.k_is_lossy T.b_is_lossy tk (a_cons (e_var 0) (a_cons (e_ix (e_var 1) e_int) a_nil)))))) sc_as_deed.nd)
    (ss_one (s_ret (e_if (t_val (e_var 3)) (e_callT1 cr_tuple T.n_tuple (e_var 1)) e_non))))
    ss_nil)
    (ss_cons (s_if (PW.pt (w_or (t_cmp (or_notin (hu65 hr)) (e_ix (e_var 1) e_int) (e_tup (a_cons e_str (a_cons e_str a_nil)))) (w_or1 (t_not (t_val (e_call (ok_is_below T) (hr.mono (by first | decide | omega)) T.g_is_below T.k_is_below T.b_is_below tk (a_cons (e_ix (e_var 1) e_int) (a_cons (e_callB1 cr_len T.n_len (e_fld 5 (e_var 0) T.fld5 T.an_inj)) a_nil))))))))
    (ss_one (s_ret e_non))
    ss_nil)
    (ss_cons (s_set 2 (e_cmp (or_eq (hu64 hr)) (e_ix (e_ix (e_ix (e_fld 5 (e_var 0) T.fld5 T.an_inj) (e_ix (e_var 1) e_int)) e_int) e_int) e_str) sc_as_deed.nd)
    (ss_cons (s_set 3 (e_and (e_cmp (or_eq (hu64 hr)) (e_var 2) (e_cmp (or_eq (hu64 hr)) (e_ix (e_var 1) e_int) e_str)) (e_one (e_cmp (or_eq (hu64 hr)) (e_callB1 cr_len T.n_len (e_var 1)) (e_if (t_val (e_var 2)) e_int e_int)))) sc_as_deed.nd)
    (ss_one (s_ret (e_if (t_val (e_var 3)) (e_callT1 cr_tuple T.n_tuple (e_var 1)) e_non))))))))))
theorem sc_open_messages_of : FnScope [("net" : Str), ("world" : Str), ("channel" : Str), ("present" : Str), ("pair" : Str)] [("net" : Str), ("world" : Str), ("channel" : Str)] (defScope s_open_messages_of) := ⟨rfl, rfl, rfl, by decide +kernel, rfl, by decide +kernel, by decide +kernel⟩
theorem ok_open_messages_of (T : Tx P K mg) : FnOk P w K mg base (L2.CX P w) 2 T.a_open_messages_of T.d_open_messages_of [("net" : Str), ("world" : Str), ("channel" : Str)] (spM T.S 3 m_open_messages_of) :=
  def_ok2 (k := 1) rfl false (fb := mb_open_messages_of) T.F_open_messages_of sc_open_messages_of rfl rfl rfl (fun cdv A outer s H E hr tk hp =>
    (ss_cons (s_set 3 (e_callT1 cr_tuple T.n_tuple (e_comp (own := [(("pair" : Str), 4)]) false (.nm 4) sc_open_messages_of.nd (i_seq (e_ix (e_ix (e_var 1) e_int) (e_var 2))) (blkOk_by (N := [("net" : Str), ("world" : Str), ("channel" : Str), ("present" : Str), ("pair" : Str)]) (sc := defScope s_open_messages_of) (by decide +kernel)) (fun _ _ _ _ _ => tg_nm 4 sc_open_messages_of.nd) (fun _ _ _ _ _ => ts_nil) (fun _ _ _ _ _ => (e_callT1 cr_tuple T.n_tuple (e_var 4))))) sc_open_messages_of.nd)
    (ss_one (s_ret (e_if (t_val (e_call (ok_is_ordered T) (hr.mono (by first | decide | omega)) T.g_is_ordered T.k_is_ordered T.b_is_ordered tk (a_cons (e_var 0) (a_cons (e_var 2) a_nil)))) (e_slice false (e_var 3) o_none (o_some e_int)) (e_var 3))))))
theorem sc_can_do : FnScope [("net" : Str), ("world" : Str), ("deed" : Str), ("process" : Str), ("state" : Str), ("act" : Str), ("_" : Str), ("k" : Str)] [("net" : Str), ("world" : Str), ("deed" : Str)] (defScope s_can_do) := ⟨rfl, rfl, rfl, by decide +kernel, rfl, by decide +kernel, by decide +kernel⟩
theorem ok_can_do (T : Tx P K mg) : FnOk P w K mg base (L2.CX P w) 3 T.a_can_do T.d_can_do [("net" : Str), ("world" : Str), ("deed" : Str)] (spM T.S 3 m_can_do) :=
  def_ok2 (k := 2) rfl false (fb := mb_can_do) T.F_can_do sc_can_do rfl rfl rfl (fun cdv A outer s H E hr tk hp =>
    (ss_cons (s_if (t_cmp (or_eq (hu64 hr)) (e_ix (e_var 2) e_int) e_str)
    (ss_one (s_ret (e_cmp (or_in (hu65 hr)) (e_ix (e_var 2) e_int) (e_comp (own := [(("k" : Str), 7), (("_" : Str), 6)]) false (.tp [7, 6]) sc_can_do.nd (i_seq (e_call (ok_open_messages_of T) (hr.mono (by first | decide | omega)) T.g_open_messages_of T.k_open_messages_of T.b_open_messages_of tk (a_cons (e_var 0) (a_cons (e_var 1) (a_cons (e_ix (e_var 2) e_int) a_nil))))) (blkOk_by (N := [("net" : Str), ("world" : Str), ("deed" : Str), ("process" : Str), ("state" : Str), ("act" : Str), ("_" : Str), ("k" : Str)]) (sc := defScope s_can_do) (by decide +kernel)) (fun _ _ _ _ _ => tg_tp [7, 6] (gn_cons 7 sc_can_do.nd (gn_cons 6 sc_can_do.nd gn_nil))) (fun _ _ _ _ _ => ts_nil) (fun _ _ _ _ _ => (e_var 7))))))
    ss_nil)
    (ss_cons (s_asg (e_ix (e_fld 5 (e_var 0) T.fld5 T.an_inj) (e_ix (e_var 2) e_int)) (g_tup (n := 4) (gs_cons (g_name 3 sc_can_do.nd) (gs_cons (g_name 4 sc_can_do.nd) (gs_cons (g_name 5 sc_can_do.nd) (gs_cons (g_name 6 sc_can_do.nd) gs_nil))))))
    (ss_cons (s_if (t_cmp (or_ne (hu64 hr)) (e_ix (e_ix (e_var 1) e_int) (e_var 3)) (e_var 4))
    (ss_one (s_ret e_bl))
    ss_nil)
    (ss_one (s_ret (e_or (e_cmp (or_eq (hu64 hr)) (e_ix (e_var 2) e_int) e_str) (e_one (e_cmp (or_in (hu65 hr)) (e_tup (a_cons (e_ix (e_var 2) e_int) (a_cons (e_ix (e_var 5) e_int) a_nil))) (e_call (ok_open_messages_of T) (hr.mono (by first | decide | omega)) T.g_open_messages_of T.k_open_messages_of T.b_open_messages_of tk (a_cons (e_var 0) (a_cons (e_var 1) (a_cons (e_ix (e_var 5) e_int) a_nil)))))))))))))
theorem sc_possible : FnScope [("net" : Str), ("world" : Str), ("found" : Str), ("at" : Str), ("rule" : Str), ("channel" : Str), ("row" : Str), ("k" : Str), ("_" : Str), ("token" : Str)] [("net" : Str), ("world" : Str)] (defScope s_possible) := ⟨rfl, rfl, rfl, by decide +kernel, rfl, by decide +kernel, by decide +kernel⟩
theorem ok_possible (T : Tx P K mg) : FnOk P w K mg base (L2.CX P w) 3 T.a_possible T.d_possible [("net" : Str), ("world" : Str)] (spM T.S 2 m_possible) :=
  def_ok2 (k := 2) rfl false (fb := mb_possible) T.F_possible sc_possible rfl rfl rfl (fun cdv A outer s H E hr tk hp =>
    (ss_cons (s_set 2 (e_lst true a_nil) sc_possible.nd)
    (ss_cons (s_for hp (i_en (e_fld 5 (e_var 0) T.fld5 T.an_inj) T.n_enumerate) (g_tup (n := 2) (gs_cons (g_name 3 sc_possible.nd) (gs_cons (g_name 4 sc_possible.nd) gs_nil)))
    (ss_one (s_if (PW.pt (w_and (t_cmp (or_eq (hu64 hr)) (e_ix (e_ix (e_var 1) e_int) (e_ix (e_var 4) e_int)) (e_ix (e_var 4) e_int)) (w_and1 (t_cmp (or_ne (hu64 hr)) (e_ix (e_ix (e_var 4) e_int) e_int) e_str))))
    (ss_one (s_expr (e_append (e_var 2) (e_tup (a_cons e_str (a_cons (e_var 3) a_nil))))))
    (ss_one (s_if (t_cmp (or_eq (hu64 hr)) (e_ix (e_ix (e_var 1) e_int) (e_ix (e_var 4) e_int)) (e_ix (e_var 4) e_int))
    (ss_cons (s_set 6 (e_call (ok_open_messages_of T) (hr.mono (by first | decide | omega)) T.g_open_messages_of T.k_open_messages_of T.b_open_messages_of tk (a_cons (e_var 0) (a_cons (e_var 1) (a_cons (e_ix (e_ix (e_var 4) e_int) e_int) a_nil)))) sc_possible.nd)
    (ss_one (s_expr (e_meth PySem.F.plainAttrs_list PySem.F.slot_list_extend PySem.F.type_list_extend m_extend (e_var 2) (a_cons (e_comp (own := [(("k" : Str), 7), (("token" : Str), 9)]) false (.tp [7, 9]) sc_possible.nd (i_seq (e_var 6)) (blkOk_by (N := [("net" : Str), ("world" : Str), ("found" : Str), ("at" : Str), ("rule" : Str), ("channel" : Str), ("row" : Str), ("k" : Str), ("_" : Str), ("token" : Str)]) (sc := defScope s_possible) (by decide +kernel)) (fun _ _ _ _ _ => tg_tp [7, 9] (gn_cons 7 sc_possible.nd (gn_cons 9 sc_possible.nd gn_nil))) (fun _ _ _ _ _ => (ts_one (t_cmp (or_eq (hu64 hr)) (e_var 9) (e_ix (e_ix (e_var 4) e_int) e_int)))) (fun _ _ _ _ _ => (e_tup (a_cons e_str (a_cons (e_var 3) (a_cons (e_var 7) a_nil)))))) a_nil)))))
    ss_nil)))))
    (ss_cons (s_for hp (i_rg1 (e_callB1 cr_len T.n_len (e_fld 4 (e_var 0) T.fld4 T.an_inj)) T.n_range) (g_name 5 sc_possible.nd)
    (ss_one (s_if (t_val (e_call (ok_is_lossy T) (hr.mono (by first | decide | omega)) T.g_is_lossy T.k_is_lossy T.b_is_lossy tk (a_cons (e_var 0) (a_cons (e_var 5) a_nil))))
    (ss_one (s_expr (e_meth PySem.F.plainAttrs_list PySem.F.slot_list_extend PySem.F.type_list_extend m_extend (e_var 2) (a_cons (e_comp (own := [(("k" : Str), 7), (("_" : Str), 8)]) false (.tp [7, 8]) sc_possible.nd (i_seq (e_call (ok_open_messages_of T) (hr.mono (by first | decide | omega)) T.g_open_messages_of T.k_open_messages_of T.b_open_messages_of tk (a_cons (e_var 0) (a_cons (e_var 1) (a_cons (e_var 5) a_nil))))) (blkOk_by (N := [("net" : Str), ("world" : Str), ("found" : Str), ("at" : Str), ("rule" : Str), ("channel" : Str), ("row" : Str), ("k" : Str), ("_" : Str), ("token" : Str)]) (sc := defScope s_possible) (by decide +kernel)) (fun _ _ _ _ _ => tg_tp [7, 8] (gn_cons 7 sc_possible.nd (gn_cons 8 sc_possible.nd gn_nil))) (fun _ _ _ _ _ => ts_nil) (fun _ _ _ _ _ => (e_tup (a_cons e_str (a_cons (e_var 5) (a_cons (e_var 7) a_nil)))))) a_nil))))
    ss_nil)))
    (ss_one (s_ret (e_callT1 cr_tuple T.n_tuple (e_var 2))))))))
theorem sc__with_part : FnScope [("row" : Str), ("at" : Str), ("part" : Str)] [("row" : Str), ("at" : Str), ("part" : Str)] (defScope s__with_part) := ⟨rfl, rfl, rfl, by decide +kernel, rfl, by decide +kernel, by decide +kernel⟩
theorem ok__with_part (T : Tx P K mg) : FnOk P w K mg base (L2.CX P w) 1 T.a__with_part T.d__with_part [("row" : Str), ("at" : Str), ("part" : Str)] (spM T.S 3 m__with_part) :=
  def_ok2 (k := 0) rfl false (fb := mb__with_part) T.F__with_part sc__with_part rfl rfl rfl (fun cdv A outer s H E hr tk hp =>
    (ss_one (s_ret (e_bin (or_add false) (e_bin (or_add false) (e_callT1 cr_tuple T.n_tuple (e_slice false (e_var 0) o_none (o_some (e_var 1)))) (e_tup (a_cons (e_var 2) a_nil))) (e_callT1 cr_tuple T.n_tuple (e_slice false (e_var 0) (o_some (e_bin (or_add false) (e_var 1) e_int)) o_none))))))
theorem sc__without_message : FnScope [("present" : Str), ("channel" : Str), ("k" : Str), ("left" : Str), ("pair" : Str)] [("present" : Str), ("channel" : Str), ("k" : Str)] (defScope s__without_message) := ⟨rfl, rfl, rfl, by decide +kernel, rfl, by decide +kernel, by decide +kernel⟩
theorem ok__without_message (T : Tx P K mg) : FnOk P w K mg base (L2.CX P w) 2 T.a__without_message T.d__without_message [("present" : Str), ("channel" : Str), ("k" : Str)] (spM T.S 3 m__without_message) :=
  def_ok2 (k := 1) rfl false (fb := mb__without_message) T.F__without_message sc__without_message rfl rfl rfl (fun cdv A outer s H E hr tk hp =>
    (ss_cons (s_set 3 (e_callT1 cr_tuple T.n_tuple (e_comp (own := [(("pair" : Str), 4)]) false (.nm 4) sc__without_message.nd (i_seq (e_ix (e_var 0) (e_var 1))) (blkOk_by (N := [("present" : Str), ("channel" : Str), ("k" : Str), ("left" : Str), ("pair" : Str)]) (sc := defScope s__without_message) (by decide +kernel)) (fun _ _ _ _ _ => tg_nm 4 sc__without_message.nd) (fun _ _ _ _ _ => (ts_one (t_cmp (or_ne (hu64 hr)) (e_ix (e_var 4) e_int) (e_var 2)))) (fun _ _ _ _ _ => (e_callT1 cr_tuple T.n_tuple (e_var 4))))) sc__without_message.nd)
    (ss_one (s_ret (e_call (ok__with_part T) (hr.mono (by first | decide | omega)) T.g__with_part T.k__with_part T.b__with_part tk (a_cons (e_var 0) (a_cons (e_var 1) (a_cons (e_var 3) a_nil))))))))
theorem sc_behind : FnScope [("net" : Str), ("world" : Str), ("deed" : Str), ("states" : Str), ("sent" : Str), ("present" : Str), ("process" : Str), ("_" : Str), ("act" : Str), ("then" : Str), ("k" : Str), ("row" : Str), ("pair" : Str)] [("net" : Str), ("world" : Str), ("deed" : Str)] (defScope s_behind) := ⟨rfl, rfl, rfl, by decide +kernel, rfl, by decide +kernel, by decide +kernel⟩
theorem ok_behind (T : Tx P K mg) : FnOk P w K mg base (L2.CX P w) 3 T.a_behind T.d_behind [("net" : Str), ("world" : Str), ("deed" : Str)] (spM T.S 3 m_behind) :=
  def_ok2 (k := 2) rfl false (fb := mb_behind) T.F_behind sc_behind rfl rfl rfl (fun cdv A outer s H E hr tk hp =>
    (ss_cons (s_set 3 (e_callT1 cr_tuple T.n_tuple (e_ix (e_var 1) e_int)) sc_behind.nd)
    (ss_cons (s_set 4 (e_callT1 cr_tuple T.n_tuple (e_ix (e_var 1) e_int)) sc_behind.nd)
    (ss_cons (s_set 5 (e_callT1 cr_tuple T.n_tuple (e_comp (own := [(("row" : Str), 11)]) false (.nm 11) sc_behind.nd (i_seq (e_ix (e_var 1) e_int)) (blkOk_by (N := [("net" : Str), ("world" : Str), ("deed" : Str), ("states" : Str), ("sent" : Str), ("present" : Str), ("process" : Str), ("_" : Str), ("act" : Str), ("then" : Str), ("k" : Str), ("row" : Str), ("pair" : Str)]) (sc := defScope s_behind) (by decide +kernel)) (fun _ _ _ _ _ => tg_nm 11 sc_behind.nd) (fun _ _ _ _ _ => ts_nil) (fun _ _ _ _ _ => (e_callT1 cr_tuple T.n_tuple (e_comp (own := [(("pair" : Str), 12)]) false (.nm 12) sc_behind.nd (i_seq (e_var 11)) (blk_relabel (blkOk_by (N := [("net" : Str), ("world" : Str), ("deed" : Str), ("states" : Str), ("sent" : Str), ("present" : Str), ("process" : Str), ("_" : Str), ("act" : Str), ("then" : Str), ("k" : Str), ("row" : Str), ("pair" : Str)]) (by decide +kernel))) (fun _ _ _ _ _ => tg_nm 12 sc_behind.nd) (fun _ _ _ _ _ => ts_nil) (fun _ _ _ _ _ => (e_callT1 cr_tuple T.n_tuple (e_var 12)))))))) sc_behind.nd)
    (ss_cons (s_if (t_cmp (or_eq (hu64 hr)) (e_ix (e_var 2) e_int) e_str)
    (ss_one (s_ret (e_tup (a_cons (e_var 3) (a_cons (e_var 4) (a_cons (e_call (ok__without_message T) (hr.mono (by first | decide | omega)) T.g__without_message T.k__without_message T.b__without_message tk (a_cons (e_var 5) (a_cons (e_ix (e_var 2) e_int) (a_cons (e_ix (e_var 2) e_int) a_nil)))) a_nil))))))
    ss_nil)
    (ss_cons (s_asg (e_ix (e_fld 5 (e_var 0) T.fld5 T.an_inj) (e_ix (e_var 2) e_int)) (g_tup (n := 4) (gs_cons (g_name 6 sc_behind.nd) (gs_cons (g_name 7 sc_behind.nd) (gs_cons (g_name 8 sc_behind.nd) (gs_cons (g_name 9 sc_behind.nd) gs_nil))))))
    (ss_cons (s_set 3 (e_call (ok__with_part T) (hr.mono (by first | decide | omega)) T.g__with_part T.k__with_part T.b__with_part tk (a_cons (e_var 3) (a_cons (e_var 6) (a_cons (e_var 9) a_nil)))) sc_behind.nd)
    (ss_cons (s_if (t_cmp (or_eq (hu64 hr)) (e_ix (e_var 8) e_int) e_str)
    (ss_one (s_ret (e_tup (a_cons (e_var 3) (a_cons (e_var 4) (a_cons (e_call (ok__without_message T) (hr.mono (by first | decide | omega)) T.g__without_message T.k__without_message T.b__without_message tk (a_cons (e_var 5) (a_cons (e_ix (e_var 8) e_int) (a_cons (e_ix (e_var 2) e_int) a_nil)))) a_nil))))))
    ss_nil)
    (ss_cons (s_if (t_cmp (or_eq (hu64 hr)) (e_ix (e_var 8) e_int) e_str)
    (ss_cons (s_set 10 (e_ix (e_var 4) (e_ix (e_var 8) e_int)) sc_behind.nd)
    (ss_cons (s_set 5 (e_call (ok__with_part T) (hr.mono (by first | decide | omega)) T.g__with_part T.k__with_part T.b__with_part tk (a_cons (e_var 5) (a_cons (e_ix (e_var 8) e_int) (a_cons (e_bin (or_add false) (e_ix (e_var 5) (e_ix (e_var 8) e_int)) (e_tup (a_cons (e_tup (a_cons (e_var 10) (a_cons (e_ix (e_var 8) e_int) a_nil))) a_nil))) a_nil)))) sc_behind.nd)
    (ss_one (s_set 4 (e_call (ok__with_part T) (hr.mono (by first | decide | omega)) T.g__with_part T.k__with_part T.b__with_part tk (a_cons (e_var 4) (a_cons (e_ix (e_var 8) e_int) (a_cons (e_bin (or_add false) (e_var 10) e_int) a_nil)))) sc_behind.nd))))
    ss_nil)
    (ss_one (s_ret (e_tup (a_cons (e_var 3) (a_cons (e_var 4) (a_cons (e_var 5) a_nil)))))))))))))))
theorem sc_done : FnScope [("net" : Str), ("world" : Str), ("deed" : Str), ("clean" : Str)] [("net" : Str), ("world" : Str), ("deed" : Str)] (defScope s_done) := ⟨rfl, rfl, rfl, by decide +kernel, rfl, by decide +kernel, by decide +kernel⟩
theorem ok_done (T : Tx P K mg) : FnOk P w K mg base (L2.CX P w) 4 T.a_done T.d_done [("net" : Str), ("world" : Str), ("deed" : Str)] (spM T.S 3 m_done) :=
  def_ok2 (k := 3) rfl false (fb := mb_done) T.F_done sc_done rfl rfl rfl (fun cdv A outer s H E hr tk hp =>
    (ss_cons (s_set 3 (e_call (ok_as_deed T) (hr.mono (by first | decide | omega)) T.g_as_deed T.k_as_deed T.b_as_deed tk (a_cons (e_var 0) (a_cons (e_var 2) a_nil))) sc_done.nd)
    (ss_cons (s_if (PW.pt (w_or (t_isN (e_var 3)) (w_or1 (t_not (t_val (e_call (ok_can_do T) (hr.mono (by first | decide | omega)) T.g_can_do T.k_can_do T.b_can_do tk (a_cons (e_var 0) (a_cons (e_var 1) (a_cons (e_var 3) a_nil)))))))))
    (ss_one (s_raise 3 tk (E_at.pmk T.e_BadStep hr e_int)))
    ss_nil)
    (ss_one (s_ret (e_call (ok_behind T) (hr.mono (by first | decide | omega)) T.g_behind T.k_behind T.b_behind tk (a_cons (e_var 0) (a_cons (e_var 1) (a_cons (e_var 3) a_nil)))))))))
theorem sc__law_mixed : FnScope [("_law_number" : Str), ("_law_turn" : Str), ("_law_many" : Str), ("_law_prime" : Str), ("_law_once" : Str), ("_law_twice" : Str)] [("_law_number" : Str), ("_law_turn" : Str), ("_law_many" : Str)] (defScope s__law_mixed) := ⟨rfl, rfl, rfl, by decide +kernel, rfl, by decide +kernel, by decide +kernel⟩
theorem ok__law_mixed (T : Tx P K mg) : FnOk P w K mg base (L2.CX P w) 1 T.a__law_mixed T.d__law_mixed [("_law_number" : Str), ("_law_turn" : Str), ("_law_many" : Str)] (spM T.S 3 m__law_mixed) :=
  def_ok2 (k := 0) rfl false (fb := mb__law_mixed) T.F__law_mixed sc__law_mixed rfl rfl rfl (fun cdv A outer s H E hr tk hp =>
    (ss_cons (s_set 3 e_int sc__law_mixed.nd)
    (ss_cons (s_set 4 (e_bin or_mod (e_callT1 cr_int T.n_int (e_bin (or_add false) (e_bin (or_add false) (e_bin or_mulX (e_var 0) e_int) (e_bin or_mulX (e_var 1) e_int)) e_int)) (e_var 3)) sc__law_mixed.nd)
    (ss_cons (s_set 5 (e_bin or_mod (e_bin or_mulX (e_callT1 cr_int T.n_int (e_bin (or_add false) (e_bin or_mulX (e_var 4) (e_var 4)) (e_var 1))) e_int) (e_var 3)) sc__law_mixed.nd)
    (ss_one (s_ret (e_bin or_mod (e_bin or_fdiv (e_var 5) e_int) (e_var 2))))))))
theorem sc__law_pool : FnScope [("_law_script" : Str), ("_law_seed" : Str), ("_law_cell" : Str), ("_law_cells" : Str)] [("_law_script" : Str)] (defScope s__law_pool) := ⟨rfl, rfl, rfl, by decide +kernel, rfl, by decide +kernel, by decide +kernel⟩
theorem ok__law_pool (T : Tx P K mg) : FnOk P w K mg base (L2.CX P w) 1 T.a__law_pool T.d__law_pool [("_law_script" : Str)] (spM T.S 1 m__law_pool) :=
  def_ok2 (k := 0) rfl true (fb := mb__law_pool) T.F__law_pool sc__law_pool rfl rfl rfl (fun cdv A outer s H E hr tk hp =>
    (ss_cons (s_set 1 e_int sc__law_pool.nd)
    (ss_cons (s_for hp (i_seq (e_var 0)) (g_name 2 sc__law_pool.nd)
    (ss_one (s_set 1 (e_bin or_mod (e_callT1 cr_int T.n_int (e_bin (or_add false) (e_bin or_mulX (e_var 1) e_int) (e_var 2))) e_int) sc__law_pool.nd)))
    (ss_cons (s_set 3 (e_callT1 (cr_list true) T.n_list (e_var 0)) sc__law_pool.nd)
    (ss_cons (s_if (PW.pt (w_and (t_cmp or_gt (e_callB1 cr_len T.n_len (e_var 3)) e_int) (w_and1 (t_cmp (or_eq (hu64 hr)) (e_bin or_mod (e_callT1 cr_int T.n_int (e_ix (e_var 3) e_int)) e_int) e_int))))
    (ss_one (s_set 3 (e_lst true a_nil) sc__law_pool.nd))
    ss_nil)
    (ss_cons (s_if (t_cmp or_gt (e_callB1 cr_len T.n_len (e_var 3)) e_int)
    (ss_one (s_asg (e_bin or_fdiv (e_ix (e_var 3) e_int) e_int) (g_sub (W := (WC E)) (e_var 3) e_int)))
    ss_nil)
    (ss_one (s_ret (e_dict (dd_cons dk_str (e_var 3) (dd_cons dk_str e_int (dd_cons dk_str e_int (dd_cons dk_str e_int (dd_cons dk_str e_bl (dd_cons dk_str (e_var 1) (dd_cons dk_str e_int dd_nil))))))))))))))))
theorem sc__law_take : FnScope [("_law_pool_here" : Str), ("_law_many" : Str), ("_law_drawn" : Str)] [("_law_pool_here" : Str), ("_law_many" : Str)] (defScope s__law_take) := ⟨rfl, rfl, rfl, by decide +kernel, rfl, by decide +kernel, by decide +kernel⟩
theorem ok__law_take (T : Tx P K mg) : FnOk P w K mg base (L2.CX P w) 2 T.a__law_take T.d__law_take [("_law_pool_here" : Str), ("_law_many" : Str)] (spM T.S 2 m__law_take) :=
  def_ok2 (k := 1) rfl false (fb := mb__law_take) T.F__law_take sc__law_take rfl rfl rfl (fun cdv A outer s H E hr tk hp =>
    (ss_cons (s_put (hu1 hr) (e_var 0) e_str (e_bin (or_add false) (e_get (hu1 hr) (e_var 0) e_str) e_int))
    (ss_cons (s_if (PW.pt (w_and (t_cmp (or_eq (hu64 hr)) (e_get (hu1 hr) (e_var 0) e_str) e_int) (w_and1 (t_cmp or_lt (e_get (hu1 hr) (e_var 0) e_str) (e_callB1 cr_len T.n_len (e_get (hu1 hr) (e_var 0) e_str))))))
    (ss_cons (s_put (hu1 hr) (e_var 0) e_str (e_ix (e_get (hu1 hr) (e_var 0) e_str) (e_get (hu1 hr) (e_var 0) e_str)))
    (ss_cons (s_put (hu1 hr) (e_var 0) e_str (e_bin (or_add false) (e_get (hu1 hr) (e_var 0) e_str) e_int))
    (ss_cons (s_put (hu1 hr) (e_var 0) e_str (e_cmp or_lt (e_get (hu1 hr) (e_var 0) e_str) (e_bin or_pow e_int e_int)))
    (ss_one (s_put (hu1 hr) (e_var 0) e_str (e_ix (e_lst false (a_cons e_int (a_cons e_int a_nil))) (e_callT1 cr_int T.n_int (e_get (hu1 hr) (e_var 0) e_str))))))))
    ss_nil)
    (ss_cons (s_if (t_cmp (or_eq (hu64 hr)) (e_get (hu1 hr) (e_var 0) e_str) e_int)
    (ss_one (s_ret (e_call (ok__law_mixed T) (hr.mono (by first | decide | omega)) T.g__law_mixed T.k__law_mixed T.b__law_mixed tk (a_cons (e_get (hu1 hr) (e_var 0) e_str) (a_cons (e_get (hu1 hr) (e_var 0) e_str) (a_cons (e_var 1) a_nil))))))
    ss_nil)
    (ss_cons (s_put (hu1 hr) (e_var 0) e_str (e_bin or_sub (e_get (hu1 hr) (e_var 0) e_str) e_int))
    (ss_cons (s_if (t_val (e_get (hu1 hr) (e_var 0) e_str))
    (ss_one (s_ret (e_call (ok__law_mixed T) (hr.mono (by first | decide | omega)) T.g__law_mixed T.k__law_mixed T.b__law_mixed tk (a_cons (e_get (hu1 hr) (e_var 0) e_str) (a_cons (e_get (hu1 hr) (e_var 0) e_str) (a_cons (e_var 1) a_nil))))))
    ss_nil)
    (ss_cons (s_set 2 (e_bin or_mod (e_callT1 cr_int T.n_int (e_get (hu1 hr) (e_var 0) e_str)) (e_var 1)) sc__law_take.nd)
    (ss_cons (s_put (hu1 hr) (e_var 0) e_str (e_bin or_fdiv (e_get (hu1 hr) (e_var 0) e_str) (e_var 1)))
    (ss_cons (s_if (t_cmp (or_eq (hu64 hr)) (e_get (hu1 hr) (e_var 0) e_str) e_int)
    (ss_one (s_put (hu1 hr) (e_var 0) e_str e_int))
    ss_nil)
    (ss_one (s_ret (e_var 2))))))))))))
theorem sc__law_names : FnScope [("_law_pool_here" : Str), ("_law_many" : Str), ("_law_letters" : Str), ("_law_names_here" : Str), ("_law_k" : Str), ("_law_size" : Str), ("_law_name" : Str), ("_law_others" : Str), ("_law_j" : Str), ("_law_letter" : Str), ("_law_other" : Str)] [("_law_pool_here" : Str), ("_law_many" : Str)] (defScope s__law_names) := ⟨rfl, rfl, rfl, by decide +kernel, rfl, by decide +kernel, by decide +kernel⟩
theorem ok__law_names (T : Tx P K mg) : FnOk P w K mg base (L2.CX P w) 3 T.a__law_names T.d__law_names [("_law_pool_here" : Str), ("_law_many" : Str)] (spM T.S 2 m__law_names) :=
  def_ok2 (k := 2) rfl false (fb := mb__law_names) T.F__law_names sc__law_names rfl rfl rfl (fun cdv A outer s H E hr tk hp =>
    (ss_cons (s_set 2 e_str sc__law_names.nd)
    (ss_cons (s_set 3 (e_lst true a_nil) sc__law_names.nd)
    (ss_cons (s_for hp (i_rg1 (e_var 1) T.n_range) (g_name 4 sc__law_names.nd)
    (ss_cons (s_set 5 (e_ix (e_lst false (a_cons e_int (a_cons e_int (a_cons e_int (a_cons (e_bin (or_add false) e_int (e_call (ok__law_take T) (hr.mono (by first | decide | omega)) T.g__law_take T.k__law_take T.b__law_take tk (a_cons (e_var 0) (a_cons e_int a_nil)))) a_nil))))) (e_call (ok__law_take T) (hr.mono (by first | decide | omega)) T.g__law_take T.k__law_take T.b__law_take tk (a_cons (e_var 0) (a_cons e_int a_nil)))) sc__law_names.nd)
    (ss_cons (s_set 6 (e_meth PySem.F.plainAttrs_str PySem.F.slot_str_join PySem.F.type_str_join m_join e_str (a_cons (e_comp (own := [(("_law_j" : Str), 8)]) false (.nm 8) sc__law_names.nd (i_rg1 (e_var 5) T.n_range) (blkOk_by (N := [("_law_pool_here" : Str), ("_law_many" : Str), ("_law_letters" : Str), ("_law_names_here" : Str), ("_law_k" : Str), ("_law_size" : Str), ("_law_name" : Str), ("_law_others" : Str), ("_law_j" : Str), ("_law_letter" : Str), ("_law_other" : Str)]) (sc := defScope s__law_names) (by decide +kernel)) (fun _ _ _ _ _ => tg_nm 8 sc__law_names.nd) (fun _ _ _ _ _ => ts_nil) (fun _ _ _ _ _ => (e_ix (e_var 2) (e_call (ok__law_take T) (hr.mono (by first | decide | omega)) T.g__law_take T.k__law_take T.b__law_take takes0 (a_cons (e_var 0) (a_cons e_int a_nil)))))) a_nil)) sc__law_names.nd)
    (ss_cons (s_if (t_cmp (or_in (hu65 hr)) (e_var 6) (e_var 3))
    (ss_cons (s_comp (own := [(("_law_letter" : Str), 9)]) 7 false (.nm 9) sc__law_names.nd (i_seq e_str) (blkOk_by (N := [("_law_pool_here" : Str), ("_law_many" : Str), ("_law_letters" : Str), ("_law_names_here" : Str), ("_law_k" : Str), ("_law_size" : Str), ("_law_name" : Str), ("_law_others" : Str), ("_law_j" : Str), ("_law_letter" : Str), ("_law_other" : Str)]) (sc := defScope s__law_names) (by decide +kernel)) (fun _ _ _ _ _ => tg_nm 9 sc__law_names.nd) (fun _ _ _ _ _ => ts_nil) (fun _ _ _ _ _ => (e_bin (or_add false) e_str (e_var 9))))
    (ss_one (s_set 6 (e_ix (e_comp (own := [(("_law_other" : Str), 10)]) false (.nm 10) sc__law_names.nd (i_seq (e_var 7)) (blkOk_by (N := [("_law_pool_here" : Str), ("_law_many" : Str), ("_law_letters" : Str), ("_law_names_here" : Str), ("_law_k" : Str), ("_law_size" : Str), ("_law_name" : Str), ("_law_others" : Str), ("_law_j" : Str), ("_law_letter" : Str), ("_law_other" : Str)]) (sc := defScope s__law_names) (by decide +kernel)) (fun _ _ _ _ _ => tg_nm 10 sc__law_names.nd) (fun _ _ _ _ _ => (ts_one (t_cmp (or_notin (hu65 hr)) (e_var 10) (e_var 3)))) (fun _ _ _ _ _ => (e_var 10))) e_int) sc__law_names.nd)))
    ss_nil)
    (ss_one (s_expr (e_append (e_var 3) (e_var 6))))))))
    (ss_one (s_ret (e_var 3)))))))
theorem sc__law_made : FnScope [("_law_pool_here" : Str), ("_law_net" : Str)] [("_law_pool_here" : Str), ("_law_net" : Str)] (defScope s__law_made) := ⟨rfl, rfl, rfl, by decide +kernel, rfl, by decide +kernel, by decide +kernel⟩
theorem ok__law_made (T : Tx P K mg) : FnOk P w K mg base (L2.CX P w) 13 T.a__law_made T.d__law_made [("_law_pool_here" : Str), ("_law_net" : Str)] (spM T.S 2 m__law_made) :=
  def_ok2 (k := 12) rfl false (fb := mb__law_made) T.F__law_made sc__law_made rfl rfl rfl (fun cdv A outer s H E hr tk hp =>
    (ss_cons (s_if (t_cmp (or_eq (hu64 hr)) (e_call (ok__law_take T) (hr.mono (by first | decide | omega)) T.g__law_take T.k__law_take T.b__law_take tk (a_cons (e_var 0) (a_cons e_int a_nil))) e_int)
    (ss_one (s_ret (e_make 100 rfl T.mk_Net (ok_Net_init T) (hr.mono (by first | decide | omega)) T.c_Net T.b_Net_init tk (a_cons (e_callT1 (cr_list false) T.n_list (e_get (hu1 hr) (e_var 1) e_str)) (a_cons (e_callT1 (cr_list false) T.n_list (e_get (hu1 hr) (e_var 1) e_str)) (a_cons (e_callT1 (cr_list false) T.n_list (e_get (hu1 hr) (e_var 1) e_str)) a_nil))))))
    ss_nil)
    (ss_one (s_ret (e_make 100 rfl T.mk_Net (ok_Net_init T) (hr.mono (by first | decide | omega)) T.c_Net T.b_Net_init tk (a_cons (e_callT1 cr_tuple T.n_tuple (e_get (hu1 hr) (e_var 1) e_str)) (a_cons (e_callT1 cr_tuple T.n_tuple (e_get (hu1 hr) (e_var 1) e_str)) (a_cons (e_callT1 cr_tuple T.n_tuple (e_get (hu1 hr) (e_var 1) e_str)) a_nil))))))))
theorem sc__law_start : FnScope [("_law_net" : Str), ("_law_process" : Str), ("_law_c" : Str)] [("_law_net" : Str)] (defScope s__law_start) := ⟨rfl, rfl, rfl, by decide +kernel, rfl, by decide +kernel, by decide +kernel⟩
theorem ok__law_start (T : Tx P K mg) : FnOk P w K mg base (L2.CX P w) 1 T.a__law_start T.d__law_start [("_law_net" : Str)] (spM T.S 1 m__law_start) :=
  def_ok2 (k := 0) rfl false (fb := mb__law_start) T.F__law_start sc__law_start rfl rfl rfl (fun cdv A outer s H E hr tk hp =>
    (ss_one (s_ret (e_tup (a_cons (e_comp (own := [(("_law_process" : Str), 1)]) false (.nm 1) sc__law_start.nd (i_seq (e_get (hu1 hr) (e_var 0) e_str)) (blkOk_by (N := [("_law_net" : Str), ("_law_process" : Str), ("_law_c" : Str)]) (sc := defScope s__law_start) (by decide +kernel)) (fun _ _ _ _ _ => tg_nm 1 sc__law_start.nd) (fun _ _ _ _ _ => ts_nil) (fun _ _ _ _ _ => e_int)) (a_cons (e_comp (own := [(("_law_c" : Str), 2)]) false (.nm 2) sc__law_start.nd (i_seq (e_get (hu1 hr) (e_var 0) e_str)) (blkOk_by (N := [("_law_net" : Str), ("_law_process" : Str), ("_law_c" : Str)]) (sc := defScope s__law_start) (by decide +kernel)) (fun _ _ _ _ _ => tg_nm 2 sc__law_start.nd) (fun _ _ _ _ _ => ts_nil) (fun _ _ _ _ _ => e_int)) (a_cons (e_comp (own := [(("_law_c" : Str), 2)]) false (.nm 2) sc__law_start.nd (i_seq (e_get (hu1 hr) (e_var 0) e_str)) (blkOk_by (N := [("_law_net" : Str), ("_law_process" : Str), ("_law_c" : Str)]) (sc := defScope s__law_start) (by decide +kernel)) (fun _ _ _ _ _ => tg_nm 2 sc__law_start.nd) (fun _ _ _ _ _ => ts_nil) (fun _ _ _ _ _ => (e_lst false a_nil))) a_nil)))))))
theorem sc__law_told : FnScope [("_law_world" : Str), ("_law_row" : Str)] [("_law_world" : Str)] (defScope s__law_told) := ⟨rfl, rfl, rfl, by decide +kernel, rfl, by decide +kernel, by decide +kernel⟩
theorem ok__law_told (T : Tx P K mg) : FnOk P w K mg base (L2.CX P w) 1 T.a__law_told T.d__law_told [("_law_world" : Str)] (spM T.S 1 m__law_told) :=
  def_ok2 (k := 0) rfl false (fb := mb__law_told) T.F__law_told sc__law_told rfl rfl rfl (fun cdv A outer s H E hr tk hp =>
    (ss_one (s_ret (e_tup (a_cons (e_callT1 cr_tuple T.n_tuple (e_ix (e_var 0) e_int)) (a_cons (e_callT1 cr_tuple T.n_tuple (e_ix (e_var 0) e_int)) (a_cons (e_callT1 cr_tuple T.n_tuple (e_comp (own := [(("_law_row" : Str), 1)]) false (.nm 1) sc__law_told.nd (i_seq (e_ix (e_var 0) e_int)) (blkOk_by (N := [("_law_world" : Str), ("_law_row" : Str)]) (sc := defScope s__law_told) (by decide +kernel)) (fun _ _ _ _ _ => tg_nm 1 sc__law_told.nd) (fun _ _ _ _ _ => ts_nil) (fun _ _ _ _ _ => (e_callT1 cr_tuple T.n_tuple (e_var 1))))) a_nil)))))))
theorem sc__law_first : FnScope [("_law_net" : Str), ("_law_world" : Str), ("_law_c" : Str)] [("_law_net" : Str), ("_law_world" : Str), ("_law_c" : Str)] (defScope s__law_first) := ⟨rfl, rfl, rfl, by decide +kernel, rfl, by decide +kernel, by decide +kernel⟩
theorem ok__law_first (T : Tx P K mg) : FnOk P w K mg base (L2.CX P w) 1 T.a__law_first T.d__law_first [("_law_net" : Str), ("_law_world" : Str), ("_law_c" : Str)] (spM T.S 3 m__law_first) :=
  def_ok2 (k := 0) rfl false (fb := mb__law_first) T.F__law_first sc__law_first rfl rfl rfl (fun cdv A outer s H E hr tk hp =>
    (ss_cons (s_if (t_cmp (or_eq (hu64 hr)) (e_slice false (e_ix (e_ix (e_get (hu1 hr) (e_var 0) e_str) (e_var 2)) e_int) o_none (o_some e_int)) e_str)
    (ss_one (s_ret (e_slice false (e_ix (e_ix (e_var 1) e_int) (e_var 2)) o_none (o_some e_int))))
    ss_nil)
    (ss_one (s_ret (e_ix (e_ix (e_var 1) e_int) (e_var 2))))))
theorem sc__law_possible : FnScope [("_law_net" : Str), ("_law_world" : Str), ("_law_found" : Str), ("_law_r" : Str), ("_law_c" : Str), ("_law_process" : Str), ("_law_state" : Str), ("_law_act" : Str), ("_law_then" : Str), ("_law_one" : Str)] [("_law_net" : Str), ("_law_world" : Str)] (defScope s__law_possible) := ⟨rfl, rfl, rfl, by decide +kernel, rfl, by decide +kernel, by decide +kernel⟩
theorem ok__law_possible (T : Tx P K mg) : FnOk P w K mg base (L2.CX P w) 2 T.a__law_possible T.d__law_possible [("_law_net" : Str), ("_law_world" : Str)] (spM T.S 2 m__law_possible) :=
  def_ok2 (k := 1) rfl false (fb := mb__law_possible) T.F__law_possible sc__law_possible rfl rfl rfl (fun cdv A outer s H E hr tk hp =>
    (ss_cons (s_set 2 (e_lst true a_nil) sc__law_possible.nd)
    (ss_cons (s_for hp (i_rg1 (e_callB1 cr_len T.n_len (e_get (hu1 hr) (e_var 0) e_str)) T.n_range) (g_name 3 sc__law_possible.nd)
    (ss_cons (s_asg (e_ix (e_get (hu1 hr) (e_var 0) e_str) (e_var 3)) (g_tup (n := 4) (gs_cons (g_name 5 sc__law_possible.nd) (gs_cons (g_name 6 sc__law_possible.nd) (gs_cons (g_name 7 sc__law_possible.nd) (gs_cons (g_name 8 sc__law_possible.nd) gs_nil))))))
    (ss_one (s_if (PW.pt (w_and (t_cmp (or_eq (hu64 hr)) (e_ix (e_ix (e_var 1) e_int) (e_var 5)) (e_var 6)) (w_and1 (t_cmp (or_ne (hu64 hr)) (e_ix (e_var 7) e_int) e_str))))
    (ss_one (s_expr (e_append (e_var 2) (e_tup (a_cons e_str (a_cons (e_var 3) a_nil))))))
    (ss_one (s_if (t_cmp (or_eq (hu64 hr)) (e_ix (e_ix (e_var 1) e_int) (e_var 5)) (e_var 6))
    (ss_one (s_set 2 (e_bin (or_add true) (e_var 2) (e_comp (own := [(("_law_one" : Str), 9)]) false (.nm 9) sc__law_possible.nd (i_seq (e_call (ok__law_first T) (hr.mono (by first | decide | omega)) T.g__law_first T.k__law_first T.b__law_first tk (a_cons (e_var 0) (a_cons (e_var 1) (a_cons (e_ix (e_var 7) e_int) a_nil))))) (blkOk_by (N := [("_law_net" : Str), ("_law_world" : Str), ("_law_found" : Str), ("_law_r" : Str), ("_law_c" : Str), ("_law_process" : Str), ("_law_state" : Str), ("_law_act" : Str), ("_law_then" : Str), ("_law_one" : Str)]) (sc := defScope s__law_possible) (by decide +kernel)) (fun _ _ _ _ _ => tg_nm 9 sc__law_possible.nd) (fun _ _ _ _ _ => (ts_one (t_cmp (or_eq (hu64 hr)) (e_ix (e_var 9) e_int) (e_ix (e_var 7) e_int)))) (fun _ _ _ _ _ => (e_tup (a_cons e_str (a_cons (e_var 3) (a_cons (e_ix (e_var 9) e_int) a_nil))))))) sc__law_possible.nd))
    ss_nil))))))
    (ss_cons (s_for hp (i_rg1 (e_callB1 cr_len T.n_len (e_get (hu1 hr) (e_var 0) e_str)) T.n_range) (g_name 4 sc__law_possible.nd)
    (ss_one (s_if (t_cmp (or_eq (hu64 hr)) (e_slice false (e_ix (e_ix (e_get (hu1 hr) (e_var 0) e_str) (e_var 4)) e_int) (o_some (e_neg e_int)) o_none) e_str)
    (ss_one (s_set 2 (e_bin (or_add true) (e_var 2) (e_comp (own := [(("_law_one" : Str), 9)]) false (.nm 9) sc__law_possible.nd (i_seq (e_call (ok__law_first T) (hr.mono (by first | decide | omega)) T.g__law_first T.k__law_first T.b__law_first tk (a_cons (e_var 0) (a_cons (e_var 1) (a_cons (e_var 4) a_nil))))) (blkOk_by (N := [("_law_net" : Str), ("_law_world" : Str), ("_law_found" : Str), ("_law_r" : Str), ("_law_c" : Str), ("_law_process" : Str), ("_law_state" : Str), ("_law_act" : Str), ("_law_then" : Str), ("_law_one" : Str)]) (sc := defScope s__law_possible) (by decide +kernel)) (fun _ _ _ _ _ => tg_nm 9 sc__law_possible.nd) (fun _ _ _ _ _ => ts_nil) (fun _ _ _ _ _ => (e_tup (a_cons e_str (a_cons (e_var 4) (a_cons (e_ix (e_var 9) e_int) a_nil))))))) sc__law_possible.nd))
    ss_nil)))
    (ss_one (s_ret (e_var 2)))))))
theorem sc__law_done : FnScope [("_law_net" : Str), ("_law_world" : Str), ("_law_deed" : Str), ("_law_states" : Str), ("_law_sent" : Str), ("_law_present" : Str), ("_law_process" : Str), ("_law_state" : Str), ("_law_act" : Str), ("_law_then" : Str), ("_law_row" : Str), ("_law_one" : Str)] [("_law_net" : Str), ("_law_world" : Str), ("_law_deed" : Str)] (defScope s__law_done) := ⟨rfl, rfl, rfl, by decide +kernel, rfl, by decide +kernel, by decide +kernel⟩
theorem ok__law_done (T : Tx P K mg) : FnOk P w K mg base (L2.CX P w) 1 T.a__law_done T.d__law_done [("_law_net" : Str), ("_law_world" : Str), ("_law_deed" : Str)] (spM T.S 3 m__law_done) :=
  def_ok2 (k := 0) rfl false (fb := mb__law_done) T.F__law_done sc__law_done rfl rfl rfl (fun cdv A outer s H E hr tk hp =>
    (ss_cons (s_set 3 (e_callT1 (cr_list true) T.n_list (e_ix (e_var 1) e_int)) sc__law_done.nd)
    (ss_cons (s_set 4 (e_callT1 (cr_list true) T.n_list (e_ix (e_var 1) e_int)) sc__law_done.nd)
    (ss_cons (s_comp (own := [(("_law_row" : Str), 10)]) 5 true (.nm 10) sc__law_done.nd (i_seq (e_ix (e_var 1) e_int)) (blkOk_by (N := [("_law_net" : Str), ("_law_world" : Str), ("_law_deed" : Str), ("_law_states" : Str), ("_law_sent" : Str), ("_law_present" : Str), ("_law_process" : Str), ("_law_state" : Str), ("_law_act" : Str), ("_law_then" : Str), ("_law_row" : Str), ("_law_one" : Str)]) (sc := defScope s__law_done) (by decide +kernel)) (fun _ _ _ _ _ => tg_nm 10 sc__law_done.nd) (fun _ _ _ _ _ => ts_nil) (fun _ _ _ _ _ => (e_callT1 (cr_list false) T.n_list (e_var 10))))
    (ss_cons (s_if (t_cmp (or_eq (hu64 hr)) (e_ix (e_var 2) e_int) e_str)
    (ss_cons (s_asg (e_comp (own := [(("_law_one" : Str), 11)]) false (.nm 11) sc__law_done.nd (i_seq (e_ix (e_var 5) (e_ix (e_var 2) e_int))) (blkOk_by (N := [("_law_net" : Str), ("_law_world" : Str), ("_law_deed" : Str), ("_law_states" : Str), ("_law_sent" : Str), ("_law_present" : Str), ("_law_process" : Str), ("_law_state" : Str), ("_law_act" : Str), ("_law_then" : Str), ("_law_row" : Str), ("_law_one" : Str)]) (sc := defScope s__law_done) (by decide +kernel)) (fun _ _ _ _ _ => tg_nm 11 sc__law_done.nd) (fun _ _ _ _ _ => (ts_one (t_cmp (or_ne (hu64 hr)) (e_ix (e_var 11) e_int) (e_ix (e_var 2) e_int)))) (fun _ _ _ _ _ => (e_var 11))) (g_sub (W := (WC E)) (e_var 5) (e_ix (e_var 2) e_int)))
    (ss_one (s_ret (e_tup (a_cons (e_var 3) (a_cons (e_var 4) (a_cons (e_var 5) a_nil)))))))
    ss_nil)
    (ss_cons (s_asg (e_ix (e_get (hu1 hr) (e_var 0) e_str) (e_ix (e_var 2) e_int)) (g_tup (n := 4) (gs_cons (g_name 6 sc__law_done.nd) (gs_cons (g_name 7 sc__law_done.nd) (gs_cons (g_name 8 sc__law_done.nd) (gs_cons (g_name 9 sc__law_done.nd) gs_nil))))))
    (ss_cons (s_asg (e_var 9) (g_sub (W := (WC E)) (e_var 3) (e_var 6)))
    (ss_cons (s_if (t_cmp (or_eq (hu64 hr)) (e_ix (e_var 8) e_int) e_str)
    (ss_cons (s_asg (e_bin (or_add false) (e_ix (e_var 5) (e_ix (e_var 8) e_int)) (e_lst false (a_cons (e_tup (a_cons (e_ix (e_var 4) (e_ix (e_var 8) e_int)) (a_cons (e_ix (e_var 8) e_int) a_nil))) a_nil))) (g_sub (W := (WC E)) (e_var 5) (e_ix (e_var 8) e_int)))
    (ss_one (s_asg (e_bin (or_add false) (e_ix (e_var 4) (e_ix (e_var 8) e_int)) e_int) (g_sub (W := (WC E)) (e_var 4) (e_ix (e_var 8) e_int)))))
    ss_nil)
    (ss_cons (s_if (t_cmp (or_eq (hu64 hr)) (e_ix (e_var 8) e_int) e_str)
    (ss_one (s_asg (e_comp (own := [(("_law_one" : Str), 11)]) false (.nm 11) sc__law_done.nd (i_seq (e_ix (e_var 5) (e_ix (e_var 8) e_int))) (blkOk_by (N := [("_law_net" : Str), ("_law_world" : Str), ("_law_deed" : Str), ("_law_states" : Str), ("_law_sent" : Str), ("_law_present" : Str), ("_law_process" : Str), ("_law_state" : Str), ("_law_act" : Str), ("_law_then" : Str), ("_law_row" : Str), ("_law_one" : Str)]) (sc := defScope s__law_done) (by decide +kernel)) (fun _ _ _ _ _ => tg_nm 11 sc__law_done.nd) (fun _ _ _ _ _ => (ts_one (t_cmp (or_ne (hu64 hr)) (e_ix (e_var 11) e_int) (e_ix (e_var 2) e_int)))) (fun _ _ _ _ _ => (e_var 11))) (g_sub (W := (WC E)) (e_var 5) (e_ix (e_var 8) e_int))))
    ss_nil)
    (ss_one (s_ret (e_tup (a_cons (e_var 3) (a_cons (e_var 4) (a_cons (e_var 5) a_nil)))))))))))))))
theorem sc__law_near : FnScope [("_law_pool_here" : Str), ("_law_net" : Str), ("_law_world" : Str), ("_law_near_here" : Str), ("_law_r" : Str), ("_law_c" : Str), ("_law_can" : Str), ("_law_act" : Str), ("_law_gone" : Str), ("_law_deed" : Str), ("_law_k" : Str), ("_law_one" : Str)] [("_law_pool_here" : Str), ("_law_net" : Str), ("_law_world" : Str)] (defScope s__law_near) := ⟨rfl, rfl, rfl, by decide +kernel, rfl, by decide +kernel, by decide +kernel⟩
theorem ok__law_near (T : Tx P K mg) : FnOk P w K mg base (L2.CX P w) 3 T.a__law_near T.d__law_near [("_law_pool_here" : Str), ("_law_net" : Str), ("_law_world" : Str)] (spM T.S 3 m__law_near) :=
  def_ok2 (k := 2) rfl false (fb := mb__law_near) T.F__law_near sc__law_near rfl rfl rfl (fun cdv A outer s H E hr tk hp =>
    (ss_cons (s_set 3 (e_lst true (a_cons (e_tup (a_cons e_str (a_cons (e_callB1 cr_len T.n_len (e_get (hu1 hr) (e_var 1) e_str)) a_nil))) (a_cons (e_tup (a_cons e_str (a_cons (e_callB1 cr_len T.n_len (e_get (hu1 hr) (e_var 1) e_str)) (a_cons e_int a_nil)))) (a_cons (e_tup (a_cons e_str (a_cons (e_callB1 cr_len T.n_len (e_get (hu1 hr) (e_var 1) e_str)) (a_cons e_int a_nil)))) a_nil)))) sc__law_near.nd)
    (ss_cons (s_for hp (i_rg1 (e_callB1 cr_len T.n_len (e_get (hu1 hr) (e_var 1) e_str)) T.n_range) (g_name 4 sc__law_near.nd)
    (ss_cons (s_set 7 (e_ix (e_ix (e_get (hu1 hr) (e_var 1) e_str) (e_var 4)) e_int) sc__law_near.nd)
    (ss_cons (s_expr (e_append (e_var 3) (e_tup (a_cons e_str (a_cons (e_var 4) a_nil)))))
    (ss_one (s_if (t_cmp (or_eq (hu64 hr)) (e_ix (e_var 7) e_int) e_str)
    (ss_one (s_set 3 (e_bin (or_add true) (e_bin (or_add false) (e_var 3) (e_comp (own := [(("_law_one" : Str), 11)]) false (.nm 11) sc__law_near.nd (i_seq (e_ix (e_ix (e_var 2) e_int) (e_ix (e_var 7) e_int))) (blkOk_by (N := [("_law_pool_here" : Str), ("_law_net" : Str), ("_law_world" : Str), ("_law_near_here" : Str), ("_law_r" : Str), ("_law_c" : Str), ("_law_can" : Str), ("_law_act" : Str), ("_law_gone" : Str), ("_law_deed" : Str), ("_law_k" : Str), ("_law_one" : Str)]) (sc := defScope s__law_near) (by decide +kernel)) (fun _ _ _ _ _ => tg_nm 11 sc__law_near.nd) (fun _ _ _ _ _ => ts_nil) (fun _ _ _ _ _ => (e_tup (a_cons e_str (a_cons (e_var 4) (a_cons (e_ix (e_var 11) e_int) a_nil))))))) (e_lst false (a_cons (e_tup (a_cons e_str (a_cons (e_var 4) (a_cons (e_ix (e_ix (e_var 2) e_int) (e_ix (e_var 7) e_int)) a_nil)))) a_nil))) sc__law_near.nd))
    (ss_one (s_expr (e_append (e_var 3) (e_tup (a_cons e_str (a_cons (e_var 4) (a_cons e_int a_nil))))))))))))
    (ss_cons (s_for hp (i_rg1 (e_callB1 cr_len T.n_len (e_get (hu1 hr) (e_var 1) e_str)) T.n_range) (g_name 5 sc__law_near.nd)
    (ss_cons (s_comp (own := [(("_law_k" : Str), 10)]) 8 false (.nm 10) sc__law_near.nd (i_rg1 (e_ix (e_ix (e_var 2) e_int) (e_var 5)) T.n_range) (blkOk_by (N := [("_law_pool_here" : Str), ("_law_net" : Str), ("_law_world" : Str), ("_law_near_here" : Str), ("_law_r" : Str), ("_law_c" : Str), ("_law_can" : Str), ("_law_act" : Str), ("_law_gone" : Str), ("_law_deed" : Str), ("_law_k" : Str), ("_law_one" : Str)]) (sc := defScope s__law_near) (by decide +kernel)) (fun _ _ _ _ _ => tg_nm 10 sc__law_near.nd) (fun _ _ _ _ _ => (ts_one (t_cmp (or_notin (hu65 hr)) (e_var 10) (e_comp (own := [(("_law_one" : Str), 11)]) false (.nm 11) sc__law_near.nd (i_seq (e_ix (e_ix (e_var 2) e_int) (e_var 5))) (blk_relabel (blkOk_by (N := [("_law_pool_here" : Str), ("_law_net" : Str), ("_law_world" : Str), ("_law_near_here" : Str), ("_law_r" : Str), ("_law_c" : Str), ("_law_can" : Str), ("_law_act" : Str), ("_law_gone" : Str), ("_law_deed" : Str), ("_law_k" : Str), ("_law_one" : Str)]) (by decide +kernel))) (fun _ _ _ _ _ => tg_nm 11 sc__law_near.nd) (fun _ _ _ _ _ => ts_nil) (fun _ _ _ _ _ => (e_ix (e_var 11) e_int)))))) (fun _ _ _ _ _ => (e_var 10)))
    (ss_cons (s_set 3 (e_bin (or_add true) (e_bin (or_add false) (e_var 3) (e_comp (own := [(("_law_one" : Str), 11)]) false (.nm 11) sc__law_near.nd (i_seq (e_ix (e_ix (e_var 2) e_int) (e_var 5))) (blkOk_by (N := [("_law_pool_here" : Str), ("_law_net" : Str), ("_law_world" : Str), ("_law_near_here" : Str), ("_law_r" : Str), ("_law_c" : Str), ("_law_can" : Str), ("_law_act" : Str), ("_law_gone" : Str), ("_law_deed" : Str), ("_law_k" : Str), ("_law_one" : Str)]) (sc := defScope s__law_near) (by decide +kernel)) (fun _ _ _ _ _ => tg_nm 11 sc__law_near.nd) (fun _ _ _ _ _ => ts_nil) (fun _ _ _ _ _ => (e_tup (a_cons e_str (a_cons (e_var 5) (a_cons (e_ix (e_var 11) e_int) a_nil))))))) (e_comp (own := [(("_law_k" : Str), 10)]) false (.nm 10) sc__law_near.nd (i_seq (e_slice false (e_var 8) o_none (o_some e_int))) (blkOk_by (N := [("_law_pool_here" : Str), ("_law_net" : Str), ("_law_world" : Str), ("_law_near_here" : Str), ("_law_r" : Str), ("_law_c" : Str), ("_law_can" : Str), ("_law_act" : Str), ("_law_gone" : Str), ("_law_deed" : Str), ("_law_k" : Str), ("_law_one" : Str)]) (sc := defScope s__law_near) (by decide +kernel)) (fun _ _ _ _ _ => tg_nm 10 sc__law_near.nd) (fun _ _ _ _ _ => ts_nil) (fun _ _ _ _ _ => (e_tup (a_cons e_str (a_cons (e_var 5) (a_cons (e_var 10) a_nil))))))) sc__law_near.nd)
    (ss_one (s_set 3 (e_bin (or_add true) (e_var 3) (e_lst false (a_cons (e_tup (a_cons e_str (a_cons (e_var 5) (a_cons (e_ix (e_ix (e_var 2) e_int) (e_var 5)) a_nil)))) (a_cons (e_tup (a_cons e_str (a_cons (e_var 5) (a_cons (e_bin or_pow e_int e_int) a_nil)))) a_nil)))) sc__law_near.nd)))))
    (ss_cons (s_set 3 (e_bin (or_add true) (e_var 3) (e_lst false (a_cons e_non (a_cons e_int (a_cons e_str (a_cons (e_tup a_nil) (a_cons (e_tup (a_cons e_str a_nil)) (a_cons (e_tup (a_cons e_str (a_cons e_int (a_cons e_int a_nil)))) (a_cons (e_tup (a_cons e_str (a_cons e_int a_nil))) (a_cons (e_tup (a_cons e_str (a_cons e_non a_nil))) (a_cons (e_tup (a_cons e_str (a_cons (e_neg e_int) a_nil))) a_nil))))))))))) sc__law_near.nd)
    (ss_cons (s_set 3 (e_bin (or_add true) (e_var 3) (e_lst false (a_cons (e_tup (a_cons e_str (a_cons e_int a_nil))) (a_cons (e_tup (a_cons e_str (a_cons e_int (a_cons (e_neg e_int) a_nil)))) (a_cons (e_tup (a_cons e_str (a_cons e_int a_nil))) (a_cons (e_tup (a_cons e_str (a_cons (e_neg e_int) (a_cons e_int a_nil)))) (a_cons (e_tup (a_cons e_str (a_cons e_int (a_cons (e_neg e_int) a_nil)))) a_nil))))))) sc__law_near.nd)
    (ss_cons (s_set 6 (e_call (ok__law_possible T) (hr.mono (by first | decide | omega)) T.g__law_possible T.k__law_possible T.b__law_possible tk (a_cons (e_var 1) (a_cons (e_var 2) a_nil))) sc__law_near.nd)
    (ss_cons (s_comp (own := [(("_law_deed" : Str), 9)]) 3 true (.nm 9) sc__law_near.nd (i_seq (e_var 3)) (blkOk_by (N := [("_law_pool_here" : Str), ("_law_net" : Str), ("_law_world" : Str), ("_law_near_here" : Str), ("_law_r" : Str), ("_law_c" : Str), ("_law_can" : Str), ("_law_act" : Str), ("_law_gone" : Str), ("_law_deed" : Str), ("_law_k" : Str), ("_law_one" : Str)]) (sc := defScope s__law_near) (by decide +kernel)) (fun _ _ _ _ _ => tg_nm 9 sc__law_near.nd) (fun _ _ _ _ _ => (ts_one (t_cmp (or_notin (hu65 hr)) (e_var 9) (e_var 6)))) (fun _ _ _ _ _ => (e_var 9)))
    (ss_one (s_ret (e_ix (e_var 3) (e_call (ok__law_take T) (hr.mono (by first | decide | omega)) T.g__law_take T.k__law_take T.b__law_take tk (a_cons (e_var 0) (a_cons (e_callB1 cr_len T.n_len (e_var 3)) a_nil))))))))))))))
theorem sc__law_same : FnScope [("_law_actual" : Str), ("_law_due" : Str), ("_law_k" : Str)] [("_law_actual" : Str), ("_law_due" : Str)] (defScope s__law_same) := ⟨rfl, rfl, rfl, by decide +kernel, rfl, by decide +kernel, by decide +kernel⟩
theorem ok__law_same (T : Tx P K mg) : ∀ n, FnOk P w K mg base (L2.CX P w) (1 + n) T.a__law_same T.d__law_same [("_law_actual" : Str), ("_law_due" : Str)] (spM T.S 2 (m__law_same n))
  | 0 => bad_ok2 rfl rfl
  | n + 1 => by
    have IH : FnOk P w K mg base (L2.CX P w) (1 + n) T.a__law_same T.d__law_same [("_law_actual" : Str), ("_law_due" : Str)] (spM T.S 2 (m__law_same n)) := ok__law_same T n
    exact def_ok2 (k := 1 + n) rfl false (fb := mb__law_same (m__law_same n)) T.F__law_same sc__law_same rfl rfl rfl (fun cdv A outer s H E hr tk hp =>
    (ss_cons (s_if (t_val (e_isi (e_var 1) T.n_isinstance T.n_tuple))
    (ss_cons (s_if (PW.pt (w_or (t_not (t_val (e_isi (e_var 0) T.n_isinstance T.n_tuple))) (w_or1 (t_cmp (or_ne (hu64 hr)) (e_callB1 cr_len T.n_len (e_var 0)) (e_callB1 cr_len T.n_len (e_var 1))))))
    (ss_one (s_ret e_bl))
    ss_nil)
    (ss_cons (s_for hp (i_rg1 (e_callB1 cr_len T.n_len (e_var 1)) T.n_range) (g_name 2 sc__law_same.nd)
    (ss_one (s_if (t_not (t_val (e_call IH (hr.mono (by first | decide | omega)) T.g__law_same T.k__law_same T.b__law_same tk (a_cons (e_ix (e_var 0) (e_var 2)) (a_cons (e_ix (e_var 1) (e_var 2)) a_nil)))))
    (ss_one (s_ret e_bl))
    ss_nil)))
    (ss_one (s_ret e_bl))))
    ss_nil)
    (ss_cons (s_if (t_isN (e_var 1))
    (ss_one (s_ret (e_isN (e_var 0))))
    ss_nil)
    (ss_cons (s_if (t_val (e_isi (e_var 1) T.n_isinstance T.n_str))
    (ss_one (s_ret (e_and (e_isi (e_var 0) T.n_isinstance T.n_str) (e_one (e_cmp (or_eq (hu64 hr)) (e_var 0) (e_var 1))))))
    ss_nil)
    (ss_one (s_ret (e_and (e_isi (e_var 0) T.n_isinstance T.n_int) (e_and (e_not (e_isi (e_var 0) T.n_isinstance T.n_bool)) (e_one (e_cmp (or_eq (hu64 hr)) (e_var 0) (e_var 1)))))))))))
theorem ok_H__law_same (T : Tx P K mg) : ∀ (a dx : Addr) (cls : Value), FnQ P w K mg base (L2.CX P w) 1 T.a__law_same T.d__law_same [("_law_actual" : Str), ("_law_due" : Str)] (spM (withX T.S a dx cls) 2 mH__law_same) :=
  fun a dx cls => def_okQ (k := 0) (fb := mbH__law_same) T.F__law_same sc__law_same rfl rfl rfl (fun cdv A outer s H E hr =>
    (ss_cons (s_if (t_val (e_isi (e_var 1) T.n_isinstance T.n_tuple))
    (ss_cons (s_if (PW.pt (w_or (t_not (t_val (e_isi (e_var 0) T.n_isinstance T.n_tuple))) (w_or1 (t_cmp (or_ne (hu64Q hr)) (e_callB1 cr_len T.n_len (e_var 0)) (e_callB1 cr_len T.n_len (e_var 1))))))
    (ss_one (s_ret e_bl))
    ss_nil)
    (ss_cons s_bad
    (ss_one (s_ret e_bl))))
    ss_nil)
    (ss_cons (s_if (t_isN (e_var 1))
    (ss_one (s_ret (e_isN (e_var 0))))
    ss_nil)
    (ss_cons (s_if (t_val (e_isi (e_var 1) T.n_isinstance T.n_str))
    (ss_one (s_ret (e_and (e_isi (e_var 0) T.n_isinstance T.n_str) (e_one (e_cmp (or_eq (hu64Q hr)) (e_var 0) (e_var 1))))))
    ss_nil)
    (ss_one (s_ret (e_and (e_isi (e_var 0) T.n_isinstance T.n_int) (e_and (e_not (e_isi (e_var 0) T.n_isinstance T.n_bool)) (e_one (e_cmp (or_eq (hu64Q hr)) (e_var 0) (e_var 1)))))))))))
theorem sc__law_lanes : FnScope [("_law_pool_here" : Str), ("_law_names_here" : Str), ("_law_channels" : Str), ("_law_rules" : Str), ("_law_c" : Str), ("_law_at" : Str), ("_law_kind" : Str), ("_law_tokens" : Str), ("_law_token" : Str)] [("_law_pool_here" : Str)] (defScope s__law_lanes) := ⟨rfl, rfl, rfl, by decide +kernel, rfl, by decide +kernel, by decide +kernel⟩
theorem ok__law_lanes (T : Tx P K mg) : FnOk P w K mg base (L2.CX P w) 4 T.a__law_lanes T.d__law_lanes [("_law_pool_here" : Str)] (spM T.S 1 m__law_lanes) :=
  def_ok2 (k := 3) rfl true (fb := mb__law_lanes) T.F__law_lanes sc__law_lanes rfl rfl rfl (fun cdv A outer s H E hr tk hp =>
    (ss_cons (s_set 1 (e_call (ok__law_names T) (hr.mono (by first | decide | omega)) T.g__law_names T.k__law_names T.b__law_names tk (a_cons (e_var 0) (a_cons e_int a_nil))) sc__law_lanes.nd)
    (ss_cons (s_set 2 (e_lst true a_nil) sc__law_lanes.nd)
    (ss_cons (s_set 3 (e_lst true a_nil) sc__law_lanes.nd)
    (ss_cons (s_for hp (i_rg1 (e_bin (or_add false) e_int (e_call (ok__law_take T) (hr.mono (by first | decide | omega)) T.g__law_take T.k__law_take T.b__law_take tk (a_cons (e_var 0) (a_cons e_int a_nil)))) T.n_range) (g_name 4 sc__law_lanes.nd)
    (ss_cons (s_set 6 (e_ix (e_lst false (a_cons e_str (a_cons e_str (a_cons e_str (a_cons e_str a_nil))))) (e_call (ok__law_take T) (hr.mono (by first | decide | omega)) T.g__law_take T.k__law_take T.b__law_take tk (a_cons (e_var 0) (a_cons e_int a_nil)))) sc__law_lanes.nd)
    (ss_cons (s_expr (e_append (e_var 2) (e_tup (a_cons (e_ix (e_var 1) (e_bin (or_add false) e_int (e_var 4))) (a_cons e_int (a_cons e_int (a_cons (e_var 6) a_nil)))))))
    (ss_cons (s_set 7 (e_lst false (a_cons (e_call (ok__law_take T) (hr.mono (by first | decide | omega)) T.g__law_take T.k__law_take T.b__law_take tk (a_cons (e_var 0) (a_cons e_int a_nil))) (a_cons (e_call (ok__law_take T) (hr.mono (by first | decide | omega)) T.g__law_take T.k__law_take T.b__law_take tk (a_cons (e_var 0) (a_cons e_int a_nil))) a_nil))) sc__law_lanes.nd)
    (ss_one (s_for hp (i_seq (e_var 7)) (g_name 8 sc__law_lanes.nd)
    (ss_cons (s_expr (e_append (e_var 3) (e_tup (a_cons e_int (a_cons e_int (a_cons (e_tup (a_cons e_str (a_cons (e_var 4) (a_cons (e_var 8) a_nil)))) (a_cons e_int a_nil)))))))
    (ss_one (s_expr (e_append (e_var 3) (e_tup (a_cons e_int (a_cons e_int (a_cons (e_tup (a_cons e_str (a_cons (e_var 4) (a_cons (e_var 8) a_nil)))) (a_cons e_int a_nil)))))))))))))))
    (ss_cons (s_set 5 (e_call (ok__law_take T) (hr.mono (by first | decide | omega)) T.g__law_take T.k__law_take T.b__law_take tk (a_cons (e_var 0) (a_cons (e_callB1 cr_len T.n_len (e_var 3)) a_nil))) sc__law_lanes.nd)
    (ss_one (s_ret (e_dict (dd_cons dk_str (e_lst false (a_cons (e_tup (a_cons (e_ix (e_var 1) e_int) (a_cons e_int a_nil))) (a_cons (e_tup (a_cons (e_ix (e_var 1) e_int) (a_cons e_int a_nil))) a_nil))) (dd_cons dk_str (e_var 2) (dd_cons dk_str (e_bin (or_add false) (e_slice false (e_var 3) (o_some (e_var 5)) o_none) (e_slice false (e_var 3) o_none (o_some (e_var 5)))) dd_nil))))))))))))
theorem sc__law_refused : FnScope [("_law_made_here" : Str), ("_law_world" : Str), ("_law_deed" : Str), ("e" : Str)] [("_law_made_here" : Str), ("_law_world" : Str), ("_law_deed" : Str)] (defScope s__law_refused) := ⟨rfl, rfl, rfl, by decide +kernel, rfl, by decide +kernel, by decide +kernel⟩
theorem ok__law_refused (T : Tx P K mg) : FnOk P w K mg base (L2.CX P w) 10 T.a__law_refused T.d__law_refused [("_law_made_here" : Str), ("_law_world" : Str), ("_law_deed" : Str)] (spM T.S 3 m__law_refused) :=
  def_ok2 (k := 9) rfl false (fb := mb__law_refused) T.F__law_refused sc__law_refused rfl rfl rfl (fun cdv A outer s H E hr tk hp =>
    (ss_cons (s_tryAs (mt := mt_BadStep) 3 rfl rfl rfl sc__law_refused.nd ⟨rfl, by decide, Or.inl T.e_BadStep.gC⟩ tk (T.mtk_BadStep) (fun W1 pn xe tk1 hp1 => (ss_one (s_expr (e_call (ok_done T) (hr.mono (by first | decide | omega)) T.g_done T.k_done T.b_done tk1 (a_cons (e_var 0) (a_cons (e_var 1) (a_cons (e_var 2) a_nil)))))))
    (fun a dx oe cls pn z1 z2 => (ss_one (s_ret (e_callQ (ok_H__law_same T a dx cls) (roomQ_of (hr.mono (by first | decide | omega)) _) T.g__law_same T.k__law_same T.b__law_same takes0 (a_cons (e_at 3 T.x_BadStep T.e_BadStep.noN rfl rfl z1 z2 (e_var 3)) (a_cons e_int a_nil)))))))
    (ss_one (s_ret e_bl))))
theorem sc__law_agrees : FnScope [("_law_pool_here" : Str), ("_law_net" : Str), ("_law_made_here" : Str), ("_law_world" : Str), ("_law_told_here" : Str), ("_law_listed" : Str), ("_law_handed" : Str), ("_law_can" : Str), ("_law_deed" : Str), ("_law_turn" : Str), ("_law_row" : Str), ("_law_pair" : Str)] [("_law_pool_here" : Str), ("_law_net" : Str), ("_law_made_here" : Str), ("_law_world" : Str)] (defScope s__law_agrees) := ⟨rfl, rfl, rfl, by decide +kernel, rfl, by decide +kernel, by decide +kernel⟩
theorem ok__law_agrees (T : Tx P K mg) : FnOk P w K mg base (L2.CX P w) 11 T.a__law_agrees T.d__law_agrees [("_law_pool_here" : Str), ("_law_net" : Str), ("_law_made_here" : Str), ("_law_world" : Str)] (spM T.S 4 m__law_agrees) :=
  def_ok2 (k := 10) rfl false (fb := mb__law_agrees) T.F__law_agrees sc__law_agrees rfl rfl rfl (fun cdv A outer s H E hr tk hp =>
    (ss_cons (s_set 4 (e_call (ok__law_told T) (hr.mono (by first | decide | omega)) T.g__law_told T.k__law_told T.b__law_told tk (a_cons (e_var 3) a_nil)) sc__law_agrees.nd)
    (ss_cons (s_set 5 (e_lst false (a_cons (e_callT1 (cr_list false) T.n_list (e_ix (e_var 3) e_int)) (a_cons (e_callT1 (cr_list false) T.n_list (e_ix (e_var 3) e_int)) (a_cons (e_comp (own := [(("_law_row" : Str), 10)]) false (.nm 10) sc__law_agrees.nd (i_seq (e_ix (e_var 3) e_int)) (blkOk_by (N := [("_law_pool_here" : Str), ("_law_net" : Str), ("_law_made_here" : Str), ("_law_world" : Str), ("_law_told_here" : Str), ("_law_listed" : Str), ("_law_handed" : Str), ("_law_can" : Str), ("_law_deed" : Str), ("_law_turn" : Str), ("_law_row" : Str), ("_law_pair" : Str)]) (sc := defScope s__law_agrees) (by decide +kernel)) (fun _ _ _ _ _ => tg_nm 10 sc__law_agrees.nd) (fun _ _ _ _ _ => ts_nil) (fun _ _ _ _ _ => (e_comp (own := [(("_law_pair" : Str), 11)]) false (.nm 11) sc__law_agrees.nd (i_seq (e_var 10)) (blk_relabel (blkOk_by (N := [("_law_pool_here" : Str), ("_law_net" : Str), ("_law_made_here" : Str), ("_law_world" : Str), ("_law_told_here" : Str), ("_law_listed" : Str), ("_law_handed" : Str), ("_law_can" : Str), ("_law_deed" : Str), ("_law_turn" : Str), ("_law_row" : Str), ("_law_pair" : Str)]) (by decide +kernel))) (fun _ _ _ _ _ => tg_nm 11 sc__law_agrees.nd) (fun _ _ _ _ _ => ts_nil) (fun _ _ _ _ _ => (e_callT1 (cr_list false) T.n_list (e_var 11)))))) a_nil)))) sc__law_agrees.nd)
    (ss_cons (s_for hp (i_seq (e_lst false (a_cons (e_var 4) (a_cons (e_var 5) a_nil)))) (g_name 6 sc__law_agrees.nd)
    (ss_one (s_if (t_not (t_val (e_call (ok__law_same T 8) (hr.mono (by first | decide | omega)) T.g__law_same T.k__law_same T.b__law_same tk (a_cons (e_call (ok_possible T) (hr.mono (by first | decide | omega)) T.g_possible T.k_possible T.b_possible tk (a_cons (e_var 2) (a_cons (e_var 6) a_nil))) (a_cons (e_callT1 cr_tuple T.n_tuple (e_call (ok__law_possible T) (hr.mono (by first | decide | omega)) T.g__law_possible T.k__law_possible T.b__law_possible tk (a_cons (e_var 1) (a_cons (e_var 3) a_nil)))) a_nil)))))
    (ss_one (s_ret e_bl))
    ss_nil)))
    (ss_cons (s_set 7 (e_call (ok__law_possible T) (hr.mono (by first | decide | omega)) T.g__law_possible T.k__law_possible T.b__law_possible tk (a_cons (e_var 1) (a_cons (e_var 3) a_nil))) sc__law_agrees.nd)
    (ss_cons (s_set 8 (e_ix (e_var 7) (e_call (ok__law_take T) (hr.mono (by first | decide | omega)) T.g__law_take T.k__law_take T.b__law_take tk (a_cons (e_var 0) (a_cons (e_callB1 cr_len T.n_len (e_var 7)) a_nil)))) sc__law_agrees.nd)
    (ss_cons (s_if (t_not (t_val (e_call (ok__law_same T 8) (hr.mono (by first | decide | omega)) T.g__law_same T.k__law_same T.b__law_same tk (a_cons (e_callK [0, 1, 2] (ok_done T) (hr.mono (by first | decide | omega)) T.g_done T.k_done (kb_done_0_1_2 T) tk (k_cons (e_var 2) (k_cons (e_var 5) (k_cons (e_callT1 (cr_list false) T.n_list (e_var 8)) k_nil)))) (a_cons (e_call (ok__law_told T) (hr.mono (by first | decide | omega)) T.g__law_told T.k__law_told T.b__law_told tk (a_cons (e_call (ok__law_done T) (hr.mono (by first | decide | omega)) T.g__law_done T.k__law_done T.b__law_done tk (a_cons (e_var 1) (a_cons (e_var 3) (a_cons (e_var 8) a_nil)))) a_nil)) a_nil)))))
    (ss_one (s_ret e_bl))
    ss_nil)
    (ss_cons (s_for hp (i_rg1 e_int T.n_range) (g_name 9 sc__law_agrees.nd)
    (ss_one (s_if (t_not (t_val (e_call (ok__law_refused T) (hr.mono (by first | decide | omega)) T.g__law_refused T.k__law_refused T.b__law_refused tk (a_cons (e_var 2) (a_cons (e_var 4) (a_cons (e_call (ok__law_near T) (hr.mono (by first | decide | omega)) T.g__law_near T.k__law_near T.b__law_near tk (a_cons (e_var 0) (a_cons (e_var 1) (a_cons (e_var 3) a_nil)))) a_nil))))))
    (ss_one (s_ret e_bl))
    ss_nil)))
    (ss_one (s_ret e_bl))))))))))
theorem sc_law : FnScope [("_law_script" : Str), ("_law_pool_here" : Str), ("_law_net" : Str), ("_law_made_here" : Str), ("_law_world" : Str), ("_law_sends" : Str), ("_law_k" : Str), ("_law_options" : Str), ("_law_deed" : Str), ("_law_after" : Str)] [("_law_script" : Str)] (defScope s_law) := ⟨rfl, rfl, rfl, by decide +kernel, rfl, by decide +kernel, by decide +kernel⟩
theorem ok_law (T : Tx P K mg) : FnOk P w K mg base (L2.CX P w) 14 T.a_law T.d_law [("_law_script" : Str)] (spM T.S 1 m_law) :=
  def_ok2 (k := 13) rfl false (fb := mb_law) T.F_law sc_law rfl rfl rfl (fun cdv A outer s H E hr tk hp =>
    (ss_cons (s_set 1 (e_call (ok__law_pool T) (hr.mono (by first | decide | omega)) T.g__law_pool T.k__law_pool T.b__law_pool tk (a_cons (e_var 0) a_nil)) sc_law.nd)
    (ss_cons (s_set 2 (e_call (ok__law_lanes T) (hr.mono (by first | decide | omega)) T.g__law_lanes T.k__law_lanes T.b__law_lanes tk (a_cons (e_var 1) a_nil)) sc_law.nd)
    (ss_cons (s_set 3 (e_call (ok__law_made T) (hr.mono (by first | decide | omega)) T.g__law_made T.k__law_made T.b__law_made tk (a_cons (e_var 1) (a_cons (e_var 2) a_nil))) sc_law.nd)
    (ss_cons (s_set 4 (e_call (ok__law_start T) (hr.mono (by first | decide | omega)) T.g__law_start T.k__law_start T.b__law_start tk (a_cons (e_var 2) a_nil)) sc_law.nd)
    (ss_cons (s_if (t_not (t_val (e_call (ok__law_same T 8) (hr.mono (by first | decide | omega)) T.g__law_same T.k__law_same T.b__law_same tk (a_cons (e_call (ok_start T) (hr.mono (by first | decide | omega)) T.g_start T.k_start T.b_start tk (a_cons (e_var 3) a_nil)) (a_cons (e_call (ok__law_told T) (hr.mono (by first | decide | omega)) T.g__law_told T.k__law_told T.b__law_told tk (a_cons (e_var 4) a_nil)) a_nil)))))
    (ss_one (s_ret e_bl))
    ss_nil)
    (ss_cons (s_set 5 (e_call (ok__law_take T) (hr.mono (by first | decide | omega)) T.g__law_take T.k__law_take T.b__law_take tk (a_cons (e_var 1) (a_cons e_int a_nil))) sc_law.nd)
    (ss_cons (s_for hp (i_rg1 (e_bin (or_add false) (e_var 5) (e_call (ok__law_take T) (hr.mono (by first | decide | omega)) T.g__law_take T.k__law_take T.b__law_take tk (a_cons (e_var 1) (a_cons e_int a_nil)))) T.n_range) (g_name 6 sc_law.nd)
    (ss_cons (s_set 7 (e_call (ok__law_possible T) (hr.mono (by first | decide | omega)) T.g__law_possible T.k__law_possible T.b__law_possible tk (a_cons (e_var 2) (a_cons (e_var 4) a_nil))) sc_law.nd)
    (ss_cons (s_if (t_cmp or_lt (e_var 6) (e_var 5))
    (ss_one (s_comp (own := [(("_law_deed" : Str), 8)]) 7 false (.nm 8) sc_law.nd (i_seq (e_var 7)) (blkOk_by (N := [("_law_script" : Str), ("_law_pool_here" : Str), ("_law_net" : Str), ("_law_made_here" : Str), ("_law_world" : Str), ("_law_sends" : Str), ("_law_k" : Str), ("_law_options" : Str), ("_law_deed" : Str), ("_law_after" : Str)]) (sc := defScope s_law) (by decide +kernel)) (fun _ _ _ _ _ => tg_nm 8 sc_law.nd) (fun _ _ _ _ _ => (ts_one (t_cmp (or_eq (hu64 hr)) (e_ix (e_var 8) e_int) e_str))) (fun _ _ _ _ _ => (e_var 8))))
    ss_nil)
    (ss_cons (s_set 8 (e_ix (e_var 7) (e_call (ok__law_take T) (hr.mono (by first | decide | omega)) T.g__law_take T.k__law_take T.b__law_take tk (a_cons (e_var 1) (a_cons (e_callB1 cr_len T.n_len (e_var 7)) a_nil)))) sc_law.nd)
    (ss_cons (s_set 9 (e_call (ok__law_done T) (hr.mono (by first | decide | omega)) T.g__law_done T.k__law_done T.b__law_done tk (a_cons (e_var 2) (a_cons (e_var 4) (a_cons (e_var 8) a_nil)))) sc_law.nd)
    (ss_cons (s_if (t_not (t_val (e_call (ok__law_same T 8) (hr.mono (by first | decide | omega)) T.g__law_same T.k__law_same T.b__law_same tk (a_cons (e_call (ok_done T) (hr.mono (by first | decide | omega)) T.g_done T.k_done T.b_done tk (a_cons (e_var 3) (a_cons (e_call (ok__law_told T) (hr.mono (by first | decide | omega)) T.g__law_told T.k__law_told T.b__law_told tk (a_cons (e_var 4) a_nil)) (a_cons (e_var 8) a_nil)))) (a_cons (e_call (ok__law_told T) (hr.mono (by first | decide | omega)) T.g__law_told T.k__law_told T.b__law_told tk (a_cons (e_var 9) a_nil)) a_nil)))))
    (ss_one (s_ret e_bl))
    ss_nil)
    (ss_cons (s_set 4 (e_var 9) sc_law.nd)
    (ss_one (s_if (PW.pt (w_and (t_cmp or_ge (e_var 6) (e_bin or_sub (e_var 5) e_int)) (w_and1 (t_not (t_val (e_call (ok__law_agrees T) (hr.mono (by first | decide | omega)) T.g__law_agrees T.k__law_agrees T.b__law_agrees tk (a_cons (e_var 1) (a_cons (e_var 2) (a_cons (e_var 3) (a_cons (e_var 4) a_nil))))))))))
    (ss_one (s_ret e_bl))
    ss_nil)))))))))
    (ss_one (s_ret (e_call (ok__law_agrees T) (hr.mono (by first | decide | omega)) T.g__law_agrees T.k__law_agrees T.b__law_agrees tk (a_cons (e_var 1) (a_cons (e_var 2) (a_cons (e_var 3) (a_cons (e_var 4) a_nil)))))))))))))))
end

end K
namespace K
open PySem Cw
/-- an int, no bool -/
def isInt : D → Bool
  | .int _ => true
  | _ => false
/-- data alone -/
def dt : D → Bool
  | .scr _ => false
  | .obj _ _ _ => false
  | .ref _ => false
  | .exn _ _ => false
  | _ => true
theorem l_is_whole (d : D) (st : Sto) (h : dt d = true) : m_is_whole [d] st = .ok (.bl (isInt d)) st := by
  unfold m_is_whole
  refine run_pure ?_ rfl
  cases d <;> simp [dt] at h <;> simp [mb_is_whole, bodyR, sRet, sRetN, sSeq, sIf, sNil, sExpr, sSet, sRaise, mAnd, mOr, mNot, mIf, mAndT, mOrT, mNotT, mT, mIsN, mChain, m1, mVar, mC, mBin, mUn, mCallN, mCons, mNil, mTup, mSlice, mPart, mNoP, oIsi, oIsi2, tyOf, oLen, oInt, oLe, oLt, oGt, oGe, oCmp, oIx, oSub, oFdiv, oMod, oEq, eqD, oSl, pu, Res.bind, Res.toS, lift, subT, mYes, isInt]
theorem l_is_whole1 (i : Int) (st : Sto) : m_is_whole [.int i] st = .ok (.bl true) st := l_is_whole _ _ rfl
theorem l_is_below (i n : Int) (st : Sto) : m_is_below [.int i, .int n] st = .ok (.bl (decide (0 ≤ i ∧ i < n))) st := by
  unfold m_is_below
  refine run_pure ?_ rfl
  by_cases h1 : 0 ≤ i <;> simp [mb_is_below, bodyR, sRet, sRetN, sSeq, sIf, sNil, sExpr, sSet, sRaise, mAnd, mOr, mNot, mIf, mAndT, mOrT, mNotT, mT, mIsN, mChain, m1, mVar, mC, mBin, mUn, mCallN, mCons, mNil, mTup, mSlice, mPart, mNoP, oIsi, oIsi2, tyOf, oLen, oInt, oLe, oLt, oGt, oGe, oCmp, oIx, oSub, oFdiv, oMod, oEq, eqD, oSl, pu, Res.bind, Res.toS, lift, subT, mYes, l_is_whole1, h1]
theorem l_is_below0 (d : D) (n : D) (st : Sto) (hd : dt d = true) (h : isInt d = false) : m_is_below [d, n] st = .ok (.bl false) st := by
  unfold m_is_below
  refine run_pure ?_ rfl
  simp [mb_is_below, bodyR, sRet, sRetN, sSeq, sIf, sNil, sExpr, sSet, sRaise, mAnd, mOr, mNot, mIf, mAndT, mOrT, mNotT, mT, mIsN, mChain, m1, mVar, mC, mBin, mUn, mCallN, mCons, mNil, mTup, mSlice, mPart, mNoP, oIsi, oIsi2, tyOf, oLen, oInt, oLe, oLt, oGt, oGe, oCmp, oIx, oSub, oFdiv, oMod, oEq, eqD, oSl, pu, Res.bind, Res.toS, lift, subT, mYes, l_is_whole d st hd, h]
def okName (x : Str) : Bool := decide (1 ≤ x.cps.size) && decide (x.cps.size ≤ 6) && x.cps.toList.all fun c => decide (c ∈ (("abcdefghijklmnopqrstuvwxyz" : Str)).cps)
theorem allBl {α : Type} (l : List α) (st : Sto) : oAll (.lst (l.map fun _ => D.bl true)) st = some (.bl true, st) := by
  have h : blsOf (l.map fun _ => D.bl true) = some (l.map fun _ => true) := by
    induction l with
    | nil => rfl
    | cons a l ih => simp [blsOf, ih]
  simp [oAll, seqR, seqW, h]
theorem l_is_name (x : Str) (st : Sto) (h : okName x = true) : m_is_name [.str x] st = .ok (.bl true) st := by
  unfold m_is_name
  refine run_pure ?_ rfl
  simp only [okName, Bool.and_eq_true, decide_eq_true_eq, List.all_eq_true] at h
  obtain ⟨⟨h1, h2⟩, h3⟩ := h
  have hc : mComp false (iSeq (mVar 0)) [1] (.nm 1) mYes (mBin (oIn false) (mVar 1) (mC (.str ("abcdefghijklmnopqrstuvwxyz" : Str)))) [some (.str x), none] st = .ok (.lst ((x.cps.toList.map fun c => D.str ⟨#[c]⟩).map fun _ => .bl true)) st := by
    refine mcomp_all (lock := []) (fun _ => .bl true) ?_ (fun _ => rfl) ?_ ?_ ?_
    · simp [iSeq, mVar, Res.bind, iterOf]
    · have : x.cps.toList.length ≤ 6 := by simpa using h2
      rw [List.length_map]
      show _ < 16777216
      omega
    · intro y hy
      obtain ⟨c, hc, rfl⟩ := List.mem_map.mp hy
      refine ⟨_, rfl, fun a => ?_⟩
      have := h3 c hc
      simp [mBin, mVar, mC, Res.bind, oIn, inD, lift, wipeE]
      exact this
    · rw [plL_iff]
      intro d hd
      obtain ⟨y, _, rfl⟩ := List.mem_map.mp hd
      rfl
  have e1 : (1 : Int) ≤ (x.length : Int) := by have : 1 ≤ x.length := h1; omega
  have e2 : (x.length : Int) ≤ 6 := by have : x.length ≤ 6 := h2; omega
  have e3 : x.length ≤ LIM := by
    have : x.length ≤ 6 := h2
    show _ ≤ 16777216
    omega
  simp [mb_is_name, bodyR, sRet, sRetN, sSeq, sIf, sNil, sExpr, sSet, sRaise, mAnd, mOr, mNot, mIf, mAndT, mOrT, mNotT, mT, mIsN, mChain, m1, mVar, mC, mBin, mUn, mCallN, mCons, mNil, mTup, mSlice, mPart, mNoP, oIsi, oIsi2, tyOf, oLen, oInt, oLe, oLt, oGt, oGe, oCmp, oIx, oSub, oFdiv, oMod, oEq, eqD, oSl, pu, Res.bind, Res.toS, lift, subT, mYes, hc, allBl, e1, e2, e3, -List.map_map]
/-! ### nets as data -/
def encP (p : Str × Nat) : D := .tup [.str p.1, .int p.2]
def kinds : List Str := ["order", "loose", "order lossy", "loose lossy"]
structure Chan where
  nm : Str
  giver : Nat
  taker : Nat
  kind : Nat
def encC (c : Chan) : D := .tup [.str c.nm, .int c.giver, .int c.taker, .str (kinds[c.kind]?.getD "order")]
inductive Act where
  | go
  | send (c t : Nat)
  | take (c t : Nat)
def encA : Act → D
  | .go => .tup [.str "do"]
  | .send c t => .tup [.str "send", .int c, .int t]
  | .take c t => .tup [.str "take", .int c, .int t]
structure Rule where
  p : Nat
  s : Nat
  a : Act
  s2 : Nat
def encR (r : Rule) : D := .tup [.int r.p, .int r.s, encA r.a, .int r.s2]
theorem eqv_t1 (x y : Str) : PyData.eqv (.tuple [.str y]) (.tuple [.str x]) = decide (y = x) := by
  rw [Bool.eq_iff_iff]
  simp [PyData.eqv, PyData.eqvAll]
theorem py_t1 (x : Str) : toPy (.tup [.str x]) = some (.tuple [.str x]) := by simp [toPy, toPyL]
theorem py_ts : ∀ xs : List Str, toPyL (xs.map fun y => D.tup [.str y]) = some (xs.map fun y => .tuple [.str y])
  | [] => by simp [toPyL]
  | x :: xs => by simp [toPyL, py_t1, py_ts xs]
def chars (x : Str) : Bool := PyData.canLay0 (.str x)
theorem lay_ts : ∀ xs : List Str, (∀ x ∈ xs, chars x = true) → PyData.canLayAll0 (xs.map fun y => PyData.tuple [.str y]) = true
  | [], _ => by simp [PyData.canLayAll0]
  | x :: xs, h => by
    have h1 := h x (List.mem_cons_self ..)
    have h2 := lay_ts xs fun y hy => h y (List.mem_cons_of_mem _ hy)
    unfold chars at h1
    simp only [List.map_cons, PyData.canLayAll0, h2, Bool.and_true]
    simp [PyData.canLay0, PyData.canLayAll0] at h1 ⊢
    exact h1
theorem dep_ts : ∀ xs : List Str, PyData.depthAll (xs.map fun y => PyData.tuple [.str y]) ≤ 1
  | [] => by simp [PyData.depthAll]
  | x :: xs => by
    have := dep_ts xs
    simp only [List.map_cons, PyData.depthAll, PyData.depth]
    omega
theorem inTup (st : Sto) (x : Str) (xs : List Str) (hx : chars x = true) (hs : ∀ y ∈ xs, chars y = true) : inD st (.tup [.str x]) (.lst (xs.map fun y => .tup [.str y])) = some (decide (x ∈ xs)) := by
  have e1 : pyOf st (.tup [.str x]) = some (.tuple [.str x]) := py_t1 x
  have e2 : pyOf st (.lst (xs.map fun y => .tup [.str y])) = some (.list (xs.map fun y => .tuple [.str y])) := by
    show toPy _ = _
    unfold toPy
    rw [py_ts]
  have s1 : SeqAt.shaped (.tuple [.str x]) = true := by
    unfold chars at hx
    simp [SeqAt.shaped, PyData.canLay0, PyData.canLayAll0, PyData.depth, PyData.depthAll] at hx ⊢
    exact hx
  have s2 : SeqAt.shaped (.list (xs.map fun y => .tuple [.str y])) = true := by
    have h1 := lay_ts xs hs
    have h2 := dep_ts xs
    unfold SeqAt.shaped
    rw [Bool.and_eq_true]
    refine ⟨by unfold PyData.canLay0; exact h1, decide_eq_true ?_⟩
    unfold PyData.depth
    omega
  have e3 : (xs.map fun y => PyData.tuple [.str y]).any (fun y => PyData.eqv y (.tuple [.str x])) = decide (x ∈ xs) := by
    rw [List.any_map]
    have : ((fun y => PyData.eqv y (.tuple [.str x])) ∘ fun y => PyData.tuple [.str y]) = fun y => decide (y = x) := funext fun y => eqv_t1 x y
    rw [this]
    by_cases h : x ∈ xs
    · rw [decide_eq_true h, List.any_eq_true]
      exact ⟨x, h, by simp⟩
    · rw [decide_eq_false h]
      simp only [List.any_eq_false, decide_eq_true_eq]
      exact fun y hy e => h (e ▸ hy)
  unfold inD
  simp [e1, e2, s1, s2, itemsPy, e3]
theorem l_is_process (x : Str) (s : Nat) (el : List (Str × Nat)) (st : Sto) (h : okName x = true) (h1 : 1 ≤ s) (h2 : s ≤ 8) (h3 : x ∉ el.map (·.1)) (hx : chars x = true) (hs : ∀ y ∈ el.map (·.1), chars y = true) (hl : el.length ≤ 100) : m_is_process [encP (x, s), .tup (el.map encP)] st = .ok (.bl true) st := by
  unfold m_is_process
  refine run_pure ?_ rfl
  have hc : mComp false (iSeq (mVar 1)) [2] (.nm 2) mYes (mSlice false (mVar 2) mNoP (mPart (mC (.int 1)))) [some (encP (x, s)), some (.tup (el.map encP)), none] st = .ok (.lst ((el.map encP).map fun d => match d with | .tup (a :: _) => .tup [a] | d => d)) st := by
    refine mcomp_all (lock := []) _ ?_ (fun _ => rfl) ?_ ?_ ?_
    · simp [iSeq, mVar, Res.bind, iterOf]
    · rw [List.length_map]
      show _ < 16777216
      omega
    · intro y hy
      obtain ⟨c, hc, rfl⟩ := List.mem_map.mp hy
      refine ⟨_, rfl, fun a => ?_⟩
      simp [bodyR, sRet, sRetN, sSeq, sIf, sNil, sExpr, sSet, sRaise, mAnd, mOr, mNot, mIf, mAndT, mOrT, mNotT, mT, mIsN, mChain, m1, mVar, mC, mBin, mUn, mCallN, mCons, mNil, mTup, mSlice, mPart, mNoP, oIsi, oIsi2, tyOf, oLen, oInt, oLe, oLt, oGt, oGe, oCmp, oIx, oSub, oFdiv, oMod, oEq, eqD, oSl, pu, Res.bind, Res.toS, lift, subT, mYes, wipeE, encP, cut_to1]
    · rw [plL_iff]
      intro d hd
      obtain ⟨y, hy, rfl⟩ := List.mem_map.mp hd
      obtain ⟨c, hc, rfl⟩ := List.mem_map.mp hy
      rfl
  have hin : inD st (.tup [.str x]) (.lst ((el.map encP).map fun d => match d with | .tup (a :: _) => .tup [a] | d => d)) = some false := by
    have e : ((el.map encP).map fun d => match d with | .tup (a :: _) => .tup [a] | d => d) = (el.map (·.1)).map fun y => D.tup [.str y] := by
      rw [List.map_map, List.map_map]
      rfl
    rw [e, inTup st x _ hx hs, decide_eq_false h3]
  have e1 : (1 : Int) ≤ (s : Int) := by omega
  have e2 : (s : Int) ≤ 8 := by omega
  simp only [encP] at hc ⊢
  simp [mb_is_process, bodyR, sRet, sRetN, sSeq, sIf, sNil, sExpr, sSet, sRaise, mAnd, mOr, mNot, mIf, mAndT, mOrT, mNotT, mT, mIsN, mChain, m1, mVar, mC, mBin, mUn, mCallN, mCons, mNil, mTup, mSlice, mPart, mNoP, oIsi, oIsi2, tyOf, oLen, oInt, oLe, oLt, oGt, oGe, oCmp, oIx, oSub, oFdiv, oMod, oEq, eqD, oSl, pu, Res.bind, Res.toS, lift, subT, mYes, hc, l_is_name x _ h, l_is_whole1, at0, at1, e1, e2, cut_to1, oIn, hin, -List.map_map]

def firsts (d : D) : D := match d with | .tup (a :: _) => .tup [a] | d => d
theorem comp_firsts {α : Type} (enc : α → D) (nm : α → Str) (i v : Nat) (el : List α) (env : En) (st : Sto) (he : ∀ a, ∃ r, enc a = .tup (.str (nm a) :: r)) (hv : env[i]? = some (some (.tup (el.map enc)))) (hw : v < env.length) (hl : el.length ≤ 100) :
    mComp false (iSeq (mVar i)) [v] (.nm v) mYes (mSlice false (mVar v) mNoP (mPart (mC (.int 1)))) env st = .ok (.lst ((el.map nm).map fun y => .tup [.str y])) st := by
  have e : (el.map nm).map (fun y => D.tup [.str y]) = (el.map enc).map firsts := by
    rw [List.map_map, List.map_map]
    refine List.map_congr_left fun a _ => ?_
    obtain ⟨r, q⟩ := he a
    simp [q, firsts]
  rw [e]
  refine mcomp_all (lock := []) firsts ?_ (fun _ => rfl) ?_ ?_ ?_
  · simp [iSeq, mVar, hv, Res.bind, iterOf]
  · rw [List.length_map]
    show _ < 16777216
    omega
  · intro y hy
    obtain ⟨c, hc, rfl⟩ := List.mem_map.mp hy
    obtain ⟨r, q⟩ := he c
    refine ⟨_, rfl, fun a => ?_⟩
    simp [bodyR, sRet, sRetN, sSeq, sIf, sNil, sExpr, sSet, sRaise, mAnd, mOr, mNot, mIf, mAndT, mOrT, mNotT, mT, mIsN, mChain, m1, mVar, mC, mBin, mUn, mCallN, mCons, mNil, mTup, mSlice, mPart, mNoP, oIsi, oIsi2, tyOf, oLen, oInt, oLe, oLt, oGt, oGe, oCmp, oIx, oSub, oFdiv, oMod, oEq, eqD, oSl, pu, Res.bind, Res.toS, lift, subT, mYes, wipeE, q, cut_to1, firsts, hw]
  · rw [← e, plL_iff]
    intro d hd
    obtain ⟨y, hy, rfl⟩ := List.mem_map.mp hd
    rfl
def kindOf (k : Nat) : Str := kinds[k]?.getD "order"
theorem py_ss : ∀ xs : List Str, toPyL (xs.map D.str) = some (xs.map PyData.str)
  | [] => by simp [toPyL]
  | x :: xs => by simp [toPyL, toPy, py_ss xs]
theorem lay_ss : ∀ xs : List Str, (∀ x ∈ xs, chars x = true) → PyData.canLayAll0 (xs.map PyData.str) = true
  | [], _ => by simp [PyData.canLayAll0]
  | x :: xs, h => by
    have h1 := h x (List.mem_cons_self ..)
    have h2 := lay_ss xs fun y hy => h y (List.mem_cons_of_mem _ hy)
    unfold chars at h1
    simp only [List.map_cons, PyData.canLayAll0, h2, Bool.and_true]
    exact h1
theorem dep_ss : ∀ xs : List Str, PyData.depthAll (xs.map PyData.str) = 0
  | [] => by simp [PyData.depthAll]
  | x :: xs => by
    have := dep_ss xs
    simp only [List.map_cons, PyData.depthAll, PyData.depth]
    omega
theorem in_strs (st : Sto) (x : Str) (xs : List Str) (hx : chars x = true) (hs : ∀ y ∈ xs, chars y = true) : inD st (.str x) (.tup (xs.map D.str)) = some (decide (x ∈ xs)) ∧ inD st (.str x) (.lst (xs.map D.str)) = some (decide (x ∈ xs)) := by
  have e1 : pyOf st (.str x) = some (.str x) := by show toPy _ = _; simp [toPy]
  have e2 : pyOf st (.lst (xs.map D.str)) = some (.list (xs.map PyData.str)) := by
    show toPy _ = _
    unfold toPy
    rw [py_ss]
  have e2' : pyOf st (.tup (xs.map D.str)) = some (.tuple (xs.map PyData.str)) := by
    show toPy _ = _
    unfold toPy
    rw [py_ss]
  have s1 : SeqAt.shaped (.str x) = true := by
    unfold chars at hx
    unfold SeqAt.shaped
    rw [hx]
    simp [PyData.depth]
  have s2 : SeqAt.shaped (.list (xs.map PyData.str)) = true := by
    have h1 := lay_ss xs hs
    have h2 := dep_ss xs
    unfold SeqAt.shaped
    rw [Bool.and_eq_true]
    refine ⟨by unfold PyData.canLay0; exact h1, decide_eq_true ?_⟩
    unfold PyData.depth
    omega
  have s2' : SeqAt.shaped (.tuple (xs.map PyData.str)) = true := by
    have h1 := lay_ss xs hs
    have h2 := dep_ss xs
    unfold SeqAt.shaped
    rw [Bool.and_eq_true]
    refine ⟨by unfold PyData.canLay0; exact h1, decide_eq_true ?_⟩
    unfold PyData.depth
    omega
  have e3 : (xs.map PyData.str).any (fun y => PyData.eqv y (.str x)) = decide (x ∈ xs) := by
    rw [List.any_map]
    have : ((fun y => PyData.eqv y (.str x)) ∘ PyData.str) = fun y => decide (y = x) := funext fun y => by
      rw [Bool.eq_iff_iff]
      simp [PyData.eqv]
    rw [this]
    by_cases h : x ∈ xs
    · rw [decide_eq_true h, List.any_eq_true]
      exact ⟨x, h, by simp⟩
    · rw [decide_eq_false h]
      simp only [List.any_eq_false, decide_eq_true_eq]
      exact fun y hy e => h (e ▸ hy)
  refine ⟨?_, ?_⟩
  · unfold inD
    simp [e1, e2', s1, s2', itemsPy, e3]
  · unfold inD
    simp [e1, e2, s1, s2, itemsPy, e3]
theorem in_kinds (st : Sto) (k : Nat) : inD st (.str (kindOf k)) (.tup g_KINDS) = some true := by
  have hk : kindOf k ∈ kinds := by
    unfold kindOf
    match k with
    | 0 => decide
    | 1 => decide
    | 2 => decide
    | 3 => decide
    | n + 4 =>
      have : kinds[n + 4]? = none := List.getElem?_eq_none (by simp [kinds])
      rw [this]
      decide
  have hc : ∀ y ∈ kinds, chars y = true := by decide +kernel
  have := (in_strs st (kindOf k) kinds (hc _ hk) hc).1
  rw [decide_eq_true hk] at this
  exact this
theorem l_is_channel (c : Chan) (ps : List (Str × Nat)) (el : List Chan) (st : Sto) (h : okName c.nm = true) (h1 : c.giver < ps.length) (h2 : c.taker < ps.length) (h12 : c.giver ≠ c.taker) (h3 : c.nm ∉ el.map (·.nm)) (hx : chars c.nm = true) (hs : ∀ y ∈ el.map (·.nm), chars y = true) (hl : el.length ≤ 100) :
    m_is_channel [encC c, .tup (ps.map encP), .tup (el.map encC)] st = .ok (.bl true) st := by
  unfold m_is_channel
  refine run_pure ?_ rfl
  have hc := comp_firsts encC (·.nm) 2 3 el [some (encC c), some (.tup (ps.map encP)), some (.tup (el.map encC)), none] st (fun a => ⟨_, rfl⟩) rfl (by simp) hl
  have hin := inTup st c.nm _ hx hs
  rw [decide_eq_false h3] at hin
  have e1 : (0 : Int) ≤ c.giver ∧ (c.giver : Int) < ps.length := by omega
  have e2 : (0 : Int) ≤ c.taker ∧ (c.taker : Int) < ps.length := by omega
  have e3 : ¬ (c.giver : Int) = c.taker := by omega
  have hk := in_kinds st c.kind
  unfold kindOf at hk
  simp only [encC] at hc ⊢
  simp [mb_is_channel, bodyR, sRet, sRetN, sSeq, sIf, sNil, sExpr, sSet, sRaise, mAnd, mOr, mNot, mIf, mAndT, mOrT, mNotT, mT, mIsN, mChain, m1, mVar, mC, mBin, mUn, mCallN, mCons, mNil, mTup, mSlice, mPart, mNoP, oIsi, oIsi2, tyOf, oLen, oInt, oLe, oLt, oGt, oGe, oCmp, oIx, oSub, oFdiv, oMod, oEq, eqD, oSl, pu, Res.bind, Res.toS, lift, subT, mYes, hc, l_is_name _ _ h, l_is_below, at0, at1, at2, at3, e1, e2, e3, cut_to1, oIn, hin, hk, -List.map_map]
def actOk (chs : List Chan) (p : Nat) : Act → Prop
  | .go => True
  | .send c t => (∃ ch, chs[c]? = some ch ∧ ch.giver = p) ∧ t < 10
  | .take c t => (∃ ch, chs[c]? = some ch ∧ ch.taker = p) ∧ t < 10
theorem in_st1 (st : Sto) : inD st (.str "send") (.tup [.str "send", .str "take"]) = some true := (in_strs st "send" ["send", "take"] (by decide +kernel) (by decide +kernel)).1
theorem in_st2 (st : Sto) : inD st (.str "take") (.tup [.str "send", .str "take"]) = some true := (in_strs st "take" ["send", "take"] (by decide +kernel) (by decide +kernel)).1
theorem l_is_act (a : Act) (p : Nat) (chs : List Chan) (st : Sto) (h : actOk chs p a) : m_is_act [encA a, .int p, .tup (chs.map encC)] st = .ok (.bl true) st := by
  unfold m_is_act
  refine run_pure ?_ rfl
  cases a with
  | go => simp [mb_is_act, bodyR, sRet, sRetN, sSeq, sIf, sNil, sExpr, sSet, sRaise, mAnd, mOr, mNot, mIf, mAndT, mOrT, mNotT, mT, mIsN, mChain, m1, mVar, mC, mBin, mUn, mCallN, mCons, mNil, mTup, mSlice, mPart, mNoP, oIsi, oIsi2, tyOf, oLen, oInt, oLe, oLt, oGt, oGe, oCmp, oIx, oSub, oFdiv, oMod, oEq, eqD, oSl, pu, Res.bind, Res.toS, lift, subT, mYes, encA, at0]
  | send c t =>
    obtain ⟨⟨ch, h1, h2⟩, h3⟩ := h
    have hc := (List.getElem?_eq_some_iff.mp h1).1
    have e1 : (0 : Int) ≤ c ∧ (c : Int) < chs.length := by omega
    have e2 : (t : Int) < 10 := by omega
    have e3 : L2.atI (chs.map encC) (c : Int) = some (encC ch) := by rw [at_nat, List.getElem?_map, h1]; rfl
    simp [mb_is_act, bodyR, sRet, sRetN, sSeq, sIf, sNil, sExpr, sSet, sRaise, mAnd, mOr, mNot, mIf, mAndT, mOrT, mNotT, mT, mIsN, mChain, m1, mVar, mC, mBin, mUn, mCallN, mCons, mNil, mTup, mSlice, mPart, mNoP, oIsi, oIsi2, tyOf, oLen, oInt, oLe, oLt, oGt, oGe, oCmp, oIx, oSub, oFdiv, oMod, oEq, eqD, oSl, pu, Res.bind, Res.toS, lift, subT, mYes, encA, at0, at1, at2, l_is_below, e1, e2, oIn, in_st1, LIM, e3, encC, h2, (by decide : ¬ (("send" : Str) = "do"))]
  | take c t =>
    obtain ⟨⟨ch, h1, h2⟩, h3⟩ := h
    have hc := (List.getElem?_eq_some_iff.mp h1).1
    have e1 : (0 : Int) ≤ c ∧ (c : Int) < chs.length := by omega
    have e2 : (t : Int) < 10 := by omega
    have e3 : L2.atI (chs.map encC) (c : Int) = some (encC ch) := by rw [at_nat, List.getElem?_map, h1]; rfl
    simp [mb_is_act, bodyR, sRet, sRetN, sSeq, sIf, sNil, sExpr, sSet, sRaise, mAnd, mOr, mNot, mIf, mAndT, mOrT, mNotT, mT, mIsN, mChain, m1, mVar, mC, mBin, mUn, mCallN, mCons, mNil, mTup, mSlice, mPart, mNoP, oIsi, oIsi2, tyOf, oLen, oInt, oLe, oLt, oGt, oGe, oCmp, oIx, oSub, oFdiv, oMod, oEq, eqD, oSl, pu, Res.bind, Res.toS, lift, subT, mYes, encA, at0, at1, at2, l_is_below, e1, e2, oIn, in_st2, LIM, e3, encC, h2, (by decide : ¬ (("take" : Str) = "do")), (by decide : ¬ (("take" : Str) = "send"))]
structure ruleOk (ps : List (Str × Nat)) (chs : List Chan) (r : Rule) : Prop where
  pr : ∃ p, ps[r.p]? = some p ∧ r.s < p.2 ∧ r.s2 < p.2
  act : actOk chs r.p r.a
theorem l_is_rule (r : Rule) (ps : List (Str × Nat)) (chs : List Chan) (st : Sto) (h : ruleOk ps chs r) : m_is_rule [encR r, .tup (ps.map encP), .tup (chs.map encC)] st = .ok (.bl true) st := by
  unfold m_is_rule
  refine run_pure ?_ rfl
  obtain ⟨⟨p, h1, h2, h3⟩, h4⟩ := h
  have hc := (List.getElem?_eq_some_iff.mp h1).1
  have e1 : (0 : Int) ≤ r.p ∧ (r.p : Int) < ps.length := by omega
  have e2 : (r.s : Int) < p.2 := by omega
  have e4 : (r.s2 : Int) < p.2 := by omega
  have e3 : L2.atI (ps.map encP) (r.p : Int) = some (encP p) := by rw [at_nat, List.getElem?_map, h1]; rfl
  have e5 := l_is_act r.a r.p chs st h4
  simp [mb_is_rule, bodyR, sRet, sRetN, sSeq, sIf, sNil, sExpr, sSet, sRaise, mAnd, mOr, mNot, mIf, mAndT, mOrT, mNotT, mT, mIsN, mChain, m1, mVar, mC, mBin, mUn, mCallN, mCons, mNil, mTup, mSlice, mPart, mNoP, oIsi, oIsi2, tyOf, oLen, oInt, oLe, oLt, oGt, oGe, oCmp, oIx, oSub, oFdiv, oMod, oEq, eqD, oSl, pu, Res.bind, Res.toS, lift, subT, mYes, encR, at0, at1, at2, at3, l_is_below, e1, e2, e3, e4, e5, encP]

/-! ### freezing -/
/-- tuples of data, no lists: what _frozen leaves as it is -/
theorem l_frozen0 (n : Nat) (d : D) (st : Sto) (hd : dt d = true) (hp : pl d = true) (hl : ∀ k, 0 < k → (match d with | .tup _ => false | .lst _ => false | _ => true) = true) : m__frozen (n + 1) [d, .int 0] st = .ok d st := by
  show runF false 3 (mb__frozen (m__frozen n)) [d, .int 0] st = _
  refine run_pure ?_ hp
  simp [mb__frozen, bodyR, sRet, sRetN, sSeq, sIf, sNil, sExpr, sSet, sRaise, mAnd, mOr, mNot, mIf, mAndT, mOrT, mNotT, mT, mIsN, mChain, m1, mVar, mC, mBin, mUn, mCallN, mCons, mNil, mTup, mSlice, mPart, mNoP, oIsi, oIsi2, tyOf, oLen, oInt, oLe, oLt, oGt, oGe, oCmp, oIx, oSub, oFdiv, oMod, oEq, eqD, oSl, pu, Res.bind, Res.toS, lift, subT, mYes]
/-- a frozen value's form -/
def fz : Nat → D → D
  | 0, d => d
  | k + 1, .tup ds => .tup (ds.map (fz k))
  | k + 1, .lst ds => .tup (ds.map (fz k))
  | _ + 1, d => d
/-- small data, k deep -/
def sm : Nat → D → Bool
  | 0, d => dt d && pl d
  | k + 1, .tup ds => decide (ds.length < 1000) && ds.all (sm k)
  | k + 1, .lst ds => decide (ds.length < 1000) && ds.all (sm k)
  | _ + 1, d => dt d && pl d
theorem pl_fz : ∀ (k : Nat) (d : D), sm k d = true → pl (fz k d) = true
  | 0, d, h => by simp [sm] at h; exact h.2
  | k + 1, d, h => by
    have go : ∀ ds : List D, ds.all (sm k) = true → plL (ds.map (fz k)) = true := fun ds h => by
      rw [plL_iff]
      intro y hy
      obtain ⟨x, hx, rfl⟩ := List.mem_map.mp hy
      exact pl_fz k x (List.all_eq_true.mp h x hx)
    cases d <;> simp [sm, fz, dt, pl] at h ⊢
    · exact go _ (by simpa using h.2)
    · exact go _ (by simpa using h.2)
theorem l_frozen : ∀ (k n : Nat) (d : D) (st : Sto), k < n → sm k d = true → m__frozen n [d, .int k] st = .ok (fz k d) st
  | 0, n + 1, d, st, _, h => by
    show runF false 3 (mb__frozen (m__frozen n)) [d, .int (0 : Nat)] st = _
    refine run_pure ?_ (pl_fz 0 d h)
    simp [mb__frozen, bodyR, sRet, sRetN, sSeq, sIf, sNil, sExpr, sSet, sRaise, mAnd, mOr, mNot, mIf, mAndT, mOrT, mNotT, mT, mIsN, mChain, m1, mVar, mC, mBin, mUn, mCallN, mCons, mNil, mTup, mSlice, mPart, mNoP, oIsi, oIsi2, tyOf, oLen, oInt, oLe, oLt, oGt, oGe, oCmp, oIx, oSub, oFdiv, oMod, oEq, eqD, oSl, pu, Res.bind, Res.toS, lift, subT, mYes, fz]
  | k + 1, n + 1, d, st, hn, h => by
    show runF false 3 (mb__frozen (m__frozen n)) [d, .int ((k + 1 : Nat) : Int)] st = _
    refine run_pure ?_ (pl_fz (k + 1) d h)
    have e0 : (0 : Int) < ((k + 1 : Nat) : Int) := by omega
    have e1 : ((k + 1 : Nat) : Int) - 1 = (k : Int) := by omega
    have go : ∀ ds : List D, (d = .tup ds ∨ d = .lst ds) → ds.length < 1000 → ds.all (sm k) = true → mComp false (iSeq (mVar 0)) [2] (.nm 2) mYes (mCallN 2 (m__frozen n) (mCons (mVar 2) (mCons (mBin oSub (mVar 1) (mC (.int 1))) mNil))) [some d, some (.int ((k + 1 : Nat) : Int)), none] st = .ok (.lst (ds.map (fz k))) st := fun ds hd hl ha => by
      refine mcomp_all (lock := []) (items := ds) (fz k) ?_ (fun _ => rfl) ?_ ?_ ?_
      · rcases hd with rfl | rfl <;> simp [iSeq, mVar, Res.bind, iterOf]
      · show _ < 16777216
        omega
      · intro y hy
        refine ⟨_, rfl, fun a => ?_⟩
        have := l_frozen k n y (st ++ [.lst a]) (by omega) (List.all_eq_true.mp ha y hy)
        simp only [mCallN, mCons, mVar, mBin, mC, mNil, oSub, pu, Res.bind, lift, wipeE]
        simp only [List.getElem?_set]
        simp
        exact this
      · rw [plL_iff]
        intro y hy
        obtain ⟨x, hx, rfl⟩ := List.mem_map.mp hy
        exact pl_fz k x (List.all_eq_true.mp ha x hx)
    show bodyR (mb__frozen (m__frozen n) [some d, some (.int ((k + 1 : Nat) : Int)), none] st) = _
    unfold mb__frozen
    generalize mComp false (iSeq (mVar 0)) [2] (.nm 2) mYes (mCallN 2 (m__frozen n) (mCons (mVar 2) (mCons (mBin oSub (mVar 1) (mC (.int 1))) mNil))) = C at go ⊢
    cases d with
    | tup ds =>
      simp only [sm, Bool.and_eq_true, decide_eq_true_eq] at h
      have := go ds (.inl rfl) h.1 h.2
      simp at this
      simp [bodyR, sRet, sRetN, sSeq, sIf, sNil, sExpr, sSet, sRaise, mAnd, mOr, mNot, mIf, mAndT, mOrT, mNotT, mT, mIsN, mChain, m1, mVar, mC, mBin, mUn, mCallN, mCons, mNil, mTup, mSlice, mPart, mNoP, oIsi, oIsi2, tyOf, oLen, oInt, oLe, oLt, oGt, oGe, oCmp, oIx, oSub, oFdiv, oMod, oEq, eqD, oSl, pu, Res.bind, Res.toS, lift, subT, mYes, this, e0, oTuple, seqR, seqW, fz]
    | lst ds =>
      simp only [sm, Bool.and_eq_true, decide_eq_true_eq] at h
      have := go ds (.inr rfl) h.1 h.2
      simp at this
      simp [bodyR, sRet, sRetN, sSeq, sIf, sNil, sExpr, sSet, sRaise, mAnd, mOr, mNot, mIf, mAndT, mOrT, mNotT, mT, mIsN, mChain, m1, mVar, mC, mBin, mUn, mCallN, mCons, mNil, mTup, mSlice, mPart, mNoP, oIsi, oIsi2, tyOf, oLen, oInt, oLe, oLt, oGt, oGe, oCmp, oIx, oSub, oFdiv, oMod, oEq, eqD, oSl, pu, Res.bind, Res.toS, lift, subT, mYes, this, e0, oTuple, seqR, seqW, fz]
    | scr _ => simp [sm, dt] at h
    | obj _ _ _ => simp [sm, dt] at h
    | ref _ => simp [sm, dt] at h
    | exn _ _ => simp [sm, dt] at h
    | _ => simp [bodyR, sRet, sRetN, sSeq, sIf, sNil, sExpr, sSet, sRaise, mAnd, mOr, mNot, mIf, mAndT, mOrT, mNotT, mT, mIsN, mChain, m1, mVar, mC, mBin, mUn, mCallN, mCons, mNil, mTup, mSlice, mPart, mNoP, oIsi, oIsi2, tyOf, oLen, oInt, oLe, oLt, oGt, oGe, oCmp, oIx, oSub, oFdiv, oMod, oEq, eqD, oSl, pu, Res.bind, Res.toS, lift, subT, mYes, e0, fz]

/-- tuples alone -/
def tpl : Nat → D → Bool
  | 0, _ => true
  | k + 1, .tup ds => ds.all (tpl k)
  | _ + 1, .lst _ => false
  | _ + 1, _ => true
theorem fz_id : ∀ (k : Nat) (d : D), tpl k d = true → fz k d = d
  | 0, d, _ => rfl
  | k + 1, d, h => by
    cases d <;> simp [tpl, fz] at h ⊢
    rename_i ds
    have : ds.map (fz k) = ds.map id := List.map_congr_left fun x hx => fz_id k x (h x hx)
    simpa using this
def isTup : D → Bool
  | .tup _ => true
  | _ => false
theorem l_rows (d : D) (rs : List D) (lo hi : Nat) (st : Sto) (h : sm 3 d = true) (hf : fz 3 d = .tup rs) (ht : ∀ r ∈ rs, isTup r = true) (h1 : lo ≤ rs.length) (h2 : rs.length ≤ hi) (h3 : rs.length < 1000) : m__rows [d, .int lo, .int hi] st = .ok (.tup rs) st := by
  have hp := pl_fz 3 d h
  rw [hf] at hp
  unfold m__rows
  refine run_pure ?_ hp
  have hfz := l_frozen 3 8 d st (by omega) h
  rw [hf] at hfz
  have hc : mComp false (iSeq (mVar 3)) [4] (.nm 4) mYes (m1 (oIsi "tuple") (mVar 4)) [some d, some (.int lo), some (.int hi), some (.tup rs), none] st = .ok (.lst (rs.map fun _ => .bl true)) st := by
    refine mcomp_all (lock := []) (items := rs) (fun _ => .bl true) ?_ (fun _ => rfl) ?_ ?_ ?_
    · simp [iSeq, mVar, Res.bind, iterOf]
    · show _ < 16777216
      omega
    · intro y hy
      refine ⟨_, rfl, fun a => ?_⟩
      have := ht y hy
      cases y <;> simp [isTup] at this
      simp [bodyR, sRet, sRetN, sSeq, sIf, sNil, sExpr, sSet, sRaise, mAnd, mOr, mNot, mIf, mAndT, mOrT, mNotT, mT, mIsN, mChain, m1, mVar, mC, mBin, mUn, mCallN, mCons, mNil, mTup, mSlice, mPart, mNoP, oIsi, oIsi2, tyOf, oLen, oInt, oLe, oLt, oGt, oGe, oCmp, oIx, oSub, oFdiv, oMod, oEq, eqD, oSl, pu, Res.bind, Res.toS, lift, subT, mYes, wipeE]
    · rw [plL_iff]
      intro y hy
      obtain ⟨x, hx, rfl⟩ := List.mem_map.mp hy
      rfl
  show bodyR (mb__rows [some d, some (.int lo), some (.int hi), none, none] st) = _
  unfold mb__rows
  generalize mComp false (iSeq (mVar 3)) [4] (.nm 4) mYes (m1 (oIsi "tuple") (mVar 4)) = C at hc ⊢
  have e1 : (lo : Int) ≤ rs.length := by omega
  have e2 : (rs.length : Int) ≤ hi := by omega
  have hfz' : m__frozen 8 [d, .int 3] st = .ok (.tup rs) st := hfz
  simp [bodyR, sRet, sRetN, sSeq, sIf, sNil, sExpr, sSet, sRaise, mAnd, mOr, mNot, mIf, mAndT, mOrT, mNotT, mT, mIsN, mChain, m1, mVar, mC, mBin, mUn, mCallN, mCons, mNil, mTup, mSlice, mPart, mNoP, oIsi, oIsi2, tyOf, oLen, oInt, oLe, oLt, oGt, oGe, oCmp, oIx, oSub, oFdiv, oMod, oEq, eqD, oSl, pu, Res.bind, Res.toS, lift, subT, mYes, hfz', hc, e1, e2, allBl]

structure Net where
  ps : List (Str × Nat)
  cs : List Chan
  rs : List Rule
structure NetOk (N : Net) : Prop where
  p1 : 1 ≤ N.ps.length
  p5 : N.ps.length ≤ 5
  pn : ∀ p ∈ N.ps, okName p.1 = true ∧ chars p.1 = true ∧ 1 ≤ p.2 ∧ p.2 ≤ 8
  pd : (N.ps.map (·.1)).Nodup
  c8 : N.cs.length ≤ 8
  cn : ∀ c ∈ N.cs, okName c.nm = true ∧ chars c.nm = true ∧ c.giver < N.ps.length ∧ c.taker < N.ps.length ∧ c.giver ≠ c.taker
  cd : (N.cs.map (·.nm)).Nodup
  r40 : N.rs.length ≤ 40
  rn : ∀ r ∈ N.rs, ruleOk N.ps N.cs r
def tP (N : Net) : D := .tup (N.ps.map encP)
def tC (N : Net) : D := .tup (N.cs.map encC)
def tR (N : Net) : D := .tup (N.rs.map encR)
/-- the net as the program keeps it -/
def netD (N : Net) : D := .obj 100 [3, 4, 5] [tP N, tC N, tR N]
theorem sm_P (N : Net) (h : NetOk N) : sm 3 (tP N) = true ∧ tpl 3 (tP N) = true ∧ pl (tP N) = true := by
  have := h.p5
  refine ⟨?_, ?_, ?_⟩
  · simp only [tP, sm, Bool.and_eq_true, decide_eq_true_eq, List.all_eq_true, List.length_map]
    refine ⟨by omega, fun d hd => ?_⟩
    obtain ⟨p, _, rfl⟩ := List.mem_map.mp hd
    simp [encP, sm, dt, pl]
  · simp [tP, tpl, encP]
  · simp only [tP, pl, plL_iff]
    intro d hd
    obtain ⟨p, _, rfl⟩ := List.mem_map.mp hd
    rfl
theorem sm_C (N : Net) (h : NetOk N) : sm 3 (tC N) = true ∧ tpl 3 (tC N) = true ∧ pl (tC N) = true := by
  have := h.c8
  refine ⟨?_, ?_, ?_⟩
  · simp only [tC, sm, Bool.and_eq_true, decide_eq_true_eq, List.all_eq_true, List.length_map]
    refine ⟨by omega, fun d hd => ?_⟩
    obtain ⟨p, _, rfl⟩ := List.mem_map.mp hd
    simp [encC, sm, dt, pl]
  · simp [tC, tpl, encC]
  · simp only [tC, pl, plL_iff]
    intro d hd
    obtain ⟨p, _, rfl⟩ := List.mem_map.mp hd
    rfl
theorem sm_R (N : Net) (h : NetOk N) : sm 3 (tR N) = true ∧ tpl 3 (tR N) = true ∧ pl (tR N) = true := by
  have := h.r40
  refine ⟨?_, ?_, ?_⟩
  · simp only [tR, sm, Bool.and_eq_true, decide_eq_true_eq, List.all_eq_true, List.length_map]
    refine ⟨by omega, fun d hd => ?_⟩
    obtain ⟨p, _, rfl⟩ := List.mem_map.mp hd
    cases p with
    | mk p s a s2 => cases a <;> simp [encR, encA, sm, dt, pl]
  · simp only [tR, tpl, List.all_eq_true]
    intro d hd
    obtain ⟨p, _, rfl⟩ := List.mem_map.mp hd
    cases p with
    | mk p s a s2 => cases a <;> simp [encR, encA, tpl]
  · simp only [tR, pl, plL_iff]
    intro d hd
    obtain ⟨p, _, rfl⟩ := List.mem_map.mp hd
    cases p with
    | mk p s a s2 => cases a <;> simp [encR, encA, pl, plL]
theorem nodup_take {α β : Type} {f : α → β} {l : List α} {k : Nat} {x : α} (h : (l.map f).Nodup) (e : l[k]? = some x) : f x ∉ (l.take k).map f := fun hm => by
  obtain ⟨y, hy, q⟩ := List.mem_map.mp hm
  obtain ⟨j, hj, e2⟩ := List.mem_iff_getElem.mp hy
  have hj' : j < k := by
    have := hj
    rw [List.length_take] at this
    omega
  have hk := (List.getElem?_eq_some_iff.mp e).1
  rw [List.getElem_take] at e2
  have e3 : (l.map f)[j]? = (l.map f)[k]? := by
    rw [List.getElem?_map, List.getElem?_map, e, List.getElem?_eq_getElem (by omega : j < l.length), e2]
    simp [q]
  have := (List.getElem?_inj (by rw [List.length_map]; omega) h).mp e3
  omega
theorem enum_mem {ds : List D} {d : D} (h : d ∈ enumD ds) : ∃ k y, ds[k]? = some y ∧ d = .tup [.int (k : Nat), y] := by
  obtain ⟨k, hk, e⟩ := List.mem_iff_getElem.mp h
  obtain ⟨y, h1, h2⟩ := enumD_get (List.getElem?_eq_some_iff.mpr ⟨hk, e⟩)
  exact ⟨k, y, h1, h2⟩
/-- the second of the three -/
theorem oall_enum {env : En} {st : Sto} {ds : List D} {i a b : Nat} {fe : EM D} (hv : env[i]? = some (some (.tup ds))) (hl : ds.length < 1000) (h : ∀ k y, ds[k]? = some y → ∀ s', fe (setAll (wipeE env [a, b]) [a, b] [.int (k : Nat), y]) s' = .ok (.bl true) s') :
    mComp false (iEn (mVar i)) [a, b] (.tp [a, b]) mYes fe env st = .ok (.lst ((enumD ds).map fun _ => .bl true)) st := by
  refine mcomp_all (lock := []) (items := enumD ds) (fun _ => .bl true) ?_ (fun _ => rfl) ?_ ?_ ?_
  · simp [iEn, mVar, hv, Res.bind, enOf]
  · rw [enumD_len]
    show _ < 16777216
    omega
  · intro y hy
    obtain ⟨k, y, e, rfl⟩ := enum_mem hy
    exact ⟨_, rfl, fun s' => h k y e _⟩
  · rw [plL_iff]
    intro y hy
    obtain ⟨x, hx, rfl⟩ := List.mem_map.mp hy
    rfl
theorem l_net_init (N : Net) (h : NetOk N) (st : Sto) (k : Nat) (hk : st[k]? = some (.ins 100 [] [])) : m_Net_init [.ref k, tP N, tC N, tR N] st = .ok .non (st.set k (.ins 100 [3, 4, 5] [tP N, tC N, tR N])) := by
  have hkl := (List.getElem?_eq_some_iff.mp hk).1
  obtain ⟨p1, p2, p3⟩ := sm_P N h
  obtain ⟨c1, c2, c3⟩ := sm_C N h
  obtain ⟨r1, r2, r3⟩ := sm_R N h
  have hp1 := h.p1
  have hp5 := h.p5
  have hc8 := h.c8
  have hr := h.r40
  have tups : ∀ {α : Type} (enc : α → D) (l : List α), (∀ a, isTup (enc a) = true) → ∀ r ∈ l.map enc, isTup r = true := fun enc l ha r hr => by
    obtain ⟨a, _, rfl⟩ := List.mem_map.mp hr
    exact ha a
  have w1 : ∀ s', m__rows [tP N, .int 1, .int 5] s' = .ok (tP N) s' := fun s' => l_rows (tP N) (N.ps.map encP) 1 5 s' p1 (fz_id 3 _ p2) (tups encP _ fun _ => rfl) (by simpa using hp1) (by simpa using hp5) (by simp; omega)
  have w2 : ∀ s', m__rows [tC N, .int 0, .int 8] s' = .ok (tC N) s' := fun s' => l_rows (tC N) (N.cs.map encC) 0 8 s' c1 (fz_id 3 _ c2) (tups encC _ fun _ => rfl) (by simp) (by simpa using hc8) (by simp; omega)
  have w3 : ∀ s', m__rows [tR N, .int 0, .int 40] s' = .ok (tR N) s' := fun s' => l_rows (tR N) (N.rs.map encR) 0 40 s' r1 (fz_id 3 _ r2) (tups encR _ fun _ => rfl) (by simp) (by simpa using hr) (by simp; omega)
  have q1 : ∀ s', mComp false (iEn (mVar 4)) [7, 8] (.tp [7, 8]) mYes (mCallN 2 m_is_process (mCons (mVar 8) (mCons (mSlice false (mVar 4) mNoP (mPart (mVar 7))) mNil))) [some (.ref k), some (tP N), some (tC N), some (tR N), some (tP N), none, none, none, none, none, none] s' = .ok (.lst ((enumD (N.ps.map encP)).map fun _ => .bl true)) s' := fun s' => by
    refine oall_enum rfl (by simp; omega) fun j y e s'' => ?_
    rw [List.getElem?_map] at e
    cases q : N.ps[j]? with
    | none => rw [q] at e; cases e
    | some p =>
      rw [q] at e
      cases e
      have hm := List.mem_of_getElem? q
      obtain ⟨n1, n2, n3, n4⟩ := h.pn p hm
      have := l_is_process p.1 p.2 (N.ps.take j) s'' n1 n3 n4 (nodup_take h.pd q) n2 (fun y hy => by
        obtain ⟨z, hz, rfl⟩ := List.mem_map.mp hy
        exact (h.pn z (List.mem_of_mem_take hz)).2.1) (by rw [List.length_take]; omega)
      simp [wipeE, setAll, bodyR, sRet, sRetN, sSeq, sIf, sNil, sExpr, sSet, sRaise, mAnd, mOr, mNot, mIf, mAndT, mOrT, mNotT, mT, mIsN, mChain, m1, mVar, mC, mBin, mUn, mCallN, mCons, mNil, mTup, mSlice, mPart, mNoP, oIsi, oIsi2, tyOf, oLen, oInt, oLe, oLt, oGt, oGe, oCmp, oIx, oSub, oFdiv, oMod, oEq, eqD, oSl, pu, Res.bind, Res.toS, lift, subT, mYes, tP, cut_to]
      rw [← List.map_take]
      exact this
  have q2 : ∀ s', mComp false (iEn (mVar 5)) [7, 9] (.tp [7, 9]) mYes (mCallN 3 m_is_channel (mCons (mVar 9) (mCons (mVar 4) (mCons (mSlice false (mVar 5) mNoP (mPart (mVar 7))) mNil)))) [some (.ref k), some (tP N), some (tC N), some (tR N), some (tP N), some (tC N), none, none, none, none, none] s' = .ok (.lst ((enumD (N.cs.map encC)).map fun _ => .bl true)) s' := fun s' => by
    refine oall_enum rfl (by simp; omega) fun j y e s'' => ?_
    rw [List.getElem?_map] at e
    cases q : N.cs[j]? with
    | none => rw [q] at e; cases e
    | some p =>
      rw [q] at e
      cases e
      have hm := List.mem_of_getElem? q
      obtain ⟨n1, n2, n3, n4, n5⟩ := h.cn p hm
      have := l_is_channel p N.ps (N.cs.take j) s'' n1 n3 n4 n5 (nodup_take h.cd q) n2 (fun y hy => by
        obtain ⟨z, hz, rfl⟩ := List.mem_map.mp hy
        exact (h.cn z (List.mem_of_mem_take hz)).2.1) (by rw [List.length_take]; omega)
      simp [wipeE, setAll, bodyR, sRet, sRetN, sSeq, sIf, sNil, sExpr, sSet, sRaise, mAnd, mOr, mNot, mIf, mAndT, mOrT, mNotT, mT, mIsN, mChain, m1, mVar, mC, mBin, mUn, mCallN, mCons, mNil, mTup, mSlice, mPart, mNoP, oIsi, oIsi2, tyOf, oLen, oInt, oLe, oLt, oGt, oGe, oCmp, oIx, oSub, oFdiv, oMod, oEq, eqD, oSl, pu, Res.bind, Res.toS, lift, subT, mYes, tP, tC, cut_to]
      rw [← List.map_take]
      exact this
  have q3 : ∀ s', mComp false (iSeq (mVar 6)) [10] (.nm 10) mYes (mCallN 3 m_is_rule (mCons (mVar 10) (mCons (mVar 4) (mCons (mVar 5) mNil)))) [some (.ref k), some (tP N), some (tC N), some (tR N), some (tP N), some (tC N), some (tR N), none, none, none, none] s' = .ok (.lst ((N.rs.map encR).map fun _ => .bl true)) s' := fun s' => by
    refine mcomp_all (lock := []) (items := N.rs.map encR) (fun _ => .bl true) ?_ (fun _ => rfl) ?_ ?_ ?_
    · simp [iSeq, mVar, Res.bind, iterOf, tR]
    · rw [List.length_map]
      show _ < 16777216
      omega
    · intro y hy
      obtain ⟨p, hp, rfl⟩ := List.mem_map.mp hy
      refine ⟨_, rfl, fun a => ?_⟩
      have := l_is_rule p N.ps N.cs (s' ++ [.lst a]) (h.rn p hp)
      simp [wipeE, bodyR, sRet, sRetN, sSeq, sIf, sNil, sExpr, sSet, sRaise, mAnd, mOr, mNot, mIf, mAndT, mOrT, mNotT, mT, mIsN, mChain, m1, mVar, mC, mBin, mUn, mCallN, mCons, mNil, mTup, mSlice, mPart, mNoP, oIsi, oIsi2, tyOf, oLen, oInt, oLe, oLt, oGt, oGe, oCmp, oIx, oSub, oFdiv, oMod, oEq, eqD, oSl, pu, Res.bind, Res.toS, lift, subT, mYes, tP, tC]
      exact this
    · rw [plL_iff]
      intro y hy
      obtain ⟨x, hx, rfl⟩ := List.mem_map.mp hy
      rfl
  unfold m_Net_init
  have hb : bodyR (mb_Net_init [some (.ref k), some (tP N), some (tC N), some (tR N), none, none, none, none, none, none, none] st) = .ok .non (st.set k (.ins 100 [3, 4, 5] [tP N, tC N, tR N])) := by
    unfold mb_Net_init
    generalize mComp false (iEn (mVar 4)) [7, 8] (.tp [7, 8]) mYes (mCallN 2 m_is_process (mCons (mVar 8) (mCons (mSlice false (mVar 4) mNoP (mPart (mVar 7))) mNil))) = C1 at q1 ⊢
    generalize mComp false (iEn (mVar 5)) [7, 9] (.tp [7, 9]) mYes (mCallN 3 m_is_channel (mCons (mVar 9) (mCons (mVar 4) (mCons (mSlice false (mVar 5) mNoP (mPart (mVar 7))) mNil)))) = C2 at q2 ⊢
    generalize mComp false (iSeq (mVar 6)) [10] (.nm 10) mYes (mCallN 3 m_is_rule (mCons (mVar 10) (mCons (mVar 4) (mCons (mVar 5) mNil)))) = C3 at q3 ⊢
    simp only [tP, tC, tR] at w1 w2 w3 q1 q2 q3 ⊢
    have hs : ∀ c : Cell, (st.set k c)[k]? = some c := fun c => List.getElem?_set_self hkl
    simp [bodyR, sRet, sRetN, sSeq, sIf, sNil, sExpr, sSet, sRaise, mAnd, mOr, mNot, mIf, mAndT, mOrT, mNotT, mT, mIsN, mChain, m1, mVar, mC, mBin, mUn, mCallN, mCons, mNil, mTup, mSlice, mPart, mNoP, oIsi, oIsi2, tyOf, oLen, oInt, oLe, oLt, oGt, oGe, oCmp, oIx, oSub, oFdiv, oMod, oEq, eqD, oSl, pu, Res.bind, Res.toS, lift, subT, mYes, sFld, w1, w2, w3, q1, q2, q3, allBl, hk, putA, hs, cls_all, List.set_set, -List.map_map]
  have hr2 : runF false 11 mb_Net_init [.ref k, tP N, tC N, tR N] st = .ok .non ((st.set k (.ins 100 [3, 4, 5] [tP N, tC N, tR N])).take st.length) := by
    refine run_cells hb (frz_pl _ _ rfl _) (popB_gen fun j hj => ?_)
    by_cases e : k = j
    · subst e
      refine .inr ⟨_, by rw [List.getElem?_set_self hkl], ?_⟩
      simp [belowC, belowL, below_pl _ _ p3, below_pl _ _ c3, below_pl _ _ r3]
    · exact .inl (by rw [List.getElem?_set_ne e])
  rw [hr2]
  congr 1
  rw [List.take_of_length_le]
  simp

theorem l_make (N : Net) (h : NetOk N) (st : Sto) (env : En) (g : EM (List D)) (hg : g env st = .ok [tP N, tC N, tR N] st) : mMake 100 4 m_Net_init g env st = .ok (netD N) st := by
  obtain ⟨p1, p2, p3⟩ := sm_P N h
  obtain ⟨c1, c2, c3⟩ := sm_C N h
  obtain ⟨r1, r2, r3⟩ := sm_R N h
  have hi := l_net_init N h (st ++ [.ins 100 [] []]) st.length (by simp)
  have e : (st ++ [Cell.ins 100 [] []]).set st.length (.ins 100 [3, 4, 5] [tP N, tC N, tR N]) = st ++ [.ins 100 [3, 4, 5] [tP N, tC N, tR N]] := by simp
  rw [e] at hi
  have hf : frz (st ++ [.ins 100 [3, 4, 5] [tP N, tC N, tR N]]) st.length 5 (.ref st.length) = some (netD N) := by
    unfold frz frzG
    simp only [Nat.lt_irrefl, if_false]
    have e2 : (st ++ [Cell.ins 100 [3, 4, 5] [tP N, tC N, tR N]])[st.length]? = some (.ins 100 [3, 4, 5] [tP N, tC N, tR N]) := by simp
    rw [e2]
    have e3 : frzL (fun j => frz (st ++ [.ins 100 [3, 4, 5] [tP N, tC N, tR N]]) st.length 4 (.ref j)) [tP N, tC N, tR N] = some [tP N, tC N, tR N] := frzL_pl _ _ (by simp [plL, p3, c3, r3])
    simp only [e3]
    rfl
  unfold mMake
  rw [hg]
  simp only [Res.bind, List.length_cons, List.length_nil, if_true]
  rw [hi]
  simp only
  unfold popR
  simp [hf, popB_app]
end K

namespace K
open PySem Cw
/-- data k deep at most -/
def dm : Nat → D → Bool
  | k, .tup ds => match k with
    | 0 => false
    | k + 1 => decide (ds.length < 100000) && ds.all (dm k)
  | k, .lst ds => match k with
    | 0 => false
    | k + 1 => decide (ds.length < 100000) && ds.all (dm k)
  | _, .int _ => true
  | _, .str _ => true
  | _, .bl _ => true
  | _, .non => true
  | _, _ => false
theorem pl_dm : ∀ (k : Nat) (d : D), dm k d = true → pl d = true
  | 0, d, h => by cases d <;> simp [dm] at h <;> rfl
  | k + 1, d, h => by
    have go : ∀ ds : List D, ds.all (dm k) = true → plL ds = true := fun ds h => by
      rw [plL_iff]
      exact fun y hy => pl_dm k y (List.all_eq_true.mp h y hy)
    cases d <;> simp [dm] at h <;> try rfl
    · unfold pl; exact go _ (by simpa using h.2)
    · unfold pl; exact go _ (by simpa using h.2)
theorem al_small {n : Nat} (hl : n < 100000) : small62 (n : Int) = true := by
  unfold small62
  rw [decide_eq_true_eq]
  omega
theorem rg1_ok {fa : EM D} {env : En} {st : Sto} {n : Nat} (h : fa env st = .ok (.int n) st) (hs : small62 (n : Int) = true) : iRg1 fa env st = .ok (rngD 0 n) st := by
  unfold iRg1
  rw [h]
  refine Eq.trans (if_pos hs) ?_
  rw [Int.toNat_natCast]
end K

namespace K
open PySem Cw
def mk (b : Bool) (ds : List D) : D := if b then .tup ds else .lst ds
/-- an int that is not below 0 -/
def nn : D → Bool
  | .int i => decide (0 ≤ i)
  | _ => false
theorem all_bls {α : Type} (f : α → Bool) (l : List α) (st : Sto) : oAll (.lst (l.map fun x => D.bl (f x))) st = some (.bl (l.all f), st) := by
  have h : blsOf (l.map fun x => D.bl (f x)) = some (l.map f) := by
    induction l with
    | nil => rfl
    | cons a l ih => simp [blsOf, ih]
  simp [oAll, seqR, seqW, h, List.all_map]
theorem comp_nn (b : Bool) (w : D) (rest : List D) (x : D) (st : Sto) (hd : ∀ y ∈ rest, dt y = true) (hl : rest.length < 1000) :
    mComp false (iSeq (mSlice false (mVar 1) (mPart (mC (.int 1))) mNoP)) [4] (.nm 4) mYes (mAnd (mCallN 1 m_is_whole (mCons (mVar 4) mNil)) (mBin oGe (mVar 4) (mC (.int 0)))) [some x, some (mk b (w :: rest)), none, none, none] st = .ok (.lst (rest.map fun y => .bl (nn y))) st := by
  refine mcomp_all (lock := []) (items := rest) (fun y => .bl (nn y)) ?_ (fun _ => rfl) ?_ ?_ ?_
  · cases b <;> simp [iSeq, bodyR, sRet, sRetN, sSeq, sIf, sNil, sExpr, sSet, sRaise, mAnd, mOr, mNot, mIf, mAndT, mOrT, mNotT, mT, mIsN, mChain, m1, mVar, mC, mBin, mUn, mCallN, mCons, mNil, mTup, mSlice, mPart, mNoP, oIsi, oIsi2, tyOf, oLen, oInt, oLe, oLt, oGt, oGe, oCmp, oIx, oSub, oFdiv, oMod, oEq, eqD, oSl, pu, Res.bind, Res.toS, lift, subT, mYes, mk, cut_from1, iterOf, seqR, seqW, mkL]
  · show _ < 16777216
    omega
  · intro y hy
    refine ⟨_, rfl, fun a => ?_⟩
    have h1 := l_is_whole y (st ++ [.lst a]) (hd y hy)
    have h2 := hd y hy
    cases y <;> simp [dt] at h2 <;> simp [bodyR, sRet, sRetN, sSeq, sIf, sNil, sExpr, sSet, sRaise, mAnd, mOr, mNot, mIf, mAndT, mOrT, mNotT, mT, mIsN, mChain, m1, mVar, mC, mBin, mUn, mCallN, mCons, mNil, mTup, mSlice, mPart, mNoP, oIsi, oIsi2, tyOf, oLen, oInt, oLe, oLt, oGt, oGe, oCmp, oIx, oSub, oFdiv, oMod, oEq, eqD, oSl, pu, Res.bind, Res.toS, lift, subT, mYes, wipeE, h1, isInt, nn]
  · rw [plL_iff]
    intro y hy
    obtain ⟨z, hz, rfl⟩ := List.mem_map.mp hy
    rfl
/-- too short, or no text ahead -/
def noText : List D → Bool
  | x :: _ :: _ => match x with
    | .str _ => false
    | d => dt d
  | _ => true
theorem as_short (N : Net) (b : Bool) (ds : List D) (st : Sto) (h : noText ds = true) : m_as_deed [netD N, mk b ds] st = .ok .non st := by
  unfold m_as_deed
  refine run_pure ?_ rfl
  cases ds with
  | nil => cases b <;> simp [mb_as_deed, bodyR, sRet, sRetN, sSeq, sIf, sNil, sExpr, sSet, sRaise, mAnd, mOr, mNot, mIf, mAndT, mOrT, mNotT, mT, mIsN, mChain, m1, mVar, mC, mBin, mUn, mCallN, mCons, mNil, mTup, mSlice, mPart, mNoP, oIsi, oIsi2, tyOf, oLen, oInt, oLe, oLt, oGt, oGe, oCmp, oIx, oSub, oFdiv, oMod, oEq, eqD, oSl, pu, Res.bind, Res.toS, lift, subT, mYes, mk, seqR, seqW]
  | cons x ds =>
    cases ds with
    | nil => cases b <;> simp [mb_as_deed, bodyR, sRet, sRetN, sSeq, sIf, sNil, sExpr, sSet, sRaise, mAnd, mOr, mNot, mIf, mAndT, mOrT, mNotT, mT, mIsN, mChain, m1, mVar, mC, mBin, mUn, mCallN, mCons, mNil, mTup, mSlice, mPart, mNoP, oIsi, oIsi2, tyOf, oLen, oInt, oLe, oLt, oGt, oGe, oCmp, oIx, oSub, oFdiv, oMod, oEq, eqD, oSl, pu, Res.bind, Res.toS, lift, subT, mYes, mk, seqR, seqW]
    | cons y ds =>
      have hl : ¬ ((ds.length : Int) + 1 + 1 < 2) := by omega
      cases x <;> simp [noText, dt] at h <;> cases b <;> simp [mb_as_deed, bodyR, sRet, sRetN, sSeq, sIf, sNil, sExpr, sSet, sRaise, mAnd, mOr, mNot, mIf, mAndT, mOrT, mNotT, mT, mIsN, mChain, m1, mVar, mC, mBin, mUn, mCallN, mCons, mNil, mTup, mSlice, mPart, mNoP, oIsi, oIsi2, tyOf, oLen, oInt, oLe, oLt, oGt, oGe, oCmp, oIx, oSub, oFdiv, oMod, oEq, eqD, oSl, pu, Res.bind, Res.toS, lift, subT, mYes, mk, seqR, seqW, at0, hl]
def atom : D → Bool
  | .non => true
  | .int _ => true
  | .str _ => true
  | .bl _ => true
  | _ => false
theorem as_atom (N : Net) (d : D) (st : Sto) (h : atom d = true) : m_as_deed [netD N, d] st = .ok .non st := by
  unfold m_as_deed
  refine run_pure ?_ rfl
  cases d <;> simp [atom] at h <;> simp [mb_as_deed, bodyR, sRet, sRetN, sSeq, sIf, sNil, sExpr, sSet, sRaise, mAnd, mOr, mNot, mIf, mAndT, mOrT, mNotT, mT, mIsN, mChain, m1, mVar, mC, mBin, mUn, mCallN, mCons, mNil, mTup, mSlice, mPart, mNoP, oIsi, oIsi2, tyOf, oLen, oInt, oLe, oLt, oGt, oGe, oCmp, oIx, oSub, oFdiv, oMod, oEq, eqD, oSl, pu, Res.bind, Res.toS, lift, subT, mYes]
/-- a part that is no number, or below 0 -/
theorem as_part (N : Net) (b : Bool) (s : Str) (x : D) (rest : List D) (st : Sto) (hd : ∀ y ∈ x :: rest, dt y = true) (hl : rest.length < 900) (h : (x :: rest).all nn = false) : m_as_deed [netD N, mk b (.str s :: x :: rest)] st = .ok .non st := by
  unfold m_as_deed
  refine run_pure ?_ rfl
  have hc := comp_nn b (.str s) (x :: rest) (netD N) st hd (by simp; omega)
  have ha := all_bls nn (x :: rest) st
  rw [h] at ha
  show bodyR (mb_as_deed [some (netD N), some (mk b (.str s :: x :: rest)), none, none, none] st) = _
  unfold mb_as_deed
  generalize mComp false (iSeq (mSlice false (mVar 1) (mPart (mC (.int 1))) mNoP)) [4] (.nm 4) mYes (mAnd (mCallN 1 m_is_whole (mCons (mVar 4) mNil)) (mBin oGe (mVar 4) (mC (.int 0)))) = C at hc ⊢
  generalize ((x :: rest).map fun y => D.bl (nn y)) = L at hc ha
  have hl2 : ¬ ((rest.length : Int) + 1 + 1 < 2) := by omega
  cases b <;> simp [bodyR, sRet, sRetN, sSeq, sIf, sNil, sExpr, sSet, sRaise, mAnd, mOr, mNot, mIf, mAndT, mOrT, mNotT, mT, mIsN, mChain, m1, mVar, mC, mBin, mUn, mCallN, mCons, mNil, mTup, mSlice, mPart, mNoP, oIsi, oIsi2, tyOf, oLen, oInt, oLe, oLt, oGt, oGe, oCmp, oIx, oSub, oFdiv, oMod, oEq, eqD, oSl, pu, Res.bind, Res.toS, lift, subT, mYes, mk] at hc ⊢ <;> simp [bodyR, sRet, sRetN, sSeq, sIf, sNil, sExpr, sSet, sRaise, mAnd, mOr, mNot, mIf, mAndT, mOrT, mNotT, mT, mIsN, mChain, m1, mVar, mC, mBin, mUn, mCallN, mCons, mNil, mTup, mSlice, mPart, mNoP, oIsi, oIsi2, tyOf, oLen, oInt, oLe, oLt, oGt, oGe, oCmp, oIx, oSub, oFdiv, oMod, oEq, eqD, oSl, pu, Res.bind, Res.toS, lift, subT, mYes, mk, hc, ha, seqR, seqW, at0, hl2]

def lossy (k : Nat) : Bool := decide (kindOf k ∈ ([("order lossy" : Str), "loose lossy"] : List Str))
theorem kind_chars (k : Nat) : chars (kindOf k) = true := by
  have hk : kindOf k ∈ kinds := by
    unfold kindOf
    match k with
    | 0 => decide
    | 1 => decide
    | 2 => decide
    | 3 => decide
    | n + 4 =>
      have : kinds[n + 4]? = none := List.getElem?_eq_none (by simp [kinds])
      rw [this]
      decide
  have hc : ∀ y ∈ kinds, chars y = true := by decide +kernel
  exact hc _ hk
theorem in_lossy (st : Sto) (k : Nat) : inD st (.str (kindOf k)) (.tup [.str "order lossy", .str "loose lossy"]) = some (lossy k) ∧ inD st (.str (kindOf k)) (.lst [.str "order lossy", .str "loose lossy"]) = some (lossy k) :=
  in_strs st (kindOf k) ["order lossy", "loose lossy"] (kind_chars k) (by decide +kernel)
theorem fld_c (N : Net) (st : Sto) : fldD st cls_all 4 (netD N) = some (tC N) := rfl
theorem fld_p (N : Net) (st : Sto) : fldD st cls_all 3 (netD N) = some (tP N) := rfl
theorem fld_r (N : Net) (st : Sto) : fldD st cls_all 5 (netD N) = some (tR N) := rfl
theorem at_C (N : Net) {c : Nat} {ch : Chan} (h : N.cs[c]? = some ch) : L2.atI (N.cs.map encC) (c : Int) = some (encC ch) := by rw [at_nat, List.getElem?_map, h]; rfl
theorem at_R (N : Net) {c : Nat} {ch : Rule} (h : N.rs[c]? = some ch) : L2.atI (N.rs.map encR) (c : Int) = some (encR ch) := by rw [at_nat, List.getElem?_map, h]; rfl
theorem l_is_lossy (N : Net) (c : Nat) (ch : Chan) (st : Sto) (h : N.cs[c]? = some ch) : m_is_lossy [netD N, .int c] st = .ok (.bl (lossy ch.kind)) st := by
  unfold m_is_lossy
  refine run_pure ?_ rfl
  have hk := (in_lossy st ch.kind).1
  unfold kindOf at hk
  simp [mb_is_lossy, bodyR, sRet, sRetN, sSeq, sIf, sNil, sExpr, sSet, sRaise, mAnd, mOr, mNot, mIf, mAndT, mOrT, mNotT, mT, mIsN, mChain, m1, mVar, mC, mBin, mUn, mCallN, mCons, mNil, mTup, mSlice, mPart, mNoP, oIsi, oIsi2, tyOf, oLen, oInt, oLe, oLt, oGt, oGe, oCmp, oIx, oSub, oFdiv, oMod, oEq, eqD, oSl, pu, Res.bind, Res.toS, lift, subT, mYes, mFld, fld_c, tC, at_C N h, encC, at3, oIn, hk, LIM]

theorem nn_int {x : D} (h : nn x = true) : ∃ i : Int, x = .int i ∧ 0 ≤ i := by
  cases x <;> simp [nn] at h
  exact ⟨_, rfl, h⟩
theorem nn_all {l : List D} (h : l.all nn = true) : (∀ y ∈ l, dt y = true) ∧ plL l = true := by
  rw [List.all_eq_true] at h
  refine ⟨fun y hy => ?_, ?_⟩
  · obtain ⟨i, rfl, _⟩ := nn_int (h y hy)
    rfl
  · rw [plL_iff]
    intro y hy
    obtain ⟨i, rfl, _⟩ := nn_int (h y hy)
    rfl
def chAt (N : Net) (r : Int) : Bool := match N.cs[r.toNat]? with
  | some ch => lossy ch.kind
  | none => false
theorem as_lose (N : Net) (b : Bool) (r : Int) (more : List D) (st : Sto) (hr : 0 ≤ r) (hm : more.all nn = true) (hl : more.length < 900) : m_as_deed [netD N, mk b (.str "lose" :: .int r :: more)] st = .ok (if more.length = 1 ∧ chAt N r = true then .tup (.str "lose" :: .int r :: more) else .non) st := by
  obtain ⟨hd, hp⟩ := nn_all hm
  unfold m_as_deed
  refine run_pure ?_ (by split <;> simp [pl, plL, hp])
  have hdd : ∀ y ∈ D.int r :: more, dt y = true := fun y hy => by
    rcases List.mem_cons.mp hy with rfl | hy
    · rfl
    · exact hd y hy
  have hc := comp_nn b (.str "lose") (.int r :: more) (netD N) st hdd (by simp; omega)
  have ha := all_bls nn (.int r :: more) st
  have hall : (D.int r :: more).all nn = true := by
    rw [List.all_cons, hm, Bool.and_true]
    exact decide_eq_true hr
  rw [hall] at ha
  show bodyR (mb_as_deed [some (netD N), some (mk b (.str "lose" :: .int r :: more)), none, none, none] st) = _
  unfold mb_as_deed
  generalize mComp false (iSeq (mSlice false (mVar 1) (mPart (mC (.int 1))) mNoP)) [4] (.nm 4) mYes (mAnd (mCallN 1 m_is_whole (mCons (mVar 4) mNil)) (mBin oGe (mVar 4) (mC (.int 0)))) = C at hc ⊢
  generalize ((D.int r :: more).map fun y => D.bl (nn y)) = L at hc ha
  have hl2 : ¬ ((more.length : Int) + 1 + 1 < 2) := by omega
  have hz : more.length + 1 + 1 ≤ LIM := by show _ ≤ 16777216; omega
  by_cases h1 : more.length = 1
  · cases hq : N.cs[r.toNat]? with
    | none =>
      have hge := List.getElem?_eq_none_iff.mp hq
      have hb : ¬ (r < (N.cs.length : Int)) := by omega
      have hx : chAt N r = false := by simp [chAt, hq]
      cases b <;> simp [mk] at hc ⊢ <;> simp [bodyR, sRet, sRetN, sSeq, sIf, sNil, sExpr, sSet, sRaise, mAnd, mOr, mNot, mIf, mAndT, mOrT, mNotT, mT, mIsN, mChain, m1, mVar, mC, mBin, mUn, mCallN, mCons, mNil, mTup, mSlice, mPart, mNoP, oIsi, oIsi2, tyOf, oLen, oInt, oLe, oLt, oGt, oGe, oCmp, oIx, oSub, oFdiv, oMod, oEq, eqD, oSl, pu, Res.bind, Res.toS, lift, subT, mYes, hc, ha, seqR, seqW, at0, at1, h1, hl2, l_is_below, hr, hb, hx, mFld, fld_c, tC]
    | some ch =>
      have hlt := (List.getElem?_eq_some_iff.mp hq).1
      have hb : r < (N.cs.length : Int) := by omega
      have hx : chAt N r = lossy ch.kind := by simp [chAt, hq]
      have hlo := l_is_lossy N r.toNat ch st hq
      rw [Int.toNat_of_nonneg hr] at hlo
      cases hk : lossy ch.kind <;> rw [hk] at hx hlo <;> cases b <;> simp [mk] at hc ⊢ <;> simp [bodyR, sRet, sRetN, sSeq, sIf, sNil, sExpr, sSet, sRaise, mAnd, mOr, mNot, mIf, mAndT, mOrT, mNotT, mT, mIsN, mChain, m1, mVar, mC, mBin, mUn, mCallN, mCons, mNil, mTup, mSlice, mPart, mNoP, oIsi, oIsi2, tyOf, oLen, oInt, oLe, oLt, oGt, oGe, oCmp, oIx, oSub, oFdiv, oMod, oEq, eqD, oSl, pu, Res.bind, Res.toS, lift, subT, mYes, hc, ha, seqR, seqW, at0, at1, h1, hl2, l_is_below, hr, hb, hx, mFld, fld_c, tC, hlo, oTuple]
  · have h3 : ¬ ((more.length : Int) + 1 + 1 = 3) := by omega
    cases b <;> simp [mk] at hc ⊢ <;> simp [bodyR, sRet, sRetN, sSeq, sIf, sNil, sExpr, sSet, sRaise, mAnd, mOr, mNot, mIf, mAndT, mOrT, mNotT, mT, mIsN, mChain, m1, mVar, mC, mBin, mUn, mCallN, mCons, mNil, mTup, mSlice, mPart, mNoP, oIsi, oIsi2, tyOf, oLen, oInt, oLe, oLt, oGt, oGe, oCmp, oIx, oSub, oFdiv, oMod, oEq, eqD, oSl, pu, Res.bind, Res.toS, lift, subT, mYes, hc, ha, seqR, seqW, at0, at1, h1, h3, hl2]

def isTake : Act → Bool
  | .take _ _ => true
  | _ => false
/-- the rule's process, if the deed fits it -/
def ruAt (N : Net) (t : Bool) (r : Int) : Bool := match N.rs[r.toNat]? with
  | some ru => isTake ru.a == t
  | none => false
theorem enc_first (a : Act) : ∃ z rest, encA a = .tup (.str z :: rest) ∧ decide (z = "take") = isTake a := by
  cases a with
  | go => exact ⟨"do", _, rfl, by show decide (_ = _) = false; decide⟩
  | send c t => exact ⟨"send", _, rfl, by show decide (_ = _) = false; decide⟩
  | take c t => exact ⟨"take", _, rfl, by show decide (_ = _) = true; decide⟩
theorem pl_ite {c : Prop} [Decidable c] {x y : D} (hx : pl x = true) (hy : pl y = true) : pl (if c then x else y) = true := by
  split <;> assumption
theorem in_at (st : Sto) (s : Str) (hs : chars s = true) : inD st (.str s) (.tup [.str "act", .str "take"]) = some (decide (s ∈ ([("act" : Str), "take"] : List Str))) :=
  (in_strs st s ["act", "take"] hs (by decide +kernel)).1
/-- another word -/
theorem as_word (N : Net) (b : Bool) (s : Str) (r : Int) (more : List D) (st : Sto) (hs : chars s = true) (hn : s ∉ ([("act" : Str), "take"] : List Str)) (h0 : ¬ s = "lose") (hr : 0 ≤ r) (hm : more.all nn = true) (hl : more.length < 900) : m_as_deed [netD N, mk b (.str s :: .int r :: more)] st = .ok .non st := by
  obtain ⟨hd, hp⟩ := nn_all hm
  unfold m_as_deed
  refine run_pure ?_ rfl
  have hdd : ∀ y ∈ D.int r :: more, dt y = true := fun y hy => by
    rcases List.mem_cons.mp hy with rfl | hy
    · rfl
    · exact hd y hy
  have hc := comp_nn b (.str s) (.int r :: more) (netD N) st hdd (by simp; omega)
  have ha := all_bls nn (.int r :: more) st
  have hall : (D.int r :: more).all nn = true := by
    rw [List.all_cons, hm, Bool.and_true]
    exact decide_eq_true hr
  rw [hall] at ha
  have hin := in_at st s hs
  rw [decide_eq_false hn] at hin
  show bodyR (mb_as_deed [some (netD N), some (mk b (.str s :: .int r :: more)), none, none, none] st) = _
  unfold mb_as_deed
  generalize mComp false (iSeq (mSlice false (mVar 1) (mPart (mC (.int 1))) mNoP)) [4] (.nm 4) mYes (mAnd (mCallN 1 m_is_whole (mCons (mVar 4) mNil)) (mBin oGe (mVar 4) (mC (.int 0)))) = C at hc ⊢
  generalize ((D.int r :: more).map fun y => D.bl (nn y)) = L at hc ha
  have hl2 : ¬ ((more.length : Int) + 1 + 1 < 2) := by omega
  cases b <;> simp [mk] at hc ⊢ <;> simp [bodyR, sRet, sRetN, sSeq, sIf, sNil, sExpr, sSet, sRaise, mAnd, mOr, mNot, mIf, mAndT, mOrT, mNotT, mT, mIsN, mChain, m1, mVar, mC, mBin, mUn, mCallN, mCons, mNil, mTup, mSlice, mPart, mNoP, oIsi, oIsi2, tyOf, oLen, oInt, oLe, oLt, oGt, oGe, oCmp, oIx, oSub, oFdiv, oMod, oEq, eqD, oSl, pu, Res.bind, Res.toS, lift, subT, mYes, hc, ha, seqR, seqW, at0, at1, hl2, h0, oIn, hin, LIM]
theorem as_rule (N : Net) (b t : Bool) (r : Int) (more : List D) (st : Sto) (hr : 0 ≤ r) (hm : more.all nn = true) (hl : more.length < 900) : m_as_deed [netD N, mk b (.str (if t then "take" else "act") :: .int r :: more)] st = .ok (if more.length = (if t then 1 else 0) ∧ ruAt N t r = true then .tup (.str (if t then "take" else "act") :: .int r :: more) else .non) st := by
  obtain ⟨hd, hp⟩ := nn_all hm
  unfold m_as_deed
  refine run_pure ?_ (pl_ite (by simp [pl, plL, hp]) rfl)
  have hdd : ∀ y ∈ D.int r :: more, dt y = true := fun y hy => by
    rcases List.mem_cons.mp hy with rfl | hy
    · rfl
    · exact hd y hy
  have hc := comp_nn b (.str (if t then "take" else "act")) (.int r :: more) (netD N) st hdd (by simp; omega)
  have ha := all_bls nn (.int r :: more) st
  have hall : (D.int r :: more).all nn = true := by
    rw [List.all_cons, hm, Bool.and_true]
    exact decide_eq_true hr
  rw [hall] at ha
  have hin := in_at st (if t then "take" else "act") (by cases t <;> decide +kernel)
  have hin2 : decide ((if t = true then ("take" : Str) else "act") ∈ ([("act" : Str), "take"] : List Str)) = true := by cases t <;> decide
  rw [hin2] at hin
  have h0 : ¬ ((if t = true then ("take" : Str) else "act") = "lose") := by cases t <;> decide
  have ht : decide ((if t = true then ("take" : Str) else "act") = "take") = t := by cases t <;> decide
  show bodyR (mb_as_deed [some (netD N), some (mk b (.str (if t then "take" else "act") :: .int r :: more)), none, none, none] st) = _
  generalize (if t = true then ("take" : Str) else "act") = s at hc hin h0 ht ⊢
  unfold mb_as_deed
  generalize mComp false (iSeq (mSlice false (mVar 1) (mPart (mC (.int 1))) mNoP)) [4] (.nm 4) mYes (mAnd (mCallN 1 m_is_whole (mCons (mVar 4) mNil)) (mBin oGe (mVar 4) (mC (.int 0)))) = C at hc ⊢
  generalize ((D.int r :: more).map fun y => D.bl (nn y)) = L at hc ha
  have hl2 : ¬ ((more.length : Int) + 1 + 1 < 2) := by omega
  have hz : more.length + 1 + 1 ≤ LIM := by show _ ≤ 16777216; omega
  cases hq : N.rs[r.toNat]? with
  | none =>
    have hge := List.getElem?_eq_none_iff.mp hq
    have hb : ¬ (r < (N.rs.length : Int)) := by omega
    have hx : ruAt N t r = false := by simp [ruAt, hq]
    cases b <;> simp [mk] at hc ⊢ <;> simp [bodyR, sRet, sRetN, sSeq, sIf, sNil, sExpr, sSet, sRaise, mAnd, mOr, mNot, mIf, mAndT, mOrT, mNotT, mT, mIsN, mChain, m1, mVar, mC, mBin, mUn, mCallN, mCons, mNil, mTup, mSlice, mPart, mNoP, oIsi, oIsi2, tyOf, oLen, oInt, oLe, oLt, oGt, oGe, oCmp, oIx, oSub, oFdiv, oMod, oEq, eqD, oSl, pu, Res.bind, Res.toS, lift, subT, mYes, hc, ha, seqR, seqW, at0, at1, hl2, h0, oIn, hin, LIM, l_is_below, hr, hb, hx, mFld, fld_r, tR]
  | some ru =>
    have hlt := (List.getElem?_eq_some_iff.mp hq).1
    have hb : r < (N.rs.length : Int) := by omega
    have hx : ruAt N t r = (isTake ru.a == t) := by simp [ruAt, hq]
    have hA := at_R N hq
    rw [Int.toNat_of_nonneg hr] at hA
    obtain ⟨z, rest, e1, e2⟩ := enc_first ru.a
    have e3 : L2.atI (D.str z :: rest) 0 = some (.str z) := at0 _ _
    cases hk : isTake ru.a <;> rw [hk] at hx e2 <;> cases t
    · have e4 : ¬ z = "take" := of_decide_eq_false e2
      have e5 : ¬ s = "take" := of_decide_eq_false ht
      by_cases hm0 : more = []
      · subst hm0
        cases b <;> simp [mk] at hc ⊢ <;> simp [bodyR, sRet, sRetN, sSeq, sIf, sNil, sExpr, sSet, sRaise, mAnd, mOr, mNot, mIf, mAndT, mOrT, mNotT, mT, mIsN, mChain, m1, mVar, mC, mBin, mUn, mCallN, mCons, mNil, mTup, mSlice, mPart, mNoP, oIsi, oIsi2, tyOf, oLen, oInt, oLe, oLt, oGt, oGe, oCmp, oIx, oSub, oFdiv, oMod, oEq, eqD, oSl, pu, Res.bind, Res.toS, lift, subT, mYes, hc, ha, seqR, seqW, at0, at1, at2, hl2, h0, oIn, hin, LIM, l_is_below, hr, hb, hx, mFld, fld_r, tR, hA, encR, e1, e4, e5, oTuple]
      · have hm1 : ¬ ((more.length : Int) + 1 + 1 = 2) := fun e => hm0 (List.eq_nil_of_length_eq_zero (by omega))
        cases b <;> simp [mk] at hc ⊢ <;> simp [bodyR, sRet, sRetN, sSeq, sIf, sNil, sExpr, sSet, sRaise, mAnd, mOr, mNot, mIf, mAndT, mOrT, mNotT, mT, mIsN, mChain, m1, mVar, mC, mBin, mUn, mCallN, mCons, mNil, mTup, mSlice, mPart, mNoP, oIsi, oIsi2, tyOf, oLen, oInt, oLe, oLt, oGt, oGe, oCmp, oIx, oSub, oFdiv, oMod, oEq, eqD, oSl, pu, Res.bind, Res.toS, lift, subT, mYes, hc, ha, seqR, seqW, at0, at1, at2, hl2, h0, oIn, hin, LIM, l_is_below, hr, hb, hx, mFld, fld_r, tR, hA, encR, e1, e4, e5, hm1, hm0, oTuple]
    · have e4 : ¬ z = "take" := of_decide_eq_false e2
      have e5 : s = "take" := of_decide_eq_true ht
      subst e5
      cases b <;> simp [mk] at hc ⊢ <;> simp [bodyR, sRet, sRetN, sSeq, sIf, sNil, sExpr, sSet, sRaise, mAnd, mOr, mNot, mIf, mAndT, mOrT, mNotT, mT, mIsN, mChain, m1, mVar, mC, mBin, mUn, mCallN, mCons, mNil, mTup, mSlice, mPart, mNoP, oIsi, oIsi2, tyOf, oLen, oInt, oLe, oLt, oGt, oGe, oCmp, oIx, oSub, oFdiv, oMod, oEq, eqD, oSl, pu, Res.bind, Res.toS, lift, subT, mYes, hc, ha, seqR, seqW, at0, at1, at2, hl2, h0, oIn, hin, LIM, l_is_below, hr, hb, hx, mFld, fld_r, tR, hA, encR, e1, e4]
    · have e4 : z = "take" := of_decide_eq_true e2
      have e5 : ¬ s = "take" := of_decide_eq_false ht
      cases b <;> simp [mk] at hc ⊢ <;> simp [bodyR, sRet, sRetN, sSeq, sIf, sNil, sExpr, sSet, sRaise, mAnd, mOr, mNot, mIf, mAndT, mOrT, mNotT, mT, mIsN, mChain, m1, mVar, mC, mBin, mUn, mCallN, mCons, mNil, mTup, mSlice, mPart, mNoP, oIsi, oIsi2, tyOf, oLen, oInt, oLe, oLt, oGt, oGe, oCmp, oIx, oSub, oFdiv, oMod, oEq, eqD, oSl, pu, Res.bind, Res.toS, lift, subT, mYes, hc, ha, seqR, seqW, at0, at1, at2, hl2, h0, oIn, hin, LIM, l_is_below, hr, hb, hx, mFld, fld_r, tR, hA, encR, e1, e4, e5]
    · have e4 : z = "take" := of_decide_eq_true e2
      have e5 : s = "take" := of_decide_eq_true ht
      subst e5
      by_cases h1 : more.length = 1
      · have hm1 : ((more.length : Int) + 1 + 1 = 3) := by omega
        cases b <;> simp [mk] at hc ⊢ <;> simp [bodyR, sRet, sRetN, sSeq, sIf, sNil, sExpr, sSet, sRaise, mAnd, mOr, mNot, mIf, mAndT, mOrT, mNotT, mT, mIsN, mChain, m1, mVar, mC, mBin, mUn, mCallN, mCons, mNil, mTup, mSlice, mPart, mNoP, oIsi, oIsi2, tyOf, oLen, oInt, oLe, oLt, oGt, oGe, oCmp, oIx, oSub, oFdiv, oMod, oEq, eqD, oSl, pu, Res.bind, Res.toS, lift, subT, mYes, hc, ha, seqR, seqW, at0, at1, at2, hl2, h0, oIn, hin, LIM, l_is_below, hr, hb, hx, mFld, fld_r, tR, hA, encR, e1, e4, hm1, h1, oTuple]
      · have hm1 : ¬ ((more.length : Int) + 1 + 1 = 3) := by omega
        cases b <;> simp [mk] at hc ⊢ <;> simp [bodyR, sRet, sRetN, sSeq, sIf, sNil, sExpr, sSet, sRaise, mAnd, mOr, mNot, mIf, mAndT, mOrT, mNotT, mT, mIsN, mChain, m1, mVar, mC, mBin, mUn, mCallN, mCons, mNil, mTup, mSlice, mPart, mNoP, oIsi, oIsi2, tyOf, oLen, oInt, oLe, oLt, oGt, oGe, oCmp, oIx, oSub, oFdiv, oMod, oEq, eqD, oSl, pu, Res.bind, Res.toS, lift, subT, mYes, hc, ha, seqR, seqW, at0, at1, at2, hl2, h0, oIn, hin, LIM, l_is_below, hr, hb, hx, mFld, fld_r, tR, hA, encR, e1, e4, hm1, h1, oTuple]
end K

namespace K
open PySem Cw
variable {X : Nat → D → Sto → Prop}
theorem sm64 {n : Nat} (h : n < 1000000000000) : small64 (n : Int) = true := by
  unfold small64
  rw [decide_eq_true_eq]
  omega
theorem mul_r {i : Int} {n : Nat} (st : Sto) (h : n < 1000000000000) : oMulX (.int i) (.int n) st = some (.int (i * n), st) := by
  show oMul (.int i) (.int n) st = _
  unfold oMul pu
  simp only [sm64 h, Bool.or_true, if_true]
theorem mul_l {i : Int} {n : Nat} (st : Sto) (h : n < 1000000000000) : oMulX (.int n) (.int i) st = some (.int (n * i), st) := by
  show oMul (.int n) (.int i) st = _
  unfold oMul pu
  simp only [sm64 h, Bool.true_or, if_true]
theorem add_ii (i j : Int) (st : Sto) : oAdd false (.int i) (.int j) st = some (.int (i + j), st) := rfl
theorem set_self {st : Sto} {k : Nat} {c : Cell} (h : st[k]? = some c) : st.set k c = st := by
  obtain ⟨hk, e⟩ := List.getElem?_eq_some_iff.mp h
  rw [← e]
  exact List.set_getElem_self hk
section
variable {st : Sto} {k : Nat} {many a b c d e : Int} {cs : List Int} {v2 v3 : Option D}
theorem pow18 (st : Sto) : oPow (.int 10) (.int 18) st = some (.int 1000000000000000000, st) := by
  unfold oPow pu
  simp
end
theorem call2 {cf : List D → Sto → Res D} {fa fb : EM D} {env : En} {st st1 st2 : Sto} {a b : D} (h1 : fa env st = .ok a st1) (h2 : fb env st1 = .ok b st2) : mCallN 2 cf (mCons fa (mCons fb mNil)) env st = cf [a, b] st2 := by
  simp [mCallN, mCons, mNil, h1, h2, Res.bind]
theorem meth1 {T : String} {op : OM} {fo fe : EM D} {env : En} {st st2 : Sto} {d x : D} (h1 : fo env st = .ok d st) (ht : tyM T d st = true) (h2 : fe env st = .ok x st2) : mMeth T op fo (mCons fe mNil) env st = lift (op d [x] st2) := by
  simp [mMeth, mCons, mNil, h1, ht, h2, Res.bind]
section
variable {cs : List Int} {k : Nat} {s0 s : Sto} {env : En}
theorem var_ok {i : Nat} {d : D} {st : Sto} (h : env[i]? = some (some d)) : mVar i env st = .ok d st := by
  unfold mVar
  rw [h]
end
theorem seq_nx {env : En} {f g : SM} {st st' : Sto} {env' : En} (h : f env st = .nx env' st') : sSeq f g env st = g env' st' := by
  unfold sSeq
  rw [h]
theorem set_nx {env : En} {i : Nat} {f : EM D} {st st' : Sto} {d : D} (h : f env st = .ok d st') : sSet i f env st = .nx (env.set i (some d)) st' := by
  unfold sSet
  rw [h]
  rfl
theorem bin_ok {env : En} {op : O2} {fa fb : EM D} {st st1 st2 st3 : Sto} {a b d : D} (h1 : fa env st = .ok a st1) (h2 : fb env st1 = .ok b st2) (h3 : op a b st2 = some (d, st3)) : mBin op fa fb env st = .ok d st3 := by
  simp [mBin, h1, h2, h3, Res.bind, lift]
section
variable {cs : List Int} {k q : Nat} {S s ext : Sto} {Q : D → Sto → Prop}
end
theorem o_cut {env : En} {st : Sto} {f g : SM} {N : En → Sto → Prop} {R : D → Sto → Prop} {C B : En → Sto → Prop} (P : En → Sto → Prop) (h : wo (f env st) P R C B) (h2 : ∀ e s, P e s → wo (g e s) N R C B) : wo (sSeq f g env st) N R C B :=
  o_seq (o_mono h h2 (fun _ _ h => h) (fun _ _ h => h) (fun _ _ h => h))
theorem pl_R (r : Rule) : pl (encR r) = true := by
  obtain ⟨p, s, a, s2⟩ := r
  cases a <;> rfl
section
variable {cs : List Int} {k : Nat} {S s : Sto} {Q : D → Sto → Prop}
theorem pl_P (p : Str × Nat) : pl (encP p) = true := rfl
theorem pl_C (c : Chan) : pl (encC c) = true := rfl
theorem plL_map {α : Type} {enc : α → D} (h : ∀ a, pl (enc a) = true) (l : List α) : plL (l.map enc) = true := by
  rw [plL_iff]
  intro d hd
  obtain ⟨z, _, rfl⟩ := List.mem_map.mp hd
  exact h z
theorem pl_N (N : Net) : pl (.tup [tP N, tC N, tR N]) = true := by
  simp only [pl, plL, tP, tC, tR, plL_map pl_P, plL_map pl_C, plL_map pl_R, Bool.and_self]
end
section
variable {Q : D → Sto → Prop} {s : Sto}
theorem repD_one {α : Type} (n : Nat) (x : α) : repD (n : Int) [x] = List.replicate n x := by
  unfold repD
  rw [Int.toNat_natCast]
  induction n with
  | zero => rfl
  | succ n ih => rw [List.replicate_succ, List.flatten_cons, ih, List.replicate_succ]; rfl
theorem w_repT {n : Nat} {x : D} {st : Sto} (h : n ≤ 1000) (q : Q (.tup (List.replicate n x)) st) : wx X (lift (oRep false (.tup [x]) (.int n) st)) Q := by
  refine w_lift (d := .tup (List.replicate n x)) (s := st) ?_ q
  have e : (0 : Int) ≤ (n : Int) ∧ (n : Int) ≤ 1000 := by omega
  unfold oRep mulT
  simp [e.1, e.2, repD_one]
theorem w_repL {n : Nat} {x : D} {st : Sto} (h : n < 1000) (q : Q (.lst (List.replicate n x)) st) : wx X (lift (oRep false (.lst [x]) (.int n) st)) Q := by
  refine w_lift (d := .lst (List.replicate n x)) (s := st) ?_ q
  rw [← repD_one]
  refine if_pos ⟨al_small (by omega), ?_⟩
  rw [List.length_singleton, Int.toNat_natCast, Nat.one_mul]
  exact Nat.le_trans (Nat.le_of_lt h) (Nat.le_of_ble_eq_true rfl)
def startD (N : Net) : D := .tup [.tup (List.replicate N.ps.length (.int 0)), .tup (List.replicate N.cs.length (.int 0)), .tup (List.replicate N.cs.length (.tup []))]
theorem all_rep {α : Type} {p : α → Bool} {n : Nat} {x : α} (h : p x = true) : (List.replicate n x).all p = true := by
  rw [List.all_eq_true]
  intro y hy
  rw [List.eq_of_mem_replicate hy]
  exact h
theorem pl_start (N : Net) : pl (startD N) = true := by
  have e : ∀ (n : Nat) (x : D), pl x = true → plL (List.replicate n x) = true := fun n x h => by
    rw [plL_iff]
    intro y hy
    rw [List.eq_of_mem_replicate hy]
    exact h
  simp [startD, pl, plL, e _ (D.int 0) rfl, e _ (D.tup []) rfl]
theorem dm_start (N : Net) (h : NetOk N) : dm 3 (startD N) = true := by
  have h5 := h.p5
  have h8 := h.c8
  have e1 : N.ps.length < 100000 := by omega
  have e2 : N.cs.length < 100000 := by omega
  simp [startD, dm, e1, e2]
end
theorem kinds_at {u : Nat} (h : u < 4) : L2.atI [D.str "order", .str "loose", .str "order lossy", .str "loose lossy"] u = some (.str (kindOf u)) := by
  have : u = 0 ∨ u = 1 ∨ u = 2 ∨ u = 3 := by omega
  rcases this with rfl | rfl | rfl | rfl <;> rfl
theorem taker_ok {g t m : Nat} (hm : 2 ≤ m) (hg : g < m) (ht : t < m - 1) : (((g : Int) + 1 + t) % m) = (((g + 1 + t) % m : Nat) : Int) ∧ (g + 1 + t) % m < m ∧ (g + 1 + t) % m ≠ g := by
  refine ⟨by simp, Nat.mod_lt _ (by omega), ?_⟩
  by_cases hx : g + 1 + t < m
  · rw [Nat.mod_eq_of_lt hx]
    omega
  · rw [Nat.mod_eq_sub_mod (by omega), Nat.mod_eq_of_lt (by omega)]
    omega
end K

namespace K
open PySem Cw
variable {X : Nat → D → Sto → Prop}
/-! ### membership -/
section
variable {α : Type} (f : α → D) (g : α → PyData)
theorem pyL_map (hf : ∀ a, toPy (f a) = some (g a)) : ∀ xs : List α, toPyL (xs.map f) = some (xs.map g)
  | [] => by simp [toPyL]
  | x :: xs => by simp [toPyL, hf, pyL_map hf xs]
theorem layL_map (hc : ∀ a, PyData.canLay0 (g a) = true) : ∀ xs : List α, PyData.canLayAll0 (xs.map g) = true
  | [] => by simp [PyData.canLayAll0]
  | x :: xs => by
    have h2 := layL_map hc xs
    have h1 := hc x
    simp only [List.map_cons, PyData.canLayAll0, h2, Bool.and_true]
    exact h1
theorem depL_map (hd : ∀ a, PyData.depth (g a) ≤ 1) : ∀ xs : List α, PyData.depthAll (xs.map g) ≤ 1
  | [] => by simp [PyData.depthAll]
  | x :: xs => by
    have := depL_map hd xs
    have := hd x
    simp only [List.map_cons, PyData.depthAll]
    omega
theorem in_map (hf : ∀ a, toPy (f a) = some (g a)) (hc : ∀ a, PyData.canLay0 (g a) = true) (hd : ∀ a, PyData.depth (g a) ≤ 1) (he : ∀ a b, PyData.eqv (g a) (g b) = true ↔ a = b) (hp : ∀ st a, pyOf st (f a) = toPy (f a)) (hs : ∀ a x, f a ≠ .str x) (st : Sto) (x : α) (xs : List α) (c : Bool) (hx : c = true ↔ x ∈ xs) :
    inD st (f x) (.tup (xs.map f)) = some c ∧ inD st (f x) (.lst (xs.map f)) = some c := by
  have e1 : pyOf st (f x) = some (g x) := by rw [hp, hf]
  have e2 : pyOf st (.lst (xs.map f)) = some (.list (xs.map g)) := by
    show toPy _ = _
    unfold toPy
    rw [pyL_map f g hf]
  have e2' : pyOf st (.tup (xs.map f)) = some (.tuple (xs.map g)) := by
    show toPy _ = _
    unfold toPy
    rw [pyL_map f g hf]
  have s1 : SeqAt.shaped (g x) = true := by
    unfold SeqAt.shaped
    have := hd x
    rw [hc, Bool.true_and, decide_eq_true_eq]
    omega
  have s2 : SeqAt.shaped (.list (xs.map g)) = true := by
    have h1 := layL_map g hc xs
    have h2 := depL_map g hd xs
    unfold SeqAt.shaped
    rw [Bool.and_eq_true]
    refine ⟨by unfold PyData.canLay0; exact h1, decide_eq_true ?_⟩
    unfold PyData.depth
    omega
  have s2' : SeqAt.shaped (.tuple (xs.map g)) = true := by
    have h1 := layL_map g hc xs
    have h2 := depL_map g hd xs
    unfold SeqAt.shaped
    rw [Bool.and_eq_true]
    refine ⟨by unfold PyData.canLay0; exact h1, decide_eq_true ?_⟩
    unfold PyData.depth
    omega
  have e3 : (xs.map g).any (fun y => PyData.eqv y (g x)) = c := by
    rw [Bool.eq_iff_iff, hx, List.any_eq_true]
    constructor
    · rintro ⟨y, hy, e⟩
      obtain ⟨z, hz, rfl⟩ := List.mem_map.mp hy
      rw [← (he z x).mp e]
      exact hz
    · intro h
      exact ⟨g x, List.mem_map_of_mem h, (he x x).mpr rfl⟩
  have hne := hs x
  refine ⟨?_, ?_⟩
  · unfold inD
    split
    · rename_i h _ _ h2
      cases h2
    · simp [e1, e2', s1, s2', itemsPy, e3]
  · unfold inD
    split
    · rename_i h _ _ h2
      cases h2
    · simp [e1, e2, s1, s2, itemsPy, e3]
end
abbrev encI (n : Nat) : D := .int n
def encM (b : Bool) (m : Nat × Nat) : D := mk b [.int m.1, .int m.2]
theorem in_nats (st : Sto) (k : Nat) (ks : List Nat) : inD st (.int k) (.tup (ks.map encI)) = some (decide (k ∈ ks)) ∧ inD st (.int k) (.lst (ks.map encI)) = some (decide (k ∈ ks)) :=
  in_map encI (fun n => .int n) (fun a => by simp [encI, toPy]) (fun a => by simp [PyData.canLay0]) (fun a => by simp [PyData.depth]) (fun a b => by
    simp [PyData.eqv]
    omega) (fun st a => rfl) (fun a x h => by cases h) st k ks _ (by simp)
theorem in_msgs (st : Sto) (m : Nat × Nat) (ms : List (Nat × Nat)) : inD st (encM true m) (.tup (ms.map (encM true))) = some (decide (m ∈ ms)) ∧ inD st (encM true m) (.lst (ms.map (encM true))) = some (decide (m ∈ ms)) :=
  in_map (encM true) (fun m => .tuple [.int m.1, .int m.2]) (fun a => by simp [encM, mk, toPy, toPyL]) (fun a => by simp [PyData.canLay0, PyData.canLayAll0]) (fun a => by simp [PyData.depth, PyData.depthAll]) (fun a b => by
    obtain ⟨a1, a2⟩ := a
    obtain ⟨b1, b2⟩ := b
    simp [PyData.eqv, PyData.eqvAll]
    omega) (fun st a => rfl) (fun a x h => by cases h) st m ms _ (by simp)
/-! ### comprehensions without effects, of data -/
theorem w_compF {α : Type} {fi : EM IterD} {vs : List Nat} {t : Tgt} {ft : EM Bool} {fe : EM D} {env : En} {st : Sto} {Q : D → Sto → Prop} (xs : List α) (enc : α → D) (p : α → Bool) (g : α → D) (hi : wp (fi env st) fun it s => it = ⟨xs.map enc, []⟩ ∧ s = st) (hl : xs.length < 1000000)
    (he : ∀ x ∈ xs, ∃ e1, tgtD t (enc x) (wipeE env vs) = some e1 ∧ ∀ s', wp (ft e1 s') fun c s2 => c = p x ∧ s2 = s' ∧ (p x = true → wp (fe e1 s') fun d s3 => d = g x ∧ s3 = s'))
    (hp : ∀ x ∈ xs, pl (g x) = true) (q : Q (.lst ((xs.filter p).map g)) st) : wx X (mComp false fi vs t ft fe env st) Q := by
  refine w_comp (w_mono hi ?_)
  rintro it s ⟨rfl, rfl⟩
  refine ⟨fun j acc s' => acc = ((xs.take j).filter p).map g ∧ s' = s, ?_, ⟨rfl, rfl⟩, ?_, ?_, ?_⟩
  · show (xs.map enc).length < 16777216
    rw [List.length_map]
    omega
  · rintro j acc s' ⟨rfl, rfl⟩
    refine ⟨?_, rfl, rfl⟩
    rw [List.length_map]
    exact Nat.le_trans (List.length_filter_le _ _) (by rw [List.length_take]; omega)
  · rintro j d hd acc s' ⟨rfl, rfl⟩
    simp only [List.getElem?_map] at hd
    obtain ⟨x, hx, rfl⟩ := Option.map_eq_some_iff.mp hd
    obtain ⟨e1, h1, h2⟩ := he x (List.mem_of_getElem? hx)
    have ht : xs.take (j + 1) = xs.take j ++ [x] := by rw [List.take_add_one, hx]; rfl
    refine ⟨e1, h1, w_mono (h2 _) ?_⟩
    rintro c s2 ⟨rfl, rfl, h3⟩
    refine ⟨fun hc => w_mono (h3 hc) ?_, fun hc => ⟨s', rfl, ?_, rfl⟩⟩
    · rintro d s3 ⟨rfl, rfl⟩
      refine ⟨s', rfl, ?_, rfl⟩
      rw [ht, List.filter_append, List.map_append]
      simp [hc]
    · rw [ht, List.filter_append]
      simp [hc]
  · rintro acc s' ⟨rfl, rfl⟩
    have ht : xs.take (List.map enc xs).length = xs := by rw [List.length_map, List.take_length]
    simp only [ht]
    refine ⟨?_, popB_refl _, q⟩
    rw [plL_iff]
    intro d hd
    obtain ⟨x, hx, rfl⟩ := List.mem_map.mp hd
    exact hp x (List.mem_filter.mp hx).1
/-- without a test -/
theorem w_compA {α : Type} {fi : EM IterD} {vs : List Nat} {t : Tgt} {fe : EM D} {env : En} {st : Sto} {Q : D → Sto → Prop} (xs : List α) (enc : α → D) (g : α → D) (hi : wp (fi env st) fun it s => it = ⟨xs.map enc, []⟩ ∧ s = st) (hl : xs.length < 1000000)
    (he : ∀ x ∈ xs, ∃ e1, tgtD t (enc x) (wipeE env vs) = some e1 ∧ ∀ s', wp (fe e1 s') fun d s3 => d = g x ∧ s3 = s')
    (hp : ∀ x ∈ xs, pl (g x) = true) (q : Q (.lst (xs.map g)) st) : wx X (mComp false fi vs t mYes fe env st) Q := by
  refine w_compF xs enc (fun _ => true) g hi hl (fun x hx => ?_) hp (by rw [List.filter_eq_self.mpr (fun _ _ => rfl)]; exact q)
  obtain ⟨e1, h1, h2⟩ := he x hx
  exact ⟨e1, h1, fun s' => ⟨rfl, rfl, fun _ => h2 s'⟩⟩
/-! ### sequences of either kind -/
section
variable {b : Bool} {ds : List D} {i : Int} {d : D} {st : Sto} {Q : D → Sto → Prop}
theorem m_ix (h : L2.atI ds i = some d) (q : Q d st) : wx X (lift (oIx (mk b ds) (.int i) st)) Q := by
  cases b
  · exact w_ixL h q
  · exact w_ixT h q
theorem m_len (q : Q (.int ds.length) st) : wx X (lift (oLen (mk b ds) st)) Q := by
  cases b
  · exact q
  · exact q
theorem m_tup (q : Q (.tup ds) st) : wx X (lift (oTuple (mk b ds) st)) Q := by
  cases b
  · exact q
  · exact q
theorem m_lst (q : Q (.lst ds) st) : wx X (lift (oList false (mk b ds) st)) Q := by
  cases b
  · exact q
  · exact q
theorem m_sl {lo hi : Option Int} (q : Q (mk b (cutD ds lo hi)) st) : wx X (lift (oSl false (mk b ds) lo hi st)) Q := by
  cases b
  · exact q
  · exact q
theorem m_iter : iterOf st (mk b ds) = some ⟨ds, []⟩ := by cases b <;> rfl
end
theorem pl_mk {b : Bool} {ds : List D} (h : plL ds = true) : pl (mk b ds) = true := by cases b <;> simpa [mk, pl] using h
/-! ### worlds -/
structure Wd where
  st : List Nat
  se : List Nat
  pr : List (List (Nat × Nat))
def encN (b : Bool) (l : List Nat) : D := mk b (l.map encI)
def encRow (b : Bool) (r : List (Nat × Nat)) : D := mk b (r.map (encM b))
def encPr (b : Bool) (p : List (List (Nat × Nat))) : D := mk b (p.map (encRow b))
def encW (b : Bool) (w : Wd) : D := mk b [encN b w.st, encN b w.se, encPr b w.pr]
/-- of the right size, rows no longer than n -/
structure WdOk (N : Net) (n : Nat) (w : Wd) : Prop where
  st : w.st.length = N.ps.length
  se : w.se.length = N.cs.length
  pr : w.pr.length = N.cs.length
  row : ∀ r ∈ w.pr, r.length ≤ n
  sen : ∀ x ∈ w.se, x ≤ n
def rowOf (w : Wd) (c : Nat) : List (Nat × Nat) := w.pr[c]?.getD []
def chK (N : Net) (c : Nat) : Nat := match N.cs[c]? with
  | some ch => ch.kind
  | none => 0
def ord (k : Nat) : Bool := decide (kindOf k ∈ ([("order" : Str), "order lossy"] : List Str))
def opn (N : Net) (w : Wd) (c : Nat) : List (Nat × Nat) := if ord (chK N c) = true then (rowOf w c).take 1 else rowOf w c
theorem pl_N1 (b : Bool) (l : List Nat) : pl (encN b l) = true := pl_mk (plL_map (fun _ => rfl) l)
theorem pl_M1 (b : Bool) (m : Nat × Nat) : pl (encM b m) = true := pl_mk (by simp [plL, pl])
theorem pl_Row (b : Bool) (r : List (Nat × Nat)) : pl (encRow b r) = true := pl_mk (plL_map (pl_M1 b) r)
theorem pl_Pr (b : Bool) (r : List (List (Nat × Nat))) : pl (encPr b r) = true := pl_mk (plL_map (pl_Row b) r)
theorem pl_W (b : Bool) (w : Wd) : pl (encW b w) = true := pl_mk (by simp [plL, pl_N1, pl_Pr])
theorem row_at {w : Wd} {c : Nat} (h : c < w.pr.length) : w.pr[c]? = some (rowOf w c) := by
  unfold rowOf
  rw [List.getElem?_eq_getElem h]
  rfl
theorem row_le {N : Net} {n : Nat} {w : Wd} (h : WdOk N n w) (c : Nat) : (rowOf w c).length ≤ n := by
  unfold rowOf
  cases e : w.pr[c]? with
  | none => exact Nat.zero_le _
  | some r => exact h.row r (List.mem_of_getElem? e)
theorem opn_le {N : Net} {n : Nat} {w : Wd} (h : WdOk N n w) (c : Nat) : (opn N w c).length ≤ n := by
  unfold opn
  split
  · rw [List.length_take]
    have := row_le h c
    omega
  · exact row_le h c
section
variable {N : Net} {n c : Nat} {w : Wd} {b : Bool} {s : Sto} {Q : D → Sto → Prop}
theorem in_ord (st : Sto) (k : Nat) : inD st (.str (kindOf k)) (.tup [.str "order", .str "order lossy"]) = some (ord k) ∧ inD st (.str (kindOf k)) (.lst [.str "order", .str "order lossy"]) = some (ord k) :=
  in_strs st (kindOf k) ["order", "order lossy"] (kind_chars k) (by decide +kernel)
theorem ch_at (hc : c < N.cs.length) : ∃ ch, N.cs[c]? = some ch ∧ chK N c = ch.kind := by
  refine ⟨N.cs[c], by simp [hc], ?_⟩
  unfold chK
  rw [List.getElem?_eq_getElem hc]
theorem w_ordered (hc : c < N.cs.length) (q : Q (.bl (ord (chK N c))) s) : wx X (m_is_ordered [netD N, .int c] s) Q := by
  obtain ⟨ch, h, e⟩ := ch_at hc
  rw [e] at q
  have hk := (in_ord s ch.kind).1
  unfold m_is_ordered
  refine w_run ?_
  show wo (mb_is_ordered [some (netD N), some (.int c)] s) _ _ _ _
  unfold mb_is_ordered
  refine o_ret (w_bin (w_bin (w_bin (w_fld (w_var rfl ⟨_, fld_c N s, w_var rfl (w_ixT (at_C N h) (w_c (w_ixT rfl ?_)))⟩)))))
  repeat (first | (with_reducible apply w_bin) | (with_reducible apply w_m1) | (with_reducible apply w_un) | (with_reducible apply w_cons) | (with_reducible apply w_nil) | (with_reducible apply w_callN) | ((with_reducible apply w_var); exact rfl) | (with_reducible apply w_c) | (with_reducible apply w_T) | (with_reducible apply w_NotT) | (with_reducible apply w_AndT) | (with_reducible apply w_OrT) | (with_reducible apply w_And) | (with_reducible apply w_Or) | (with_reducible apply w_Not) | (with_reducible apply w_If) | (with_reducible apply w_tup) | (with_reducible apply w_lstF) | (with_reducible apply w_noP) | (with_reducible apply w_part) | (with_reducible apply w_slice) | (with_reducible apply w_isN) | (with_reducible apply w_add) | (with_reducible apply w_sub) | (with_reducible apply w_gt) | (with_reducible apply w_lt) | (with_reducible apply w_ge) | (with_reducible apply w_le) | (with_reducible apply w_eqI) | (with_reducible apply w_neI) | (with_reducible apply w_eqS) | (with_reducible apply w_neS) | ((with_reducible apply x_ixT); exact rfl; exact rfl) | ((with_reducible apply x_ixL); exact rfl; exact rfl) | ((with_reducible apply x_lenT); exact rfl) | ((with_reducible apply x_lenL); exact rfl) | (with_reducible apply w_intI) | (with_reducible apply w_intB) | (with_reducible apply w_tupT) | (with_reducible apply w_tupL) | (with_reducible apply w_slT) | (with_reducible apply w_slL) | (with_reducible apply w_iSeq) | (with_reducible apply w_iRg1) | (with_reducible apply ex_bl) | (with_reducible apply ex_int) | (with_reducible apply ex_neg) | (with_reducible refine And.intro (Nat.le_of_ble_eq_true rfl) ?_) | (with_reducible refine And.intro (rfl : List.length _ = _) ?_))
  refine w_lift (d := .bl (ord ch.kind)) (s := s) ?_ (fin_same rfl q)
  unfold kindOf at hk
  show oIn false (.str (kinds[ch.kind]?.getD "order")) (.tup [.str "order", .str "order lossy"]) s = _
  unfold oIn
  rw [hk]
  rfl
theorem w_lossy (hc : c < N.cs.length) (q : Q (.bl (lossy (chK N c))) s) : wx X (m_is_lossy [netD N, .int c] s) Q := by
  obtain ⟨ch, h, e⟩ := ch_at hc
  rw [e] at q
  exact w_eq (l_is_lossy N c ch s h) q
theorem at_enc {α : Type} {f : α → D} {l : List α} {i : Nat} {x : α} (h : l[i]? = some x) : L2.atI (l.map f) (i : Int) = some (f x) := by rw [at_nat, List.getElem?_map, h]; rfl
theorem w_open (h : WdOk N n w) (hn : n < 10000) (hc : c < N.cs.length) (q : Q (.tup ((opn N w c).map (encM true))) s) : wx X (m_open_messages_of [netD N, encW b w, .int c] s) Q := by
  have hrow := row_at (w := w) (c := c) (by rw [h.pr]; exact hc)
  have hlen := row_le h c
  unfold m_open_messages_of
  refine w_run ?_
  show wo (mb_open_messages_of [some (netD N), some (encW b w), some (.int c), none, none] s) _ _ _ _
  unfold mb_open_messages_of
  refine o_seq (o_set (w_m1 ?_))
  refine w_compA (rowOf w c) (encM b) (encM true) ?_ (by omega) ?_ (fun x _ => pl_M1 true x) ?_
  · refine w_iSeq ?_
    refine w_bin (w_bin (w_var rfl (w_c (m_ix rfl (w_var rfl (m_ix (at_enc hrow) ⟨_, m_iter, rfl, rfl⟩))))))
  · intro x _
    exact ⟨_, rfl, fun s' => w_m1 (w_var rfl (m_tup ⟨rfl, rfl⟩))⟩
  repeat (first | (with_reducible apply w_bin) | (with_reducible apply w_m1) | (with_reducible apply w_un) | (with_reducible apply w_cons) | (with_reducible apply w_nil) | (with_reducible apply w_callN) | ((with_reducible apply w_var); exact rfl) | (with_reducible apply w_c) | (with_reducible apply w_T) | (with_reducible apply w_NotT) | (with_reducible apply w_AndT) | (with_reducible apply w_OrT) | (with_reducible apply w_And) | (with_reducible apply w_Or) | (with_reducible apply w_Not) | (with_reducible apply w_If) | (with_reducible apply w_tup) | (with_reducible apply w_lstF) | (with_reducible apply w_noP) | (with_reducible apply w_part) | (with_reducible apply w_slice) | (with_reducible apply w_isN) | (with_reducible apply w_add) | (with_reducible apply w_sub) | (with_reducible apply w_gt) | (with_reducible apply w_lt) | (with_reducible apply w_ge) | (with_reducible apply w_le) | (with_reducible apply w_eqI) | (with_reducible apply w_neI) | (with_reducible apply w_eqS) | (with_reducible apply w_neS) | ((with_reducible apply x_ixT); exact rfl; exact rfl) | ((with_reducible apply x_ixL); exact rfl; exact rfl) | ((with_reducible apply x_lenT); exact rfl) | ((with_reducible apply x_lenL); exact rfl) | (with_reducible apply w_intI) | (with_reducible apply w_intB) | (with_reducible apply w_tupT) | (with_reducible apply w_tupL) | (with_reducible apply w_slT) | (with_reducible apply w_slL) | (with_reducible apply w_iSeq) | (with_reducible apply w_iRg1) | (with_reducible apply ex_bl) | (with_reducible apply ex_int) | (with_reducible apply ex_neg) | (with_reducible refine And.intro (Nat.le_of_ble_eq_true rfl) ?_) | (with_reducible refine And.intro (rfl : List.length _ = _) ?_))
  refine o_ret (w_If (w_T ?_))
  repeat (first | (with_reducible apply w_bin) | (with_reducible apply w_m1) | (with_reducible apply w_un) | (with_reducible apply w_cons) | (with_reducible apply w_nil) | (with_reducible apply w_callN) | ((with_reducible apply w_var); exact rfl) | (with_reducible apply w_c) | (with_reducible apply w_T) | (with_reducible apply w_NotT) | (with_reducible apply w_AndT) | (with_reducible apply w_OrT) | (with_reducible apply w_And) | (with_reducible apply w_Or) | (with_reducible apply w_Not) | (with_reducible apply w_If) | (with_reducible apply w_tup) | (with_reducible apply w_lstF) | (with_reducible apply w_noP) | (with_reducible apply w_part) | (with_reducible apply w_slice) | (with_reducible apply w_isN) | (with_reducible apply w_add) | (with_reducible apply w_sub) | (with_reducible apply w_gt) | (with_reducible apply w_lt) | (with_reducible apply w_ge) | (with_reducible apply w_le) | (with_reducible apply w_eqI) | (with_reducible apply w_neI) | (with_reducible apply w_eqS) | (with_reducible apply w_neS) | ((with_reducible apply x_ixT); exact rfl; exact rfl) | ((with_reducible apply x_ixL); exact rfl; exact rfl) | ((with_reducible apply x_lenT); exact rfl) | ((with_reducible apply x_lenL); exact rfl) | (with_reducible apply w_intI) | (with_reducible apply w_intB) | (with_reducible apply w_tupT) | (with_reducible apply w_tupL) | (with_reducible apply w_slT) | (with_reducible apply w_slL) | (with_reducible apply w_iSeq) | (with_reducible apply w_iRg1) | (with_reducible apply ex_bl) | (with_reducible apply ex_int) | (with_reducible apply ex_neg) | (with_reducible refine And.intro (Nat.le_of_ble_eq_true rfl) ?_) | (with_reducible refine And.intro (rfl : List.length _ = _) ?_))
  refine w_ordered hc ?_
  repeat (first | (with_reducible apply w_bin) | (with_reducible apply w_m1) | (with_reducible apply w_un) | (with_reducible apply w_cons) | (with_reducible apply w_nil) | (with_reducible apply w_callN) | ((with_reducible apply w_var); exact rfl) | (with_reducible apply w_c) | (with_reducible apply w_T) | (with_reducible apply w_NotT) | (with_reducible apply w_AndT) | (with_reducible apply w_OrT) | (with_reducible apply w_And) | (with_reducible apply w_Or) | (with_reducible apply w_Not) | (with_reducible apply w_If) | (with_reducible apply w_tup) | (with_reducible apply w_lstF) | (with_reducible apply w_noP) | (with_reducible apply w_part) | (with_reducible apply w_slice) | (with_reducible apply w_isN) | (with_reducible apply w_add) | (with_reducible apply w_sub) | (with_reducible apply w_gt) | (with_reducible apply w_lt) | (with_reducible apply w_ge) | (with_reducible apply w_le) | (with_reducible apply w_eqI) | (with_reducible apply w_neI) | (with_reducible apply w_eqS) | (with_reducible apply w_neS) | ((with_reducible apply x_ixT); exact rfl; exact rfl) | ((with_reducible apply x_ixL); exact rfl; exact rfl) | ((with_reducible apply x_lenT); exact rfl) | ((with_reducible apply x_lenL); exact rfl) | (with_reducible apply w_intI) | (with_reducible apply w_intB) | (with_reducible apply w_tupT) | (with_reducible apply w_tupL) | (with_reducible apply w_slT) | (with_reducible apply w_slL) | (with_reducible apply w_iSeq) | (with_reducible apply w_iRg1) | (with_reducible apply ex_bl) | (with_reducible apply ex_int) | (with_reducible apply ex_neg) | (with_reducible refine And.intro (Nat.le_of_ble_eq_true rfl) ?_) | (with_reducible refine And.intro (rfl : List.length _ = _) ?_))
  have e1 : ∀ l : List D, cutD l none (some 1) = l.take 1 := fun l => cut_to l (k := 1)
  refine ⟨fun ho => ?_, fun ho => ?_⟩
  · repeat (first | (with_reducible apply w_bin) | (with_reducible apply w_m1) | (with_reducible apply w_un) | (with_reducible apply w_cons) | (with_reducible apply w_nil) | (with_reducible apply w_callN) | ((with_reducible apply w_var); exact rfl) | (with_reducible apply w_c) | (with_reducible apply w_T) | (with_reducible apply w_NotT) | (with_reducible apply w_AndT) | (with_reducible apply w_OrT) | (with_reducible apply w_And) | (with_reducible apply w_Or) | (with_reducible apply w_Not) | (with_reducible apply w_If) | (with_reducible apply w_tup) | (with_reducible apply w_lstF) | (with_reducible apply w_noP) | (with_reducible apply w_part) | (with_reducible apply w_slice) | (with_reducible apply w_isN) | (with_reducible apply w_add) | (with_reducible apply w_sub) | (with_reducible apply w_gt) | (with_reducible apply w_lt) | (with_reducible apply w_ge) | (with_reducible apply w_le) | (with_reducible apply w_eqI) | (with_reducible apply w_neI) | (with_reducible apply w_eqS) | (with_reducible apply w_neS) | ((with_reducible apply x_ixT); exact rfl; exact rfl) | ((with_reducible apply x_ixL); exact rfl; exact rfl) | ((with_reducible apply x_lenT); exact rfl) | ((with_reducible apply x_lenL); exact rfl) | (with_reducible apply w_intI) | (with_reducible apply w_intB) | (with_reducible apply w_tupT) | (with_reducible apply w_tupL) | (with_reducible apply w_slT) | (with_reducible apply w_slL) | (with_reducible apply w_iSeq) | (with_reducible apply w_iRg1) | (with_reducible apply ex_bl) | (with_reducible apply ex_int) | (with_reducible apply ex_neg) | (with_reducible refine And.intro (Nat.le_of_ble_eq_true rfl) ?_) | (with_reducible refine And.intro (rfl : List.length _ = _) ?_))
    rw [e1, ← List.map_take]
    refine fin_same (by unfold pl; exact plL_map (pl_M1 true) _) ?_
    unfold opn at q
    rw [if_pos ho] at q
    exact q
  · repeat (first | (with_reducible apply w_bin) | (with_reducible apply w_m1) | (with_reducible apply w_un) | (with_reducible apply w_cons) | (with_reducible apply w_nil) | (with_reducible apply w_callN) | ((with_reducible apply w_var); exact rfl) | (with_reducible apply w_c) | (with_reducible apply w_T) | (with_reducible apply w_NotT) | (with_reducible apply w_AndT) | (with_reducible apply w_OrT) | (with_reducible apply w_And) | (with_reducible apply w_Or) | (with_reducible apply w_Not) | (with_reducible apply w_If) | (with_reducible apply w_tup) | (with_reducible apply w_lstF) | (with_reducible apply w_noP) | (with_reducible apply w_part) | (with_reducible apply w_slice) | (with_reducible apply w_isN) | (with_reducible apply w_add) | (with_reducible apply w_sub) | (with_reducible apply w_gt) | (with_reducible apply w_lt) | (with_reducible apply w_ge) | (with_reducible apply w_le) | (with_reducible apply w_eqI) | (with_reducible apply w_neI) | (with_reducible apply w_eqS) | (with_reducible apply w_neS) | ((with_reducible apply x_ixT); exact rfl; exact rfl) | ((with_reducible apply x_ixL); exact rfl; exact rfl) | ((with_reducible apply x_lenT); exact rfl) | ((with_reducible apply x_lenL); exact rfl) | (with_reducible apply w_intI) | (with_reducible apply w_intB) | (with_reducible apply w_tupT) | (with_reducible apply w_tupL) | (with_reducible apply w_slT) | (with_reducible apply w_slL) | (with_reducible apply w_iSeq) | (with_reducible apply w_iRg1) | (with_reducible apply ex_bl) | (with_reducible apply ex_int) | (with_reducible apply ex_neg) | (with_reducible refine And.intro (Nat.le_of_ble_eq_true rfl) ?_) | (with_reducible refine And.intro (rfl : List.length _ = _) ?_))
    refine fin_same (by unfold pl; exact plL_map (pl_M1 true) _) ?_
    unfold opn at q
    rw [if_neg (by rw [ho]; simp)] at q
    exact q
end
end K

namespace K
open PySem Cw
variable {X : Nat → D → Sto → Prop}
inductive Deed where
  | act (r : Nat)
  | take (r k : Nat)
  | lose (c k : Nat)
def encD : Deed → D
  | .act r => .tup [.str "act", .int r]
  | .take r k => .tup [.str "take", .int r, .int k]
  | .lose c k => .tup [.str "lose", .int c, .int k]
theorem pl_D (d : Deed) : pl (encD d) = true := by cases d <;> rfl
/-- what a rule can do -/
def ruD (N : Net) (w : Wd) (r : Nat) (ru : Rule) : List Deed := if w.st[ru.p]? = some ru.s then match ru.a with
  | .take c t => ((opn N w c).filter fun m => decide (m.2 = t)).map fun m => .take r m.1
  | _ => [.act r] else []
def rD (N : Net) (w : Wd) (r : Nat) : List Deed := match N.rs[r]? with
  | some ru => ruD N w r ru
  | none => []
def lD (N : Net) (w : Wd) (c : Nat) : List Deed := if lossy (chK N c) = true then (opn N w c).map fun m => .lose c m.1 else []
def upto {α : Type} (f : Nat → List α) (j : Nat) : List α := ((List.range j).map f).flatten
def poss (N : Net) (w : Wd) : List Deed := upto (rD N w) N.rs.length ++ upto (lD N w) N.cs.length
theorem upto_succ {α : Type} (f : Nat → List α) (j : Nat) : upto f (j + 1) = upto f j ++ f j := by
  unfold upto
  rw [List.range_succ, List.map_append, List.flatten_append]
  simp
theorem upto_len {α : Type} {f : Nat → List α} {n : Nat} (h : ∀ i, (f i).length ≤ n) : ∀ j, (upto f j).length ≤ j * n
  | 0 => by simp [upto]
  | j + 1 => by
    have h1 := upto_len h j
    have h2 := h j
    rw [upto_succ, List.length_append, Nat.succ_mul]
    omega
theorem upto_mem {α : Type} {f : Nat → List α} {x : α} {j : Nat} (h : x ∈ upto f j) : ∃ i, i < j ∧ x ∈ f i := by
  unfold upto at h
  obtain ⟨l, hl, hx⟩ := List.mem_flatten.mp h
  obtain ⟨i, hi, rfl⟩ := List.mem_map.mp hl
  exact ⟨i, List.mem_range.mp hi, hx⟩
theorem upto_in {α : Type} {f : Nat → List α} {x : α} {i j : Nat} (hi : i < j) (h : x ∈ f i) : x ∈ upto f j := by
  unfold upto
  exact List.mem_flatten.mpr ⟨f i, List.mem_map.mpr ⟨i, List.mem_range.mpr hi, rfl⟩, h⟩
section
variable {N : Net} {n : Nat} {w : Wd}
theorem rD_len (h : WdOk N n w) (r : Nat) : (rD N w r).length ≤ n + 1 := by
  unfold rD ruD
  split
  · split
    · split
      · rename_i c t _
        rw [List.length_map]
        have h1 := List.length_filter_le (fun m : Nat × Nat => decide (m.2 = t)) (opn N w c)
        have h2 := opn_le h c
        omega
      · simp
    · simp
  · simp
theorem lD_len (h : WdOk N n w) (c : Nat) : (lD N w c).length ≤ n + 1 := by
  unfold lD
  split
  · rw [List.length_map]
    have := opn_le h c
    omega
  · simp
theorem poss_len (hN : NetOk N) (h : WdOk N n w) : (poss N w).length ≤ 48 * (n + 1) := by
  unfold poss
  have h1 := upto_len (rD_len h) N.rs.length
  have h2 := upto_len (lD_len h) N.cs.length
  have h3 := hN.r40
  have h4 := hN.c8
  rw [List.length_append]
  have h5 : N.rs.length * (n + 1) ≤ 40 * (n + 1) := Nat.mul_le_mul_right _ h3
  have h6 : N.cs.length * (n + 1) ≤ 8 * (n + 1) := Nat.mul_le_mul_right _ h4
  omega
end
theorem w_iEn {QI : IterD → Sto → Prop} {fa : EM D} {env : En} {st : Sto} (h : wp (fa env st) fun d s1 => ∃ ds, d = .tup ds ∧ QI ⟨enumD ds, []⟩ s1) : wp (iEn fa env st) QI :=
  w_bind (w_mono h fun d s ⟨ds, e, k⟩ => by
    subst e
    exact k)
theorem w_ext {k : Nat} {ds es : List D} {st : Sto} {Q : D → Sto → Prop} (hk : st[k]? = some (.lst ds)) (hl : ds.length + es.length ≤ LIM) (q : Q .non (st.set k (.lst (ds ++ es)))) : wx X (lift (oExtend (.ref k) [.lst es] st)) Q := by
  refine w_lift (d := .non) (s := st.set k (.lst (ds ++ es))) ?_ q
  unfold oExtend onCell
  simp only [seqW, hk, if_pos hl]
/-- found + [..]: a new cell -/
theorem w_addR {k : Nat} {ds es : List D} {st : Sto} {Q : D → Sto → Prop} (hk : st[k]? = some (.lst ds)) (hl : ds.length + es.length ≤ LIM) (q : Q (.ref st.length) (st ++ [.lst (ds ++ es)])) : wx X (lift (oAdd true (.ref k) (.lst es) st)) Q := by
  refine w_lift (d := .ref st.length) (s := st ++ [.lst (ds ++ es)]) ?_ q
  unfold oAdd
  simp only [seqW, hk, if_pos hl]
  rfl
theorem w_eqN {neg : Bool} {i j : Nat} {st : Sto} {Q : D → Sto → Prop} (q : Q (.bl (if neg then !decide (i = j) else decide (i = j))) st) : wx X (lift (oEq neg (.int i) (.int j) st)) Q := by
  have e : decide ((i : Int) = (j : Int)) = decide (i = j) := by
    rw [Bool.eq_iff_iff]
    simp
    omega
  unfold oEq eqD
  simp only [e]
  exact q
theorem encA_first (a : Act) : ∃ z rest, encA a = .tup (.str z :: rest) ∧ (z = "take" ↔ isTake a = true) := by
  obtain ⟨z, rest, h1, h2⟩ := enc_first a
  refine ⟨z, rest, h1, ?_⟩
  rw [← h2]
  simp
theorem w_first {a : Act} {st : Sto} {Q : D → Sto → Prop} (q : ∀ z : Str, (z = "take" ↔ isTake a = true) → Q (.str z) st) : wx X (lift (oIx (encA a) (.int 0) st)) Q := by
  obtain ⟨z, rest, h1, h2⟩ := encA_first a
  rw [h1]
  exact w_ixT (at0 _ _) (q z h2)
theorem len_map_lim {l : List Deed} {m : Nat} (h : l.length ≤ m) (hm : m ≤ 1000000) : (l.map encD).length ≤ 1000000 := by
  rw [List.length_map]
  omega
theorem lim_of {a : Nat} (h : a ≤ 2000000) : a ≤ LIM := Nat.le_trans h (Nat.le_of_ble_eq_true rfl)
theorem lim_lt {a : Nat} (h : a ≤ 2000000) : a < LIM := Nat.lt_of_le_of_lt h (Nat.le_of_ble_eq_true rfl)
section
variable {N : Net} {n : Nat} {w : Wd} {b : Bool} {s : Sto} {Q : D → Sto → Prop}
theorem fin_app {ext : Sto} {d : D} (p : pl d = true) (q : Q d s) : fin s Q d (s ++ ext) := fin_pl p (popB_app s ext) (by rw [take_app]; exact q)
end
end K

namespace K
open PySem Cw
variable {X : Nat → D → Sto → Prop}
theorem kind_ol (k : Nat) : kindOf k = "order lossy" ↔ (ord k = true ∧ lossy k = true) := by
  unfold ord lossy kindOf
  match k with
  | 0 => decide
  | 1 => decide
  | 2 => decide
  | 3 => decide
  | n + 4 =>
    have : kinds[n + 4]? = none := List.getElem?_eq_none (by simp [kinds])
    rw [this]
    decide
theorem kind_ll (k : Nat) : kindOf k = "loose lossy" ↔ (ord k = false ∧ lossy k = true) := by
  unfold ord lossy kindOf
  match k with
  | 0 => decide
  | 1 => decide
  | 2 => decide
  | 3 => decide
  | n + 4 =>
    have : kinds[n + 4]? = none := List.getElem?_eq_none (by simp [kinds])
    rw [this]
    decide
theorem enc_ch (ch : Chan) : encC ch = .tup [.str ch.nm, .int ch.giver, .int ch.taker, .str (kindOf ch.kind)] := rfl
section
variable {N : Net} {n : Nat} {w : Wd} {b : Bool} {s : Sto} {Q : D → Sto → Prop}
end
/-- a deed of the net -/
def DeedOk (N : Net) : Deed → Prop
  | .act r => ∃ ru, N.rs[r]? = some ru ∧ isTake ru.a = false
  | .take r _ => ∃ ru, N.rs[r]? = some ru ∧ isTake ru.a = true
  | .lose c _ => c < N.cs.length ∧ lossy (chK N c) = true
/-- it can be done -/
def canD (N : Net) (w : Wd) : Deed → Bool
  | .act r => match N.rs[r]? with
    | some ru => decide (w.st[ru.p]? = some ru.s)
    | none => false
  | .take r k => match N.rs[r]? with
    | some ru => decide (w.st[ru.p]? = some ru.s) && (match ru.a with
      | .take c t => decide ((k, t) ∈ opn N w c)
      | _ => false)
    | none => false
  | .lose c k => decide (k ∈ (opn N w c).map (·.1))
/-- the world behind -/
def beh (N : Net) (w : Wd) : Deed → Wd
  | .act r => match N.rs[r]? with
    | some ru => match ru.a with
      | .send c t => ⟨w.st.set ru.p ru.s2, w.se.set c (w.se[c]?.getD 0 + 1), w.pr.set c (rowOf w c ++ [(w.se[c]?.getD 0, t)])⟩
      | _ => ⟨w.st.set ru.p ru.s2, w.se, w.pr⟩
    | none => w
  | .take r k => match N.rs[r]? with
    | some ru => match ru.a with
      | .take c _ => ⟨w.st.set ru.p ru.s2, w.se, w.pr.set c ((rowOf w c).filter fun m => !decide (m.1 = k))⟩
      | _ => w
    | none => w
  | .lose c k => ⟨w.st, w.se, w.pr.set c ((rowOf w c).filter fun m => !decide (m.1 = k))⟩
theorem ru_ok {N : Net} {r : Nat} {ru : Rule} (hN : NetOk N) (h : N.rs[r]? = some ru) : ru.p < N.ps.length ∧ (∀ c t, (ru.a = .send c t ∨ ru.a = .take c t) → c < N.cs.length) := by
  obtain ⟨⟨pp, hpp, _, _⟩, hact⟩ := hN.rn ru (List.mem_of_getElem? h)
  refine ⟨(List.getElem?_eq_some_iff.mp hpp).1, fun c t e => ?_⟩
  rcases e with e | e
  · rw [e] at hact
    obtain ⟨⟨ch, hch, _⟩, _⟩ := hact
    exact (List.getElem?_eq_some_iff.mp hch).1
  · rw [e] at hact
    obtain ⟨⟨ch, hch, _⟩, _⟩ := hact
    exact (List.getElem?_eq_some_iff.mp hch).1
theorem beh_ok {N : Net} {n : Nat} {w : Wd} (hN : NetOk N) (h : WdOk N n w) (d : Deed) (hd : DeedOk N d) : WdOk N (n + 1) (beh N w d) := by
  have up : WdOk N (n + 1) w := ⟨h.st, h.se, h.pr, fun r hr => Nat.le_succ_of_le (h.row r hr), fun x hx => Nat.le_succ_of_le (h.sen x hx)⟩
  have flt : ∀ c k, ∀ r ∈ w.pr.set c ((rowOf w c).filter fun m => !decide (m.1 = k)), r.length ≤ n + 1 := fun c k r hr => by
    rcases List.mem_or_eq_of_mem_set hr with hr | rfl
    · exact up.row r hr
    · have h1 := List.length_filter_le (fun m : Nat × Nat => !decide (m.1 = k)) (rowOf w c)
      have h2 := row_le h c
      omega
  cases d with
  | act r =>
    obtain ⟨ru, hr, _⟩ := hd
    simp only [beh, hr]
    split
    · rename_i c t _
      refine ⟨by simpa using h.st, by simpa using h.se, by simpa using h.pr, fun r hr => ?_, fun x hx => ?_⟩
      · rcases List.mem_or_eq_of_mem_set hr with hr | rfl
        · exact up.row r hr
        · have h2 := row_le h c
          rw [List.length_append]
          simpa using h2
      · rcases List.mem_or_eq_of_mem_set hx with hx | rfl
        · exact up.sen x hx
        · cases e : w.se[c]? with
          | none => simp
          | some y =>
            have := h.sen y (List.mem_of_getElem? e)
            show y + 1 ≤ n + 1
            omega
    · exact ⟨by simpa using h.st, h.se, h.pr, up.row, up.sen⟩
  | take r k =>
    obtain ⟨ru, hr, _⟩ := hd
    simp only [beh, hr]
    split
    · rename_i c t _
      exact ⟨by simpa using h.st, h.se, by simpa using h.pr, flt c k, up.sen⟩
    · exact up
  | lose c k => exact ⟨h.st, h.se, by simpa [beh] using h.pr, flt c k, up.sen⟩
theorem poss_ok {N : Net} {w : Wd} {d : Deed} (h : d ∈ poss N w) : DeedOk N d ∧ canD N w d = true := by
  unfold poss at h
  rcases List.mem_append.mp h with h | h
  · obtain ⟨r, hr, h⟩ := upto_mem h
    unfold rD at h
    cases e : N.rs[r]? with
    | none => rw [e] at h; cases h
    | some ru =>
      rw [e] at h
      simp only [ruD] at h
      split at h
      · rename_i hs
        split at h
        · rename_i c t ea
          obtain ⟨m, hm, rfl⟩ := List.mem_map.mp h
          obtain ⟨h1, h2⟩ := List.mem_filter.mp hm
          have h2 : m.2 = t := of_decide_eq_true h2
          refine ⟨⟨ru, e, by rw [ea]; rfl⟩, ?_⟩
          simp only [canD, e, ea, hs]
          subst h2
          simpa using h1
        · rename_i hne
          rw [List.mem_singleton] at h
          subst h
          refine ⟨⟨ru, e, ?_⟩, ?_⟩
          · cases ea : ru.a with
            | take c t => exact absurd ea (hne c t)
            | _ => rfl
          · simp only [canD, e]
            simpa using hs
      · cases h
  · obtain ⟨c, hc, h⟩ := upto_mem h
    unfold lD at h
    split at h
    · rename_i hl
      obtain ⟨m, hm, rfl⟩ := List.mem_map.mp h
      refine ⟨⟨hc, hl⟩, ?_⟩
      simp only [canD]
      rw [decide_eq_true_eq]
      exact List.mem_map_of_mem hm
    · cases h
theorem ok_poss {N : Net} {w : Wd} {d : Deed} (h : DeedOk N d) (hc : canD N w d = true) : d ∈ poss N w := by
  unfold poss
  rw [List.mem_append]
  cases d with
  | act r =>
    obtain ⟨ru, e, h2⟩ := h
    simp only [canD, e] at hc
    refine .inl (upto_in (i := r) (List.getElem?_eq_some_iff.mp e).1 ?_)
    unfold rD ruD
    rw [e]
    simp only
    rw [if_pos (by simpa using hc)]
    split
    · rename_i c t ea
      rw [ea] at h2
      cases h2
    · simp
  | take r k =>
    obtain ⟨ru, e, h2⟩ := h
    simp only [canD, e] at hc
    refine .inl (upto_in (i := r) (List.getElem?_eq_some_iff.mp e).1 ?_)
    unfold rD ruD
    rw [e]
    simp only
    rw [Bool.and_eq_true] at hc
    obtain ⟨c1, c2⟩ := hc
    rw [if_pos (by simpa using c1)]
    split
    · rename_i c t ea
      rw [ea] at c2
      have c2 : (k, t) ∈ opn N w c := of_decide_eq_true c2
      exact List.mem_map.mpr ⟨(k, t), List.mem_filter.mpr ⟨c2, by simp⟩, rfl⟩
    · rename_i hne
      cases ea : ru.a with
      | take c t => exact absurd ea (hne c t)
      | go => rw [ea] at h2; cases h2
      | send c t => rw [ea] at h2; cases h2
  | lose c k =>
    obtain ⟨h1, h2⟩ := h
    refine .inr (upto_in h1 ?_)
    unfold lD
    rw [if_pos h2]
    have hc : k ∈ (opn N w c).map (·.1) := of_decide_eq_true hc
    obtain ⟨m, hm, rfl⟩ := List.mem_map.mp hc
    exact List.mem_map.mpr ⟨m, hm, rfl⟩
theorem set_cut {α : Type} {l : List α} {i : Nat} (h : i < l.length) (x : α) : l.take i ++ [x] ++ l.drop (i + 1) = l.set i x := by
  rw [List.set_eq_take_append_cons_drop, if_pos h]
  simp
section
variable {N : Net} {n : Nat} {w : Wd} {b : Bool} {s : Sto} {Q : D → Sto → Prop}
theorem w_withp {ds : List D} {i : Nat} {x : D} (h : i < ds.length) (hl : ds.length < 1000000) (hp : plL (ds.set i x) = true) (q : Q (.tup (ds.set i x)) s) : wx X (m__with_part [.tup ds, .int i, x] s) Q := by
  unfold m__with_part
  refine w_run ?_
  show wo (mb__with_part [some (.tup ds), some (.int i), some x] s) _ _ _ _
  unfold mb__with_part
  have e2 : cutD ds (some ((i : Int) + 1)) none = ds.drop (i + 1) := cut_from ds (k := i + 1)
  refine o_ret ?_
  repeat (first | (with_reducible apply w_bin) | (with_reducible apply w_m1) | (with_reducible apply w_un) | (with_reducible apply w_cons) | (with_reducible apply w_nil) | (with_reducible apply w_callN) | ((with_reducible apply w_var); exact rfl) | (with_reducible apply w_c) | (with_reducible apply w_T) | (with_reducible apply w_NotT) | (with_reducible apply w_AndT) | (with_reducible apply w_OrT) | (with_reducible apply w_And) | (with_reducible apply w_Or) | (with_reducible apply w_Not) | (with_reducible apply w_If) | (with_reducible apply w_tup) | (with_reducible apply w_lstF) | (with_reducible apply w_noP) | (with_reducible apply w_part) | (with_reducible apply w_slice) | (with_reducible apply w_isN) | (with_reducible apply w_add) | (with_reducible apply w_sub) | (with_reducible apply w_gt) | (with_reducible apply w_lt) | (with_reducible apply w_ge) | (with_reducible apply w_le) | (with_reducible apply w_eqI) | (with_reducible apply w_neI) | (with_reducible apply w_eqS) | (with_reducible apply w_neS) | ((with_reducible apply x_ixT); exact rfl; exact rfl) | ((with_reducible apply x_ixL); exact rfl; exact rfl) | ((with_reducible apply x_lenT); exact rfl) | ((with_reducible apply x_lenL); exact rfl) | (with_reducible apply w_intI) | (with_reducible apply w_intB) | (with_reducible apply w_tupT) | (with_reducible apply w_tupL) | (with_reducible apply w_slT) | (with_reducible apply w_slL) | (with_reducible apply w_iSeq) | (with_reducible apply w_iRg1) | (with_reducible apply ex_bl) | (with_reducible apply ex_int) | (with_reducible apply ex_neg) | (with_reducible refine And.intro (Nat.le_of_ble_eq_true rfl) ?_) | (with_reducible refine And.intro (rfl : List.length _ = _) ?_))
  rw [cut_to]
  refine w_addT (lim_of (by simp; omega)) ?_
  repeat (first | (with_reducible apply w_bin) | (with_reducible apply w_m1) | (with_reducible apply w_un) | (with_reducible apply w_cons) | (with_reducible apply w_nil) | (with_reducible apply w_callN) | ((with_reducible apply w_var); exact rfl) | (with_reducible apply w_c) | (with_reducible apply w_T) | (with_reducible apply w_NotT) | (with_reducible apply w_AndT) | (with_reducible apply w_OrT) | (with_reducible apply w_And) | (with_reducible apply w_Or) | (with_reducible apply w_Not) | (with_reducible apply w_If) | (with_reducible apply w_tup) | (with_reducible apply w_lstF) | (with_reducible apply w_noP) | (with_reducible apply w_part) | (with_reducible apply w_slice) | (with_reducible apply w_isN) | (with_reducible apply w_add) | (with_reducible apply w_sub) | (with_reducible apply w_gt) | (with_reducible apply w_lt) | (with_reducible apply w_ge) | (with_reducible apply w_le) | (with_reducible apply w_eqI) | (with_reducible apply w_neI) | (with_reducible apply w_eqS) | (with_reducible apply w_neS) | ((with_reducible apply x_ixT); exact rfl; exact rfl) | ((with_reducible apply x_ixL); exact rfl; exact rfl) | ((with_reducible apply x_lenT); exact rfl) | ((with_reducible apply x_lenL); exact rfl) | (with_reducible apply w_intI) | (with_reducible apply w_intB) | (with_reducible apply w_tupT) | (with_reducible apply w_tupL) | (with_reducible apply w_slT) | (with_reducible apply w_slL) | (with_reducible apply w_iSeq) | (with_reducible apply w_iRg1) | (with_reducible apply ex_bl) | (with_reducible apply ex_int) | (with_reducible apply ex_neg) | (with_reducible refine And.intro (Nat.le_of_ble_eq_true rfl) ?_) | (with_reducible refine And.intro (rfl : List.length _ = _) ?_))
  rw [e2]
  refine w_addT (lim_of (by simp; omega)) ?_
  rw [set_cut h]
  exact fin_same (by unfold pl; exact hp) q
theorem set_enc {α : Type} {f : α → D} (hf : ∀ a, pl (f a) = true) (l : List α) (i : Nat) (x : α) : (l.map f).set i (f x) = (l.set i x).map f ∧ plL ((l.map f).set i (f x)) = true := by
  have e : (l.map f).set i (f x) = (l.set i x).map f := List.map_set.symm
  exact ⟨e, by rw [e]; exact plL_map hf _⟩
theorem w_wpN {l : List Nat} {i v : Nat} (h : i < l.length) (hl : l.length < 1000000) (q : Q (encN true (l.set i v)) s) : wx X (m__with_part [encN true l, .int i, .int v] s) Q := by
  obtain ⟨e, p⟩ := set_enc (f := encI) (fun _ => rfl) l i v
  refine w_withp (ds := l.map encI) (x := encI v) (by simpa using h) (by simpa using hl) p ?_
  rw [e]
  exact q
theorem w_wpP {l : List (List (Nat × Nat))} {i : Nat} {v : List (Nat × Nat)} (h : i < l.length) (hl : l.length < 1000000) (q : Q (encPr true (l.set i v)) s) : wx X (m__with_part [encPr true l, .int i, encRow true v] s) Q := by
  obtain ⟨e, p⟩ := set_enc (f := encRow true) (pl_Row true) l i v
  refine w_withp (ds := l.map (encRow true)) (x := encRow true v) (by simpa using h) (by simpa using hl) p ?_
  rw [e]
  exact q
theorem w_without {pr : List (List (Nat × Nat))} {c k : Nat} {row : List (Nat × Nat)} (hc : pr[c]? = some row) (hl : pr.length < 1000000) (hr : row.length < 100000) (q : Q (encPr true (pr.set c (row.filter fun m => !decide (m.1 = k)))) s) : wx X (m__without_message [encPr true pr, .int c, .int k] s) Q := by
  have hcl := (List.getElem?_eq_some_iff.mp hc).1
  unfold m__without_message
  refine w_run ?_
  show wo (mb__without_message [some (encPr true pr), some (.int c), some (.int k), none, none] s) _ _ _ _
  unfold mb__without_message
  refine o_seq (o_set (w_m1 ?_))
  refine w_compF row (encM true) (fun m => !decide (m.1 = k)) (encM true) (w_iSeq (w_bin (w_var rfl (w_var rfl (m_ix (at_enc hc) ⟨_, m_iter, rfl, rfl⟩))))) (by omega) ?_ (fun m _ => pl_M1 true m) ?_
  · rintro ⟨k1, t1⟩ _
    refine ⟨_, rfl, fun s' => ?_⟩
    refine w_T (w_bin (w_bin (w_var rfl (w_c (m_ix (at0 _ _) (w_var rfl (w_eqN ⟨_, rfl, rfl, rfl, fun _ => ?_⟩)))))))
    exact w_m1 (w_var rfl (m_tup ⟨rfl, rfl⟩))
  · repeat (first | (with_reducible apply w_bin) | (with_reducible apply w_m1) | (with_reducible apply w_un) | (with_reducible apply w_cons) | (with_reducible apply w_nil) | (with_reducible apply w_callN) | ((with_reducible apply w_var); exact rfl) | (with_reducible apply w_c) | (with_reducible apply w_T) | (with_reducible apply w_NotT) | (with_reducible apply w_AndT) | (with_reducible apply w_OrT) | (with_reducible apply w_And) | (with_reducible apply w_Or) | (with_reducible apply w_Not) | (with_reducible apply w_If) | (with_reducible apply w_tup) | (with_reducible apply w_lstF) | (with_reducible apply w_noP) | (with_reducible apply w_part) | (with_reducible apply w_slice) | (with_reducible apply w_isN) | (with_reducible apply w_add) | (with_reducible apply w_sub) | (with_reducible apply w_gt) | (with_reducible apply w_lt) | (with_reducible apply w_ge) | (with_reducible apply w_le) | (with_reducible apply w_eqI) | (with_reducible apply w_neI) | (with_reducible apply w_eqS) | (with_reducible apply w_neS) | ((with_reducible apply x_ixT); exact rfl; exact rfl) | ((with_reducible apply x_ixL); exact rfl; exact rfl) | ((with_reducible apply x_lenT); exact rfl) | ((with_reducible apply x_lenL); exact rfl) | (with_reducible apply w_intI) | (with_reducible apply w_intB) | (with_reducible apply w_tupT) | (with_reducible apply w_tupL) | (with_reducible apply w_slT) | (with_reducible apply w_slL) | (with_reducible apply w_iSeq) | (with_reducible apply w_iRg1) | (with_reducible apply ex_bl) | (with_reducible apply ex_int) | (with_reducible apply ex_neg) | (with_reducible refine And.intro (Nat.le_of_ble_eq_true rfl) ?_) | (with_reducible refine And.intro (rfl : List.length _ = _) ?_))
    refine o_ret (w_callN ?_)
    repeat (first | (with_reducible apply w_bin) | (with_reducible apply w_m1) | (with_reducible apply w_un) | (with_reducible apply w_cons) | (with_reducible apply w_nil) | (with_reducible apply w_callN) | ((with_reducible apply w_var); exact rfl) | (with_reducible apply w_c) | (with_reducible apply w_T) | (with_reducible apply w_NotT) | (with_reducible apply w_AndT) | (with_reducible apply w_OrT) | (with_reducible apply w_And) | (with_reducible apply w_Or) | (with_reducible apply w_Not) | (with_reducible apply w_If) | (with_reducible apply w_tup) | (with_reducible apply w_lstF) | (with_reducible apply w_noP) | (with_reducible apply w_part) | (with_reducible apply w_slice) | (with_reducible apply w_isN) | (with_reducible apply w_add) | (with_reducible apply w_sub) | (with_reducible apply w_gt) | (with_reducible apply w_lt) | (with_reducible apply w_ge) | (with_reducible apply w_le) | (with_reducible apply w_eqI) | (with_reducible apply w_neI) | (with_reducible apply w_eqS) | (with_reducible apply w_neS) | ((with_reducible apply x_ixT); exact rfl; exact rfl) | ((with_reducible apply x_ixL); exact rfl; exact rfl) | ((with_reducible apply x_lenT); exact rfl) | ((with_reducible apply x_lenL); exact rfl) | (with_reducible apply w_intI) | (with_reducible apply w_intB) | (with_reducible apply w_tupT) | (with_reducible apply w_tupL) | (with_reducible apply w_slT) | (with_reducible apply w_slL) | (with_reducible apply w_iSeq) | (with_reducible apply w_iRg1) | (with_reducible apply ex_bl) | (with_reducible apply ex_int) | (with_reducible apply ex_neg) | (with_reducible refine And.intro (Nat.le_of_ble_eq_true rfl) ?_) | (with_reducible refine And.intro (rfl : List.length _ = _) ?_))
    exact w_wpP (v := row.filter fun m => !decide (m.1 = k)) hcl hl (fin_same (pl_Pr _ _) q)
theorem w_asdeed {d : Deed} (h : DeedOk N d) (q : Q (encD d) s) : wx X (m_as_deed [netD N, encD d] s) Q := by
  cases d with
  | act r =>
    obtain ⟨ru, hr, ht⟩ := h
    have := as_rule N true false r [] s (by omega) rfl (by simp)
    refine w_eq this ?_
    have e : ruAt N false r = true := by simp [ruAt, hr, ht]
    simp [e]
    exact q
  | take r k =>
    obtain ⟨ru, hr, ht⟩ := h
    have := as_rule N true true r [.int k] s (by omega) (by simp [nn]) (by simp)
    refine w_eq this ?_
    have e : ruAt N true r = true := by simp [ruAt, hr, ht]
    simp [e]
    exact q
  | lose c k =>
    obtain ⟨hc, hl⟩ := h
    have := as_lose N true c [.int k] s (by omega) (by simp [nn]) (by simp)
    refine w_eq this ?_
    obtain ⟨ch, hch, e2⟩ := ch_at hc
    rw [e2] at hl
    have e : chAt N c = true := by simp [chAt, hch, hl]
    simp [e]
    exact q
end
section
variable {N : Net} {n : Nat} {w : Wd} {b : Bool} {s : Sto} {Q : D → Sto → Prop}
theorem fld_rs (N : Net) (r : Nat) {ru : Rule} (h : N.rs[r]? = some ru) : L2.atI (N.rs.map encR) (r : Int) = some (encR ru) := at_enc h
theorem w_can {d : Deed} (hN : NetOk N) (h : WdOk N n w) (hn : n < 10000) (hd : DeedOk N d) (q : Q (.bl (canD N w d)) s) : wx X (m_can_do [netD N, encW b w, encD d] s) Q := by
  unfold m_can_do
  refine w_run ?_
  show wo (mb_can_do [some (netD N), some (encW b w), some (encD d), none, none, none, none, none] s) _ _ _ _
  unfold mb_can_do
  cases d with
  | lose c k =>
    obtain ⟨hc, hl⟩ := hd
    have hol := opn_le h c
    refine o_seq (o_if (w_T (w_bin (w_bin (w_var rfl (w_c (w_ixT (at0 _ _) (w_c (w_eqS ⟨_, rfl, fun _ => ?_, fun h => (by cases h)⟩)))))))))
    refine o_ret (w_bin (w_bin (w_var rfl (w_c (w_ixT (at2 _ _ _ _) ?_)))))
    refine w_compA (opn N w c) (encM true) (fun m => encI m.1) ?_ (by omega) ?_ (fun m _ => rfl) ?_
    · refine w_iSeq (w_callN (w_cons (w_var rfl (w_cons (w_var rfl (w_cons (w_bin (w_var rfl (w_c (w_ixT (at1 _ _ _) (w_nil ⟨rfl, ?_⟩)))))))))))
      exact w_open h hn hc ⟨_, rfl, rfl, rfl⟩
    · rintro ⟨k1, t1⟩ _
      exact ⟨_, rfl, fun s' => w_var rfl ⟨rfl, rfl⟩⟩
    · have hi := (in_nats s k ((opn N w c).map (·.1))).2
      rw [List.map_map] at hi
      refine w_lift (d := .bl (canD N w (.lose c k))) (s := s) ?_ (fin_same rfl q)
      unfold oIn
      have hi' : inD s (.int k) (.lst ((opn N w c).map fun m => encI m.1)) = some (canD N w (.lose c k)) := hi
      rw [hi']
      rfl
  | act r =>
    obtain ⟨ru, hr, ht⟩ := hd
    obtain ⟨hp, _⟩ := ru_ok hN hr
    obtain ⟨x0, hx0⟩ : ∃ x0, w.st[ru.p]? = some x0 := ⟨w.st[ru.p]'(by rw [h.st]; exact hp), by simp⟩
    refine o_seq (o_if (w_T (w_bin (w_bin (w_var rfl (w_c (w_ixT (at0 _ _) (w_c (w_eqS ⟨_, rfl, fun h => (by cases h), fun _ => ?_⟩)))))))))
    refine o_nil (o_seq (o_asg (w_bin (w_fld (w_var rfl ⟨_, fld_r N s, w_bin (w_var rfl (w_c (w_ixT (at1 _ _ _) (w_ixT (at_enc hr) ⟨_, _, rfl, ?_⟩))))⟩)))))
    refine o_seq (o_if (w_T (w_bin (w_bin (w_bin (w_var rfl (w_c (m_ix (at0 _ _) (w_var rfl (m_ix (at_enc hx0) (w_var rfl (w_eqN ⟨_, rfl, ?_, ?_⟩))))))))))))
    · intro he
      have he : ¬ x0 = ru.s := by simpa using he
      refine o_ret (w_c (fin_same rfl ?_))
      simp only [canD, hr, hx0] at q
      rw [decide_eq_false (by simpa using he)] at q
      exact q
    · intro he
      have he : x0 = ru.s := by simpa using he
      refine o_nil (o_ret (w_Or (w_bin (w_bin (w_var rfl (w_c (w_ixT (at0 _ _) (w_c (w_eqS ⟨_, rfl, fun _ => ?_, fun h => (by cases h)⟩)))))))))
      simp only [canD, hr, hx0] at q
      rw [decide_eq_true (by simpa using he)] at q
      exact fin_same rfl q
  | take r k =>
    obtain ⟨ru, hr, ht⟩ := hd
    obtain ⟨hp, hcs⟩ := ru_ok hN hr
    obtain ⟨x0, hx0⟩ : ∃ x0, w.st[ru.p]? = some x0 := ⟨w.st[ru.p]'(by rw [h.st]; exact hp), by simp⟩
    cases ea : ru.a with
    | go => rw [ea] at ht; cases ht
    | send c t => rw [ea] at ht; cases ht
    | take c t =>
      have hc := hcs c t (.inr ea)
      have hol := opn_le h c
      simp only [canD, hr, hx0, ea] at q
      refine o_seq (o_if (w_T (w_bin (w_bin (w_var rfl (w_c (w_ixT (at0 _ _) (w_c (w_eqS ⟨_, rfl, fun h => (by cases h), fun _ => ?_⟩)))))))))
      refine o_nil (o_seq (o_asg (w_bin (w_fld (w_var rfl ⟨_, fld_r N s, w_bin (w_var rfl (w_c (w_ixT (at1 _ _ _) (w_ixT (at_enc hr) ⟨_, _, rfl, ?_⟩))))⟩)))))
      refine o_seq (o_if (w_T (w_bin (w_bin (w_bin (w_var rfl (w_c (m_ix (at0 _ _) (w_var rfl (m_ix (at_enc hx0) (w_var rfl (w_eqN ⟨_, rfl, ?_, ?_⟩))))))))))))
      · intro he
        have he : ¬ x0 = ru.s := by simpa using he
        refine o_ret (w_c (fin_same rfl ?_))
        rw [decide_eq_false (by simpa using he)] at q
        exact q
      · intro he
        have he : x0 = ru.s := by simpa using he
        rw [decide_eq_true (by simpa using he), Bool.true_and] at q
        refine o_nil (o_ret (w_Or (w_bin (w_bin (w_var rfl (w_c (w_ixT (at0 _ _) (w_c (w_eqS ⟨_, rfl, fun h => (by cases h), fun _ => ?_⟩)))))))))
        rw [ea]
        refine w_bin (w_tup (w_cons (w_bin (w_var rfl (w_c (w_ixT (at2 _ _ _ _) (w_cons (w_bin (w_var rfl (w_c (w_ixT (at2 _ _ _ _) (w_nil ⟨Nat.le_of_ble_eq_true rfl, ?_⟩))))))))))))
        refine w_callN (w_cons (w_var rfl (w_cons (w_var rfl (w_cons (w_bin (w_var rfl (w_c (w_ixT (at1 _ _ _) (w_nil ⟨rfl, ?_⟩))))))))))
        refine w_open h hn hc ?_
        have hi := (in_msgs s (k, t) (opn N w c)).1
        refine w_lift (d := .bl (decide ((k, t) ∈ opn N w c))) (s := s) ?_ (fin_same rfl q)
        unfold oIn
        have hi' : inD s (.tup [.int k, .int t]) (.tup ((opn N w c).map (encM true))) = some (decide ((k, t) ∈ opn N w c)) := hi
        rw [hi']
        rfl
theorem w_behind {d : Deed} (hN : NetOk N) (h : WdOk N n w) (hn : n < 10000) (hd : DeedOk N d) (q : Q (encW true (beh N w d)) s) : wx X (m_behind [netD N, encW b w, encD d] s) Q := by
  have hc8 := hN.c8
  have hp5 := hN.p5
  have hst := h.st
  have hse := h.se
  have hpr := h.pr
  unfold m_behind
  refine w_run ?_
  show wo (mb_behind [some (netD N), some (encW b w), some (encD d), none, none, none, none, none, none, none, none, none, none] s) _ _ _ _
  unfold mb_behind
  refine o_seq (o_set (w_m1 (w_bin (w_var rfl (w_c (m_ix (at0 _ _) (m_tup ?_)))))))
  refine o_seq (o_set (w_m1 (w_bin (w_var rfl (w_c (m_ix (at1 _ _ _) (m_tup ?_)))))))
  refine o_seq (o_set (w_m1 ?_))
  refine w_compA w.pr (encRow b) (encRow true) (w_iSeq (w_bin (w_var rfl (w_c (m_ix (at2 _ _ _ _) ⟨_, m_iter, rfl, rfl⟩))))) (by omega) ?_ (fun m _ => pl_Row true m) ?_
  · intro r hr
    have hrl := h.row r hr
    refine ⟨_, rfl, fun s' => w_m1 ?_⟩
    refine w_compA r (encM b) (encM true) (w_iSeq (w_var rfl ⟨_, m_iter, rfl, rfl⟩)) (by omega) ?_ (fun m _ => pl_M1 true m) ?_
    · intro m _
      exact ⟨_, rfl, fun s' => w_m1 (w_var rfl (m_tup ⟨rfl, rfl⟩))⟩
    · repeat (first | (with_reducible apply w_bin) | (with_reducible apply w_m1) | (with_reducible apply w_un) | (with_reducible apply w_cons) | (with_reducible apply w_nil) | (with_reducible apply w_callN) | ((with_reducible apply w_var); exact rfl) | (with_reducible apply w_c) | (with_reducible apply w_T) | (with_reducible apply w_NotT) | (with_reducible apply w_AndT) | (with_reducible apply w_OrT) | (with_reducible apply w_And) | (with_reducible apply w_Or) | (with_reducible apply w_Not) | (with_reducible apply w_If) | (with_reducible apply w_tup) | (with_reducible apply w_lstF) | (with_reducible apply w_noP) | (with_reducible apply w_part) | (with_reducible apply w_slice) | (with_reducible apply w_isN) | (with_reducible apply w_add) | (with_reducible apply w_sub) | (with_reducible apply w_gt) | (with_reducible apply w_lt) | (with_reducible apply w_ge) | (with_reducible apply w_le) | (with_reducible apply w_eqI) | (with_reducible apply w_neI) | (with_reducible apply w_eqS) | (with_reducible apply w_neS) | ((with_reducible apply x_ixT); exact rfl; exact rfl) | ((with_reducible apply x_ixL); exact rfl; exact rfl) | ((with_reducible apply x_lenT); exact rfl) | ((with_reducible apply x_lenL); exact rfl) | (with_reducible apply w_intI) | (with_reducible apply w_intB) | (with_reducible apply w_tupT) | (with_reducible apply w_tupL) | (with_reducible apply w_slT) | (with_reducible apply w_slL) | (with_reducible apply w_iSeq) | (with_reducible apply w_iRg1) | (with_reducible apply ex_bl) | (with_reducible apply ex_int) | (with_reducible apply ex_neg) | (with_reducible refine And.intro (Nat.le_of_ble_eq_true rfl) ?_) | (with_reducible refine And.intro (rfl : List.length _ = _) ?_))
      exact ⟨rfl, rfl⟩
  repeat (first | (with_reducible apply w_bin) | (with_reducible apply w_m1) | (with_reducible apply w_un) | (with_reducible apply w_cons) | (with_reducible apply w_nil) | (with_reducible apply w_callN) | ((with_reducible apply w_var); exact rfl) | (with_reducible apply w_c) | (with_reducible apply w_T) | (with_reducible apply w_NotT) | (with_reducible apply w_AndT) | (with_reducible apply w_OrT) | (with_reducible apply w_And) | (with_reducible apply w_Or) | (with_reducible apply w_Not) | (with_reducible apply w_If) | (with_reducible apply w_tup) | (with_reducible apply w_lstF) | (with_reducible apply w_noP) | (with_reducible apply w_part) | (with_reducible apply w_slice) | (with_reducible apply w_isN) | (with_reducible apply w_add) | (with_reducible apply w_sub) | (with_reducible apply w_gt) | (with_reducible apply w_lt) | (with_reducible apply w_ge) | (with_reducible apply w_le) | (with_reducible apply w_eqI) | (with_reducible apply w_neI) | (with_reducible apply w_eqS) | (with_reducible apply w_neS) | ((with_reducible apply x_ixT); exact rfl; exact rfl) | ((with_reducible apply x_ixL); exact rfl; exact rfl) | ((with_reducible apply x_lenT); exact rfl) | ((with_reducible apply x_lenL); exact rfl) | (with_reducible apply w_intI) | (with_reducible apply w_intB) | (with_reducible apply w_tupT) | (with_reducible apply w_tupL) | (with_reducible apply w_slT) | (with_reducible apply w_slL) | (with_reducible apply w_iSeq) | (with_reducible apply w_iRg1) | (with_reducible apply ex_bl) | (with_reducible apply ex_int) | (with_reducible apply ex_neg) | (with_reducible refine And.intro (Nat.le_of_ble_eq_true rfl) ?_) | (with_reducible refine And.intro (rfl : List.length _ = _) ?_))
  show wo (sSeq _ _ [some (netD N), some (encW b w), some (encD d), some (encN true w.st), some (encN true w.se), some (encPr true w.pr), none, none, none, none, none, none, none] s) _ _ _ _
  cases d with
  | lose c k =>
    obtain ⟨hc, hl⟩ := hd
    refine o_seq (o_if (w_T (w_bin (w_bin (w_var rfl (w_c (w_ixT (at0 _ _) (w_c (w_eqS ⟨_, rfl, fun _ => ?_, fun h => (by cases h)⟩)))))))))
    refine o_ret (w_tup (w_cons (w_var rfl (w_cons (w_var rfl (w_cons (w_callN (w_cons (w_var rfl (w_cons (w_bin (w_var rfl (w_c (w_ixT (at1 _ _ _) (w_cons (w_bin (w_var rfl (w_c (w_ixT (at2 _ _ _ _) (w_nil ⟨rfl, ?_⟩))))))))))))))))))))
    refine w_without (row_at (w := w) (c := c) (by omega)) (by omega) (by have := row_le h c; omega) ?_
    refine w_nil ⟨Nat.le_of_ble_eq_true rfl, ?_⟩
    exact fin_same (pl_W true (beh N w (.lose c k))) q
  | act r =>
    obtain ⟨ru, hr, ht⟩ := hd
    obtain ⟨hp, hcs⟩ := ru_ok hN hr
    simp only [beh, hr] at q
    refine o_seq (o_if (w_T (w_bin (w_bin (w_var rfl (w_c (w_ixT (at0 _ _) (w_c (w_eqS ⟨_, rfl, fun h => (by cases h), fun _ => ?_⟩)))))))))
    refine o_nil (o_seq (o_asg (w_bin (w_fld (w_var rfl ⟨_, fld_r N s, w_bin (w_var rfl (w_c (w_ixT (at1 _ _ _) (w_ixT (at_enc hr) ⟨_, _, rfl, ?_⟩))))⟩)))))
    refine o_seq (o_set (w_callN (w_cons (w_var rfl (w_cons (w_var rfl (w_cons (w_var rfl (w_nil ⟨rfl, ?_⟩)))))))))
    refine w_wpN (by omega) (by omega) ?_
    cases ea : ru.a with
    | take c t => rw [ea] at ht; cases ht
    | go =>
      rw [ea] at q
      simp only at q
      refine o_seq (o_if (w_T (w_bin (w_bin (w_var rfl (w_c (w_ixT (at0 _ _) (w_c (w_eqS ⟨_, rfl, fun h => (by cases h), fun _ => ?_⟩)))))))))
      refine o_nil (o_seq (o_if (w_T (w_bin (w_bin (w_var rfl (w_c (w_ixT (at0 _ _) (w_c (w_eqS ⟨_, rfl, fun h => (by cases h), fun _ => o_nil ?_⟩))))))))))
      refine o_ret (w_tup (w_cons (w_var rfl (w_cons (w_var rfl (w_cons (w_var rfl (w_nil ⟨Nat.le_of_ble_eq_true rfl, ?_⟩))))))))
      exact fin_same (pl_W true ⟨w.st.set ru.p ru.s2, w.se, w.pr⟩) q
    | send c t =>
      rw [ea] at q
      simp only at q
      have hc := hcs c t (.inl ea)
      obtain ⟨k, hk⟩ : ∃ k, w.se[c]? = some k := ⟨w.se[c]'(by omega), by simp⟩
      rw [hk] at q
      refine o_seq (o_if (w_T (w_bin (w_bin (w_var rfl (w_c (w_ixT (at0 _ _) (w_c (w_eqS ⟨_, rfl, fun h => (by cases h), fun _ => ?_⟩)))))))))
      refine o_nil (o_seq (o_if (w_T (w_bin (w_bin (w_var rfl (w_c (w_ixT (at0 _ _) (w_c (w_eqS ⟨_, rfl, fun _ => ?_, fun h => (by cases h)⟩))))))))))
      have hrow := row_at (w := w) (c := c) (by omega)
      have hrl := row_le h c
      refine o_seq (o_set (w_bin (w_var rfl (w_bin (w_var rfl (w_c (w_ixT (at1 _ _ _) (m_ix (at_enc hk) ?_))))))))
      refine o_seq (o_set (w_callN (w_cons (w_var rfl (w_cons (w_bin (w_var rfl (w_c (w_ixT (at1 _ _ _) (w_cons (w_bin (w_bin (w_var rfl (w_bin (w_var rfl (w_c (w_ixT (at1 _ _ _) (m_ix (at_enc hrow) ?_))))))))))))))))))
      refine w_tup (w_cons (w_tup (w_cons (w_var rfl (w_cons (w_bin (w_var rfl (w_c (w_ixT (at2 _ _ _ _) (w_nil ⟨Nat.le_of_ble_eq_true rfl, w_nil ⟨Nat.le_of_ble_eq_true rfl, ?_⟩⟩))))))))))
      refine w_addT (lim_of (by rw [List.length_map]; simp; omega)) ?_
      have er : (rowOf w c).map (encM true) ++ [D.tup [.int k, .int t]] = (rowOf w c ++ [(k, t)]).map (encM true) := by
        rw [List.map_append]
        rfl
      have ec : encI k = D.int k := rfl
      rw [ec, er]
      refine w_nil ⟨rfl, ?_⟩
      refine w_wpP (v := rowOf w c ++ [(k, t)]) (by omega) (by omega) ?_
      refine o_set (w_callN (w_cons (w_var rfl (w_cons (w_bin (w_var rfl (w_c (w_ixT (at1 _ _ _) (w_cons (w_bin (w_var rfl (w_c (w_add (w_nil ⟨rfl, ?_⟩))))))))))))))
      refine w_wpN (v := k + 1) (by omega) (by omega) ?_
      refine o_ret (w_tup (w_cons (w_var rfl (w_cons (w_var rfl (w_cons (w_var rfl (w_nil ⟨Nat.le_of_ble_eq_true rfl, ?_⟩))))))))
      exact fin_same (pl_W true ⟨w.st.set ru.p ru.s2, w.se.set c (k + 1), w.pr.set c (rowOf w c ++ [(k, t)])⟩) q
  | take r k =>
    obtain ⟨ru, hr, ht⟩ := hd
    obtain ⟨hp, hcs⟩ := ru_ok hN hr
    cases ea : ru.a with
    | go => rw [ea] at ht; cases ht
    | send c t => rw [ea] at ht; cases ht
    | take c t =>
      have hc := hcs c t (.inr ea)
      simp only [beh, hr, ea] at q
      refine o_seq (o_if (w_T (w_bin (w_bin (w_var rfl (w_c (w_ixT (at0 _ _) (w_c (w_eqS ⟨_, rfl, fun h => (by cases h), fun _ => ?_⟩)))))))))
      refine o_nil (o_seq (o_asg (w_bin (w_fld (w_var rfl ⟨_, fld_r N s, w_bin (w_var rfl (w_c (w_ixT (at1 _ _ _) (w_ixT (at_enc hr) ⟨_, _, rfl, ?_⟩))))⟩)))))
      refine o_seq (o_set (w_callN (w_cons (w_var rfl (w_cons (w_var rfl (w_cons (w_var rfl (w_nil ⟨rfl, ?_⟩)))))))))
      refine w_wpN (by omega) (by omega) ?_
      rw [ea]
      refine o_seq (o_if (w_T (w_bin (w_bin (w_var rfl (w_c (w_ixT (at0 _ _) (w_c (w_eqS ⟨_, rfl, fun _ => ?_, fun h => (by cases h)⟩)))))))))
      refine o_ret (w_tup (w_cons (w_var rfl (w_cons (w_var rfl (w_cons (w_callN (w_cons (w_var rfl (w_cons (w_bin (w_var rfl (w_c (w_ixT (at1 _ _ _) (w_cons (w_bin (w_var rfl (w_c (w_ixT (at2 _ _ _ _) (w_nil ⟨rfl, ?_⟩))))))))))))))))))))
      refine w_without (row_at (w := w) (c := c) (by omega)) (by omega) (by have := row_le h c; omega) ?_
      refine w_nil ⟨Nat.le_of_ble_eq_true rfl, ?_⟩
      exact fin_same (pl_W true ⟨w.st.set ru.p ru.s2, w.se, w.pr.set c ((rowOf w c).filter fun m => !decide (m.1 = k))⟩) q
end
def w0 (N : Net) : Wd := ⟨List.replicate N.ps.length 0, List.replicate N.cs.length 0, List.replicate N.cs.length []⟩
theorem w0_ok (N : Net) : WdOk N 0 (w0 N) := ⟨by simp [w0], by simp [w0], by simp [w0], fun r hr => by
  rw [List.eq_of_mem_replicate hr]
  exact Nat.le_refl _, fun x hx => by
  rw [List.eq_of_mem_replicate hx]
  exact Nat.le_refl _⟩
theorem start_enc (N : Net) : startD N = encW true (w0 N) := by
  unfold startD encW w0 encN encPr mk
  simp [encI, encRow, mk]
theorem WdOk.up {N : Net} {n m : Nat} {w : Wd} (h : WdOk N n w) (hm : n ≤ m) : WdOk N m w := ⟨h.st, h.se, h.pr, fun r hr => Nat.le_trans (h.row r hr) hm, fun x hx => Nat.le_trans (h.sen x hx) hm⟩
theorem dm_of {k : Nat} {ds : List D} (h : ds.length < 100000) (ha : ∀ d ∈ ds, dm k d = true) (b : Bool) : dm (k + 1) (mk b ds) = true := by
  cases b
  · show dm (k + 1) (.lst ds) = true
    simp only [dm, Bool.and_eq_true, decide_eq_true_eq, List.all_eq_true]
    exact ⟨h, ha⟩
  · show dm (k + 1) (.tup ds) = true
    simp only [dm, Bool.and_eq_true, decide_eq_true_eq, List.all_eq_true]
    exact ⟨h, ha⟩
theorem dm_int (k : Nat) (i : Int) : dm k (.int i) = true := by cases k <;> rfl
theorem dm_str (k : Nat) (i : Str) : dm k (.str i) = true := by cases k <;> rfl
theorem dm_up : ∀ (k : Nat) (d : D), dm k d = true → dm (k + 1) d = true
  | 0, d, h => by cases d <;> simp [dm] at h <;> rfl
  | k + 1, d, h => by
    cases d <;> simp [dm] at h ⊢
    · exact ⟨h.1, fun x hx => dm_up k x (h.2 x hx)⟩
    · exact ⟨h.1, fun x hx => dm_up k x (h.2 x hx)⟩
theorem dm_map {α : Type} {k : Nat} {f : α → D} {l : List α} (h : l.length < 100000) (ha : ∀ a ∈ l, dm k (f a) = true) (b : Bool) : dm (k + 1) (mk b (l.map f)) = true :=
  dm_of (by rw [List.length_map]; exact h) (fun d hd => by
    obtain ⟨a, hm, rfl⟩ := List.mem_map.mp hd
    exact ha a hm) b
theorem dm_W {N : Net} {n : Nat} {w : Wd} (hN : NetOk N) (h : WdOk N n w) (hn : n < 10000) (b : Bool) : dm 4 (encW b w) = true := by
  have h1 := h.st
  have h2 := h.se
  have h3 := h.pr
  have h5 := hN.p5
  have h8 := hN.c8
  refine dm_of (k := 3) (by simp) ?_ b
  intro d hd
  simp only [List.mem_cons, List.not_mem_nil, or_false] at hd
  rcases hd with rfl | rfl | rfl
  · exact dm_up 2 _ (dm_up 1 _ (dm_map (k := 0) (by omega) (fun a _ => dm_int 0 _) b))
  · exact dm_up 2 _ (dm_up 1 _ (dm_map (k := 0) (by omega) (fun a _ => dm_int 0 _) b))
  · refine dm_map (k := 2) (by omega) (fun r hr => ?_) b
    have := h.row r hr
    refine dm_map (k := 1) (by omega) (fun m _ => ?_) b
    exact dm_of (k := 0) (by simp) (fun d hd => by
      simp only [List.mem_cons, List.not_mem_nil, or_false] at hd
      rcases hd with rfl | rfl <;> exact dm_int 0 _) b
theorem dm_D (d : Deed) : dm 1 (encD d) = true := by cases d <;> simp [encD, dm]
theorem dm_poss {l : List Deed} (h : l.length < 100000) : dm 2 (.tup (l.map encD)) = true := dm_map (k := 1) h (fun d _ => dm_D d) true
section
variable {N : Net} {n : Nat} {w : Wd} {b : Bool} {s : Sto} {Q : D → Sto → Prop}
end
inductive At where
  | non
  | int (i : Int)
  | wd (k : Fin 5)
  deriving DecidableEq
def wrd (k : Fin 5) : Str := match k with
  | 0 => "act"
  | 1 => "take"
  | 2 => "lose"
  | 3 => "jump"
  | 4 => "0"
def encAt : At → D
  | .non => .non
  | .int i => .int i
  | .wd k => .str (wrd k)
def pyAt : At → PyData
  | .non => .none
  | .int i => .int i
  | .wd k => .str (wrd k)
def encT (l : List At) : D := .tup (l.map encAt)
theorem wrd_inj : ∀ a b : Fin 5, wrd a = wrd b → a = b := by decide
theorem wrd_chars : ∀ k : Fin 5, chars (wrd k) = true := by decide +kernel
theorem at_eqv (a b : At) : PyData.eqv (pyAt a) (pyAt b) = true ↔ a = b := by
  cases a <;> cases b <;> simp [pyAt, PyData.eqv]
  rename_i i j
  exact ⟨fun h => wrd_inj _ _ h, fun h => by rw [h]⟩
theorem atL_eqv : ∀ a b : List At, PyData.eqvAll (a.map pyAt) (b.map pyAt) = true ↔ a = b
  | [], [] => by simp [PyData.eqvAll]
  | [], _ :: _ => by simp [PyData.eqvAll]
  | _ :: _, [] => by simp [PyData.eqvAll]
  | x :: a, y :: b => by
    simp only [List.map_cons, PyData.eqvAll, Bool.and_eq_true, at_eqv, atL_eqv a b, List.cons.injEq]
theorem at_lay (a : At) : PyData.canLay0 (pyAt a) = true := by
  cases a with
  | non => simp [pyAt, PyData.canLay0]
  | int i => simp [pyAt, PyData.canLay0]
  | wd k => exact wrd_chars k
theorem at_toPy (a : At) : toPy (encAt a) = some (pyAt a) := by cases a <;> simp [encAt, pyAt, toPy]
theorem at_depth (a : At) : PyData.depth (pyAt a) = 0 := by cases a <;> simp [pyAt, PyData.depth]
theorem atL_depth : ∀ l : List At, PyData.depthAll (l.map pyAt) = 0
  | [] => by simp [PyData.depthAll]
  | x :: l => by
    have := at_depth x
    have := atL_depth l
    simp only [List.map_cons, PyData.depthAll]
    omega
theorem in_tups (st : Sto) (l : List At) (ls : List (List At)) : inD st (encT l) (.tup (ls.map encT)) = some (decide (l ∈ ls)) :=
  (in_map encT (fun l => .tuple (l.map pyAt)) (fun l => by
    unfold encT toPy
    rw [pyL_map encAt pyAt at_toPy]) (fun l => by
    unfold PyData.canLay0
    exact layL_map pyAt at_lay l) (fun l => by
    have := atL_depth l
    unfold PyData.depth
    omega) (fun a b => by
    unfold PyData.eqv
    exact atL_eqv a b) (fun st a => rfl) (fun a x h => by cases h) st l ls (decide (l ∈ ls)) (by simp)).1
def atD : Deed → List At
  | .act r => [.wd 0, .int r]
  | .take r k => [.wd 1, .int r, .int k]
  | .lose c k => [.wd 2, .int c, .int k]
theorem encD_at (d : Deed) : encD d = encT (atD d) := by cases d <;> rfl
theorem atD_inj {a b : Deed} (h : atD a = atD b) : a = b := by
  cases a <;> cases b <;> simp [atD] at h ⊢ <;> omega
theorem at_dt (a : At) : dt (encAt a) = true := by cases a <;> rfl
theorem at_pl (a : At) : pl (encAt a) = true := by cases a <;> rfl
theorem pl_T (l : List At) : pl (encT l) = true := by
  unfold encT pl
  exact plL_map at_pl l
/-- a part that is a number from 0 on -/
theorem at_nn (a : At) : nn (encAt a) = true ↔ ∃ n : Nat, a = .int n := by
  cases a with
  | int i =>
    simp only [encAt, nn, decide_eq_true_eq, At.int.injEq]
    exact ⟨fun h => ⟨i.toNat, by omega⟩, fun ⟨n, e⟩ => by omega⟩
  | non => simp [encAt, nn]
  | wd k => simp [encAt, nn]
theorem allnn {l : List At} (h : (l.map encAt).all nn = true) : ∃ ns : List Nat, l = ns.map fun n : Nat => At.int n := by
  induction l with
  | nil => exact ⟨[], rfl⟩
  | cons a l ih =>
    simp only [List.map_cons, List.all_cons, Bool.and_eq_true] at h
    obtain ⟨n, rfl⟩ := (at_nn a).mp h.1
    obtain ⟨ns, rfl⟩ := ih h.2
    exact ⟨n :: ns, rfl⟩
section
variable {N : Net} {n : Nat} {w : Wd} {b : Bool} {s : Sto} {Q : D → Sto → Prop}
/-- any tuple or list of such parts: a deed of the net, or none -/
theorem as_gen (N : Net) (l : List At) (hl : l.length ≤ 10) (b : Bool) (st : Sto) : (∃ d, l = atD d ∧ DeedOk N d ∧ m_as_deed [netD N, mk b (l.map encAt)] st = .ok (encD d) st) ∨ ((∀ d, l = atD d → ¬ DeedOk N d) ∧ m_as_deed [netD N, mk b (l.map encAt)] st = .ok .non st) := by
  match l, hl with
  | [], _ => exact .inr ⟨fun d e => (by cases d <;> cases e), as_short N b _ st rfl⟩
  | [x], _ => exact .inr ⟨fun d e => (by cases d <;> cases e), as_short N b _ st rfl⟩
  | .non :: y :: rest, _ => exact .inr ⟨fun d e => (by cases d <;> cases e), as_short N b _ st rfl⟩
  | .int i :: y :: rest, _ => exact .inr ⟨fun d e => (by cases d <;> cases e), as_short N b _ st rfl⟩
  | .wd k :: y :: rest, hl =>
    have hrl : (rest.map encAt).length < 900 := by
      rw [List.length_map]
      simp at hl
      omega
    cases hn : (encAt y :: rest.map encAt).all nn with
    | false =>
      refine .inr ⟨fun d e => ?_, as_part N b (wrd k) (encAt y) (rest.map encAt) st (fun z hz => ?_) hrl hn⟩
      · have h2 : (y :: rest).map encAt = encAt y :: rest.map encAt := rfl
        rw [← h2] at hn
        cases d with
        | act r =>
          injection e with e1 e2
          rw [e2] at hn
          simp [encAt, nn] at hn
        | take r k =>
          injection e with e1 e2
          rw [e2] at hn
          simp [encAt, nn] at hn
        | lose r k =>
          injection e with e1 e2
          rw [e2] at hn
          simp [encAt, nn] at hn
      · rcases List.mem_cons.mp hz with rfl | hz
        · exact at_dt y
        · obtain ⟨a, _, rfl⟩ := List.mem_map.mp hz
          exact at_dt a
    | true =>
      have h2 : (y :: rest).map encAt = encAt y :: rest.map encAt := rfl
      rw [← h2] at hn
      obtain ⟨ns, hns⟩ := allnn hn
      match ns, hns with
      | [], hns => cases hns
      | r :: ns, hns =>
        injection hns with e1 e2
        subst e1 e2
        have hmore : ((ns.map fun n : Nat => At.int n).map encAt).all nn = true := by
          rw [List.map_map, List.all_eq_true]
          intro z hz
          obtain ⟨a, _, rfl⟩ := List.mem_map.mp hz
          simp [encAt, nn]
        have hlen : ((ns.map fun n : Nat => At.int n).map encAt).length = ns.length := by simp
        have rule : ∀ t : Bool, wrd k = (if t then ("take" : Str) else "act") → (∀ d, (At.wd k :: At.int r :: ns.map fun n : Nat => At.int n) = atD d → DeedOk N d → ns.length = (if t then 1 else 0) ∧ ruAt N t r = true) → (ns.length = (if t then 1 else 0) → ruAt N t r = true → ∃ d, (At.wd k :: At.int r :: ns.map fun n : Nat => At.int n) = atD d ∧ DeedOk N d) →
            (∃ d, (At.wd k :: At.int r :: ns.map fun n : Nat => At.int n) = atD d ∧ DeedOk N d ∧ m_as_deed [netD N, mk b ((At.wd k :: At.int r :: ns.map fun n : Nat => At.int n).map encAt)] st = .ok (encD d) st) ∨ ((∀ d, (At.wd k :: At.int r :: ns.map fun n : Nat => At.int n) = atD d → ¬ DeedOk N d) ∧ m_as_deed [netD N, mk b ((At.wd k :: At.int r :: ns.map fun n : Nat => At.int n).map encAt)] st = .ok .non st) := fun t hk h1 h2 => by
          have := as_rule N b t r ((ns.map fun n : Nat => At.int n).map encAt) st (by omega) hmore hrl
          rw [← hk, hlen] at this
          by_cases hc : ns.length = (if t then 1 else 0) ∧ ruAt N t r = true
          · rw [if_pos hc] at this
            obtain ⟨d, e, hd⟩ := h2 hc.1 hc.2
            refine .inl ⟨d, e, hd, ?_⟩
            rw [encD_at, ← e]
            exact this
          · rw [if_neg hc] at this
            exact .inr ⟨fun d e hd => hc (h1 d e hd), this⟩
        have hru : ∀ t, ruAt N t r = true ↔ ∃ ru, N.rs[r]? = some ru ∧ isTake ru.a = t := fun t => by
          unfold ruAt
          rw [Int.toNat_natCast]
          cases e : N.rs[r]? with
          | none => simp
          | some ru => simp
        match k with
        | 0 =>
          refine rule false rfl (fun d e hd => ?_) (fun g1 g2 => ?_)
          · cases d with
            | act r2 =>
              simp [atD] at e
              obtain ⟨e1, e2⟩ := e
              have e1 : r = r2 := by omega
              subst e1 e2
              exact ⟨rfl, (hru false).mpr hd⟩
            | take r2 k2 => simp [atD] at e
            | lose r2 k2 => simp [atD] at e
          · have : ns = [] := List.length_eq_zero_iff.mp g1
            subst this
            exact ⟨.act r, rfl, (hru false).mp g2⟩
        | 1 =>
          refine rule true rfl (fun d e hd => ?_) (fun g1 g2 => ?_)
          · cases d with
            | act r2 => simp [atD] at e
            | take r2 k2 =>
              simp [atD] at e
              obtain ⟨e1, e2⟩ := e
              have e1 : r = r2 := by omega
              subst e1
              refine ⟨?_, (hru true).mpr hd⟩
              obtain ⟨_, rfl, _⟩ := e2
              rfl
            | lose r2 k2 => simp [atD] at e
          · obtain ⟨k2, rfl⟩ : ∃ k2, ns = [k2] := List.length_eq_one_iff.mp g1
            exact ⟨.take r k2, rfl, (hru true).mp g2⟩
        | 2 =>
          have := as_lose N b r ((ns.map fun n : Nat => At.int n).map encAt) st (by omega) hmore hrl
          rw [hlen] at this
          have hch : chAt N r = true ↔ (r < N.cs.length ∧ lossy (chK N r) = true) := by
            unfold chAt chK
            rw [Int.toNat_natCast]
            cases e : N.cs[r]? with
            | none =>
              simp
              intro h
              have := List.getElem?_eq_none_iff.mp e
              omega
            | some ch =>
              simp
              intro _
              exact (List.getElem?_eq_some_iff.mp e).1
          by_cases hc : ns.length = 1 ∧ chAt N r = true
          · rw [if_pos hc] at this
            obtain ⟨k2, rfl⟩ : ∃ k2, ns = [k2] := List.length_eq_one_iff.mp hc.1
            exact .inl ⟨.lose r k2, rfl, hch.mp hc.2, this⟩
          · rw [if_neg hc] at this
            refine .inr ⟨fun d e hd => hc ?_, this⟩
            cases d with
            | act r2 => simp [atD] at e
            | take r2 k2 => simp [atD] at e
            | lose r2 k2 =>
              simp [atD] at e
              obtain ⟨e1, e2⟩ := e
              have e1 : r = r2 := by omega
              subst e1
              refine ⟨?_, hch.mpr hd⟩
              obtain ⟨_, rfl, _⟩ := e2
              rfl
        | 3 =>
          refine .inr ⟨fun d e => by cases d <;> simp [atD] at e, ?_⟩
          exact as_word N b "jump" r ((ns.map fun n : Nat => At.int n).map encAt) st (wrd_chars 3) (by decide) (by decide) (by omega) hmore hrl
        | 4 =>
          refine .inr ⟨fun d e => by cases d <;> simp [atD] at e, ?_⟩
          exact as_word N b "0" r ((ns.map fun n : Nat => At.int n).map encAt) st (wrd_chars 4) (by decide) (by decide) (by omega) hmore hrl
end
end K

namespace K
open PySem Cw
variable {X : Nat → D → Sto → Prop}
/-! ### dicts in runs -/
section
variable {env : En} {st : Sto} {Q : D → Sto → Prop} {N : En → Sto → Prop} {R : D → Sto → Prop} {C B : En → Sto → Prop} {i n : Nat} {x : Str} {ks : List L2.Key} {ds : List D} {d : D} {fv : EM D}
theorem w_getK (h0 : env[i]? = some (some (.ref n))) (hs : st[n]? = some (.dK ks ds)) (hk : lookK ks ds (.inr x) = some d) (q : Q d st) : wx X (mGet (mVar i) (mC (.str x)) env st) Q := by
  refine w_eq (a := d) (st := st) ?_ q
  unfold mGet mVar
  rw [h0]
  simp only [mC, Res.bind, hs, keyD, hk]
theorem o_putK (h0 : env[i]? = some (some (.ref n))) (h : wp (fv env st) fun v s1 => ∃ ks ds, s1[n]? = some (.dK ks ds) ∧ ks.length < LIM ∧ N env (s1.set n (.dK (putL ks ds (.inr x) v).1 (putL ks ds (.inr x) v).2))) : wo (sPut (mVar i) (mC (.str x)) fv env st) N R C B := by
  refine o_toS (w_mono h ?_)
  rintro v s1 ⟨ks, ds, h1, h2, h3⟩
  unfold mVar
  rw [h0]
  simp only [mC, Res.toS, h1, keyD, if_pos h2]
  exact h3
end
theorem mul_big {i j : Int} {st : Sto} {Q : D → Sto → Prop} (h : i.natAbs < 18446744073709551616 ∨ j.natAbs < 18446744073709551616) (q : Q (.int (i * j)) st) : wx X (lift (oMulX (.int i) (.int j) st)) Q := by
  refine w_lift (d := .int (i * j)) (s := st) ?_ q
  show oMul (.int i) (.int j) st = _
  have hs : (small64 i || small64 j) = true := by
    rw [Bool.or_eq_true]
    rcases h with h | h
    · exact .inl (decide_eq_true h)
    · exact .inr (decide_eq_true h)
  unfold oMul pu
  simp only [hs, if_true]
theorem w_fdiv {i j : Int} {st : Sto} {Q : D → Sto → Prop} (h : 0 < j ∧ j < 1073741824) (q : Q (.int (i / j)) st) : wx X (lift (oFdiv (.int i) (.int j) st)) Q := by
  refine w_lift (d := .int (i / j)) (s := st) ?_ q
  unfold oFdiv pu
  simp only [if_pos h]
theorem mod_big (x : Int) : (x % 2305843009213693951).natAbs < 18446744073709551616 := by
  have h1 := Int.emod_nonneg x (by decide : (2305843009213693951 : Int) ≠ 0)
  have h2 := Int.emod_lt_of_pos x (by decide : (0 : Int) < 2305843009213693951)
  omega
theorem w_mixed {a b m : Int} {s : Sto} {Q : D → Sto → Prop} (hm : 0 < m) (q : ∀ r : Nat, (r : Int) < m → Q (.int r) s) : wx X (m__law_mixed [.int a, .int b, .int m] s) Q := by
  unfold m__law_mixed
  refine w_run ?_
  show wo (mb__law_mixed [some (.int a), some (.int b), some (.int m), none, none, none] s) _ _ _ _
  unfold mb__law_mixed
  refine o_seq (o_set (w_c ?_))
  refine o_seq (o_set ?_)
  repeat (first | (with_reducible apply w_bin) | (with_reducible apply w_m1) | (with_reducible apply w_un) | (with_reducible apply w_cons) | (with_reducible apply w_nil) | (with_reducible apply w_callN) | ((with_reducible apply w_var); exact rfl) | (with_reducible apply w_c) | (with_reducible apply w_T) | (with_reducible apply w_NotT) | (with_reducible apply w_AndT) | (with_reducible apply w_OrT) | (with_reducible apply w_And) | (with_reducible apply w_Or) | (with_reducible apply w_Not) | (with_reducible apply w_If) | (with_reducible apply w_tup) | (with_reducible apply w_lstF) | (with_reducible apply w_noP) | (with_reducible apply w_part) | (with_reducible apply w_slice) | (with_reducible apply w_isN) | (with_reducible apply w_add) | (with_reducible apply w_sub) | (with_reducible apply w_gt) | (with_reducible apply w_lt) | (with_reducible apply w_ge) | (with_reducible apply w_le) | (with_reducible apply w_eqI) | (with_reducible apply w_neI) | (with_reducible apply w_eqS) | (with_reducible apply w_neS) | ((with_reducible apply x_ixT); exact rfl; exact rfl) | ((with_reducible apply x_ixL); exact rfl; exact rfl) | ((with_reducible apply x_lenT); exact rfl) | ((with_reducible apply x_lenL); exact rfl) | (with_reducible apply w_intI) | (with_reducible apply w_intB) | (with_reducible apply w_tupT) | (with_reducible apply w_tupL) | (with_reducible apply w_slT) | (with_reducible apply w_slL) | (with_reducible apply w_iSeq) | (with_reducible apply w_iRg1) | (with_reducible apply ex_bl) | (with_reducible apply ex_int) | (with_reducible apply ex_neg) | (with_reducible refine And.intro (Nat.le_of_ble_eq_true rfl) ?_) | (with_reducible refine And.intro (rfl : List.length _ = _) ?_))
  refine mul_big (.inr (by decide)) ?_
  repeat (first | (with_reducible apply w_bin) | (with_reducible apply w_m1) | (with_reducible apply w_un) | (with_reducible apply w_cons) | (with_reducible apply w_nil) | (with_reducible apply w_callN) | ((with_reducible apply w_var); exact rfl) | (with_reducible apply w_c) | (with_reducible apply w_T) | (with_reducible apply w_NotT) | (with_reducible apply w_AndT) | (with_reducible apply w_OrT) | (with_reducible apply w_And) | (with_reducible apply w_Or) | (with_reducible apply w_Not) | (with_reducible apply w_If) | (with_reducible apply w_tup) | (with_reducible apply w_lstF) | (with_reducible apply w_noP) | (with_reducible apply w_part) | (with_reducible apply w_slice) | (with_reducible apply w_isN) | (with_reducible apply w_add) | (with_reducible apply w_sub) | (with_reducible apply w_gt) | (with_reducible apply w_lt) | (with_reducible apply w_ge) | (with_reducible apply w_le) | (with_reducible apply w_eqI) | (with_reducible apply w_neI) | (with_reducible apply w_eqS) | (with_reducible apply w_neS) | ((with_reducible apply x_ixT); exact rfl; exact rfl) | ((with_reducible apply x_ixL); exact rfl; exact rfl) | ((with_reducible apply x_lenT); exact rfl) | ((with_reducible apply x_lenL); exact rfl) | (with_reducible apply w_intI) | (with_reducible apply w_intB) | (with_reducible apply w_tupT) | (with_reducible apply w_tupL) | (with_reducible apply w_slT) | (with_reducible apply w_slL) | (with_reducible apply w_iSeq) | (with_reducible apply w_iRg1) | (with_reducible apply ex_bl) | (with_reducible apply ex_int) | (with_reducible apply ex_neg) | (with_reducible refine And.intro (Nat.le_of_ble_eq_true rfl) ?_) | (with_reducible refine And.intro (rfl : List.length _ = _) ?_))
  refine mul_big (.inr (by decide)) ?_
  repeat (first | (with_reducible apply w_bin) | (with_reducible apply w_m1) | (with_reducible apply w_un) | (with_reducible apply w_cons) | (with_reducible apply w_nil) | (with_reducible apply w_callN) | ((with_reducible apply w_var); exact rfl) | (with_reducible apply w_c) | (with_reducible apply w_T) | (with_reducible apply w_NotT) | (with_reducible apply w_AndT) | (with_reducible apply w_OrT) | (with_reducible apply w_And) | (with_reducible apply w_Or) | (with_reducible apply w_Not) | (with_reducible apply w_If) | (with_reducible apply w_tup) | (with_reducible apply w_lstF) | (with_reducible apply w_noP) | (with_reducible apply w_part) | (with_reducible apply w_slice) | (with_reducible apply w_isN) | (with_reducible apply w_add) | (with_reducible apply w_sub) | (with_reducible apply w_gt) | (with_reducible apply w_lt) | (with_reducible apply w_ge) | (with_reducible apply w_le) | (with_reducible apply w_eqI) | (with_reducible apply w_neI) | (with_reducible apply w_eqS) | (with_reducible apply w_neS) | ((with_reducible apply x_ixT); exact rfl; exact rfl) | ((with_reducible apply x_ixL); exact rfl; exact rfl) | ((with_reducible apply x_lenT); exact rfl) | ((with_reducible apply x_lenL); exact rfl) | (with_reducible apply w_intI) | (with_reducible apply w_intB) | (with_reducible apply w_tupT) | (with_reducible apply w_tupL) | (with_reducible apply w_slT) | (with_reducible apply w_slL) | (with_reducible apply w_iSeq) | (with_reducible apply w_iRg1) | (with_reducible apply ex_bl) | (with_reducible apply ex_int) | (with_reducible apply ex_neg) | (with_reducible refine And.intro (Nat.le_of_ble_eq_true rfl) ?_) | (with_reducible refine And.intro (rfl : List.length _ = _) ?_))
  refine w_mod (by decide) ?_
  refine o_seq (o_set ?_)
  repeat (first | (with_reducible apply w_bin) | (with_reducible apply w_m1) | (with_reducible apply w_un) | (with_reducible apply w_cons) | (with_reducible apply w_nil) | (with_reducible apply w_callN) | ((with_reducible apply w_var); exact rfl) | (with_reducible apply w_c) | (with_reducible apply w_T) | (with_reducible apply w_NotT) | (with_reducible apply w_AndT) | (with_reducible apply w_OrT) | (with_reducible apply w_And) | (with_reducible apply w_Or) | (with_reducible apply w_Not) | (with_reducible apply w_If) | (with_reducible apply w_tup) | (with_reducible apply w_lstF) | (with_reducible apply w_noP) | (with_reducible apply w_part) | (with_reducible apply w_slice) | (with_reducible apply w_isN) | (with_reducible apply w_add) | (with_reducible apply w_sub) | (with_reducible apply w_gt) | (with_reducible apply w_lt) | (with_reducible apply w_ge) | (with_reducible apply w_le) | (with_reducible apply w_eqI) | (with_reducible apply w_neI) | (with_reducible apply w_eqS) | (with_reducible apply w_neS) | ((with_reducible apply x_ixT); exact rfl; exact rfl) | ((with_reducible apply x_ixL); exact rfl; exact rfl) | ((with_reducible apply x_lenT); exact rfl) | ((with_reducible apply x_lenL); exact rfl) | (with_reducible apply w_intI) | (with_reducible apply w_intB) | (with_reducible apply w_tupT) | (with_reducible apply w_tupL) | (with_reducible apply w_slT) | (with_reducible apply w_slL) | (with_reducible apply w_iSeq) | (with_reducible apply w_iRg1) | (with_reducible apply ex_bl) | (with_reducible apply ex_int) | (with_reducible apply ex_neg) | (with_reducible refine And.intro (Nat.le_of_ble_eq_true rfl) ?_) | (with_reducible refine And.intro (rfl : List.length _ = _) ?_))
  refine mul_big (.inl (mod_big _)) ?_
  repeat (first | (with_reducible apply w_bin) | (with_reducible apply w_m1) | (with_reducible apply w_un) | (with_reducible apply w_cons) | (with_reducible apply w_nil) | (with_reducible apply w_callN) | ((with_reducible apply w_var); exact rfl) | (with_reducible apply w_c) | (with_reducible apply w_T) | (with_reducible apply w_NotT) | (with_reducible apply w_AndT) | (with_reducible apply w_OrT) | (with_reducible apply w_And) | (with_reducible apply w_Or) | (with_reducible apply w_Not) | (with_reducible apply w_If) | (with_reducible apply w_tup) | (with_reducible apply w_lstF) | (with_reducible apply w_noP) | (with_reducible apply w_part) | (with_reducible apply w_slice) | (with_reducible apply w_isN) | (with_reducible apply w_add) | (with_reducible apply w_sub) | (with_reducible apply w_gt) | (with_reducible apply w_lt) | (with_reducible apply w_ge) | (with_reducible apply w_le) | (with_reducible apply w_eqI) | (with_reducible apply w_neI) | (with_reducible apply w_eqS) | (with_reducible apply w_neS) | ((with_reducible apply x_ixT); exact rfl; exact rfl) | ((with_reducible apply x_ixL); exact rfl; exact rfl) | ((with_reducible apply x_lenT); exact rfl) | ((with_reducible apply x_lenL); exact rfl) | (with_reducible apply w_intI) | (with_reducible apply w_intB) | (with_reducible apply w_tupT) | (with_reducible apply w_tupL) | (with_reducible apply w_slT) | (with_reducible apply w_slL) | (with_reducible apply w_iSeq) | (with_reducible apply w_iRg1) | (with_reducible apply ex_bl) | (with_reducible apply ex_int) | (with_reducible apply ex_neg) | (with_reducible refine And.intro (Nat.le_of_ble_eq_true rfl) ?_) | (with_reducible refine And.intro (rfl : List.length _ = _) ?_))
  refine mul_big (.inr (by decide)) ?_
  repeat (first | (with_reducible apply w_bin) | (with_reducible apply w_m1) | (with_reducible apply w_un) | (with_reducible apply w_cons) | (with_reducible apply w_nil) | (with_reducible apply w_callN) | ((with_reducible apply w_var); exact rfl) | (with_reducible apply w_c) | (with_reducible apply w_T) | (with_reducible apply w_NotT) | (with_reducible apply w_AndT) | (with_reducible apply w_OrT) | (with_reducible apply w_And) | (with_reducible apply w_Or) | (with_reducible apply w_Not) | (with_reducible apply w_If) | (with_reducible apply w_tup) | (with_reducible apply w_lstF) | (with_reducible apply w_noP) | (with_reducible apply w_part) | (with_reducible apply w_slice) | (with_reducible apply w_isN) | (with_reducible apply w_add) | (with_reducible apply w_sub) | (with_reducible apply w_gt) | (with_reducible apply w_lt) | (with_reducible apply w_ge) | (with_reducible apply w_le) | (with_reducible apply w_eqI) | (with_reducible apply w_neI) | (with_reducible apply w_eqS) | (with_reducible apply w_neS) | ((with_reducible apply x_ixT); exact rfl; exact rfl) | ((with_reducible apply x_ixL); exact rfl; exact rfl) | ((with_reducible apply x_lenT); exact rfl) | ((with_reducible apply x_lenL); exact rfl) | (with_reducible apply w_intI) | (with_reducible apply w_intB) | (with_reducible apply w_tupT) | (with_reducible apply w_tupL) | (with_reducible apply w_slT) | (with_reducible apply w_slL) | (with_reducible apply w_iSeq) | (with_reducible apply w_iRg1) | (with_reducible apply ex_bl) | (with_reducible apply ex_int) | (with_reducible apply ex_neg) | (with_reducible refine And.intro (Nat.le_of_ble_eq_true rfl) ?_) | (with_reducible refine And.intro (rfl : List.length _ = _) ?_))
  refine w_mod (by decide) ?_
  refine o_ret ?_
  repeat (first | (with_reducible apply w_bin) | (with_reducible apply w_m1) | (with_reducible apply w_un) | (with_reducible apply w_cons) | (with_reducible apply w_nil) | (with_reducible apply w_callN) | ((with_reducible apply w_var); exact rfl) | (with_reducible apply w_c) | (with_reducible apply w_T) | (with_reducible apply w_NotT) | (with_reducible apply w_AndT) | (with_reducible apply w_OrT) | (with_reducible apply w_And) | (with_reducible apply w_Or) | (with_reducible apply w_Not) | (with_reducible apply w_If) | (with_reducible apply w_tup) | (with_reducible apply w_lstF) | (with_reducible apply w_noP) | (with_reducible apply w_part) | (with_reducible apply w_slice) | (with_reducible apply w_isN) | (with_reducible apply w_add) | (with_reducible apply w_sub) | (with_reducible apply w_gt) | (with_reducible apply w_lt) | (with_reducible apply w_ge) | (with_reducible apply w_le) | (with_reducible apply w_eqI) | (with_reducible apply w_neI) | (with_reducible apply w_eqS) | (with_reducible apply w_neS) | ((with_reducible apply x_ixT); exact rfl; exact rfl) | ((with_reducible apply x_ixL); exact rfl; exact rfl) | ((with_reducible apply x_lenT); exact rfl) | ((with_reducible apply x_lenL); exact rfl) | (with_reducible apply w_intI) | (with_reducible apply w_intB) | (with_reducible apply w_tupT) | (with_reducible apply w_tupL) | (with_reducible apply w_slT) | (with_reducible apply w_slL) | (with_reducible apply w_iSeq) | (with_reducible apply w_iRg1) | (with_reducible apply ex_bl) | (with_reducible apply ex_int) | (with_reducible apply ex_neg) | (with_reducible refine And.intro (Nat.le_of_ble_eq_true rfl) ?_) | (with_reducible refine And.intro (rfl : List.length _ = _) ?_))
  refine w_fdiv (by decide) ?_
  repeat (first | (with_reducible apply w_bin) | (with_reducible apply w_m1) | (with_reducible apply w_un) | (with_reducible apply w_cons) | (with_reducible apply w_nil) | (with_reducible apply w_callN) | ((with_reducible apply w_var); exact rfl) | (with_reducible apply w_c) | (with_reducible apply w_T) | (with_reducible apply w_NotT) | (with_reducible apply w_AndT) | (with_reducible apply w_OrT) | (with_reducible apply w_And) | (with_reducible apply w_Or) | (with_reducible apply w_Not) | (with_reducible apply w_If) | (with_reducible apply w_tup) | (with_reducible apply w_lstF) | (with_reducible apply w_noP) | (with_reducible apply w_part) | (with_reducible apply w_slice) | (with_reducible apply w_isN) | (with_reducible apply w_add) | (with_reducible apply w_sub) | (with_reducible apply w_gt) | (with_reducible apply w_lt) | (with_reducible apply w_ge) | (with_reducible apply w_le) | (with_reducible apply w_eqI) | (with_reducible apply w_neI) | (with_reducible apply w_eqS) | (with_reducible apply w_neS) | ((with_reducible apply x_ixT); exact rfl; exact rfl) | ((with_reducible apply x_ixL); exact rfl; exact rfl) | ((with_reducible apply x_lenT); exact rfl) | ((with_reducible apply x_lenL); exact rfl) | (with_reducible apply w_intI) | (with_reducible apply w_intB) | (with_reducible apply w_tupT) | (with_reducible apply w_tupL) | (with_reducible apply w_slT) | (with_reducible apply w_slL) | (with_reducible apply w_iSeq) | (with_reducible apply w_iRg1) | (with_reducible apply ex_bl) | (with_reducible apply ex_int) | (with_reducible apply ex_neg) | (with_reducible refine And.intro (Nat.le_of_ble_eq_true rfl) ?_) | (with_reducible refine And.intro (rfl : List.length _ = _) ?_))
  refine w_mod hm ?_
  have h1 := Int.emod_nonneg ((a * 48271 + b * 1000000000039 + 12345678910111213) % 2305843009213693951 * ((a * 48271 + b * 1000000000039 + 12345678910111213) % 2305843009213693951) + b) (by omega : m ≠ 0)
  refine fin_same rfl ?_
  have h1 : ∀ y : Int, ∃ r : Nat, y % m = r ∧ (r : Int) < m := fun y => ⟨(y % m).toNat, (Int.toNat_of_nonneg (Int.emod_nonneg y (by omega))).symm, by rw [Int.toNat_of_nonneg (Int.emod_nonneg y (by omega))]; exact Int.emod_lt_of_pos y hm⟩
  obtain ⟨r, e1, e2⟩ := h1 ((((a * 48271 + b * 1000000000039 + 12345678910111213) % 2305843009213693951 * ((a * 48271 + b * 1000000000039 + 12345678910111213) % 2305843009213693951) + b) * 7046029254386353 % 2305843009213693951) / 8)
  rw [e1]
  exact q r e2
/-! ### the pool -/
def poolKs : List L2.Key := [.inr ("cells" : Str), .inr ("at" : Str), .inr ("rest" : Str), .inr ("left" : Str), .inr ("small" : Str), .inr ("seed" : Str), .inr ("turn" : Str)]
def P7 (kc : Nat) (a r l : Int) (sm : Bool) (se t : Int) : Cell := .dK poolKs [.ref kc, .int a, .int r, .int l, .bl sm, .int se, .int t]
section
variable {a b c d e f g x : D}
theorem pk_cells : lookK poolKs [a, b, c, d, e, f, g] (.inr ("cells" : Str)) = some a := rfl
theorem pk_at : lookK poolKs [a, b, c, d, e, f, g] (.inr ("at" : Str)) = some b := rfl
theorem pk_rest : lookK poolKs [a, b, c, d, e, f, g] (.inr ("rest" : Str)) = some c := rfl
theorem pk_left : lookK poolKs [a, b, c, d, e, f, g] (.inr ("left" : Str)) = some d := rfl
theorem pk_small : lookK poolKs [a, b, c, d, e, f, g] (.inr ("small" : Str)) = some e := rfl
theorem pk_seed : lookK poolKs [a, b, c, d, e, f, g] (.inr ("seed" : Str)) = some f := rfl
theorem pk_turn : lookK poolKs [a, b, c, d, e, f, g] (.inr ("turn" : Str)) = some g := rfl
theorem pp_at : putL poolKs [a, b, c, d, e, f, g] (.inr ("at" : Str)) x = (poolKs, [a, x, c, d, e, f, g]) := rfl
theorem pp_rest : putL poolKs [a, b, c, d, e, f, g] (.inr ("rest" : Str)) x = (poolKs, [a, b, x, d, e, f, g]) := rfl
theorem pp_left : putL poolKs [a, b, c, d, e, f, g] (.inr ("left" : Str)) x = (poolKs, [a, b, c, x, e, f, g]) := rfl
theorem pp_small : putL poolKs [a, b, c, d, e, f, g] (.inr ("small" : Str)) x = (poolKs, [a, b, c, d, x, f, g]) := rfl
theorem pp_turn : putL poolKs [a, b, c, d, e, f, g] (.inr ("turn" : Str)) x = (poolKs, [a, b, c, d, e, f, x]) := rfl
end
/-- the state S, but for the pool at k -/
def Px (cs : List Int) (k kc : Nat) (S s : Sto) : Prop := k < S.length ∧ kc < k ∧ S[kc]? = some (.lst (cs.map D.int)) ∧ ∃ a r l sm se t, s = S.set k (P7 kc a r l sm se t) ∧ 0 ≤ a ∧ 0 ≤ l
section
variable {cs : List Int} {k kc q : Nat} {S s xt : Sto} {Q : D → Sto → Prop}
theorem Px.len (h : Px cs k kc S s) : s.length = S.length := by
  obtain ⟨_, _, _, a, r, l, sm, se, t, rfl, _⟩ := h
  simp
theorem Px.get (h : Px cs k kc S s) (hq : q ≠ k) : s[q]? = S[q]? := by
  obtain ⟨_, _, _, a, r, l, sm, se, t, rfl, _⟩ := h
  exact List.getElem?_set_ne (Ne.symm hq)
theorem Px.put {c : Cell} (h : Px cs k kc S s) (hq : q ≠ k) (hc : q ≠ kc) : Px cs k kc (S.set q c) (s.set q c) := by
  obtain ⟨hk, hkc, hs, a, r, l, sm, se, t, rfl, ha, hl⟩ := h
  refine ⟨by simpa using hk, hkc, by rw [List.getElem?_set_ne hc]; exact hs, a, r, l, sm, se, t, ?_, ha, hl⟩
  exact List.set_comm _ _ (Ne.symm hq)
theorem Px.ext (h : Px cs k kc S s) (ext : Sto) : Px cs k kc (S ++ ext) (s ++ ext) := by
  obtain ⟨hk, hkc, hs, a, r, l, sm, se, t, rfl, ha, hl⟩ := h
  exact ⟨by rw [List.length_append]; omega, hkc, by rw [List.getElem?_append_left (by omega)]; exact hs, a, r, l, sm, se, t, by rw [List.set_append_left _ _ hk], ha, hl⟩
theorem Px.unext {t0 : Sto} (hk : k < S.length) (h : Px cs k kc (S ++ xt) t0) : ∃ s, t0 = s ++ xt ∧ Px cs k kc S s := by
  obtain ⟨_, hkc, hs, a, r, l, sm, se, t, rfl, ha, hl⟩ := h
  exact ⟨_, by rw [List.set_append_left _ _ hk], hk, hkc, by rw [List.getElem?_append_left (by omega)] at hs; exact hs, a, r, l, sm, se, t, rfl, ha, hl⟩
theorem Px.pop2 {s1 : Sto} (h : Px cs k kc S s) (h1 : Px cs k kc S s1) : popB s (s1 ++ xt) = true := by
  have hl := h.len
  have hl1 := h1.len
  obtain ⟨hk, hkc, _, a, r, l, sm, se, t, rfl, _⟩ := h
  obtain ⟨_, _, _, a', r', l', sm', se', t', rfl, _⟩ := h1
  refine popB_gen fun j hj => ?_
  rw [List.getElem?_append_left (by omega)]
  by_cases e : k = j
  · subst e
    refine .inr ⟨_, List.getElem?_set_self hk, ?_⟩
    have : kc < (S.set k (P7 kc a r l sm se t)).length := by
      rw [List.length_set]
      omega
    simp [P7, belowC, belowL, below]
    omega
  · exact .inl (by rw [List.getElem?_set_ne e, List.getElem?_set_ne e])
theorem fin_px {s0 : Sto} {d : D} (h0 : Px cs k kc S s0) (h : Px cs k kc (S ++ xt) s) (p : pl d = true) (q : ∀ s1, Px cs k kc S s1 → Q d s1) : fin s0 Q d s := by
  obtain ⟨s1, rfl, h1⟩ := h.unext h0.1
  refine fin_pl p (h0.pop2 h1) ?_
  rw [h0.len, ← h1.len, take_app]
  exact q s1 h1
theorem fin_px0 {s0 : Sto} {d : D} (h0 : Px cs k kc S s0) (h : Px cs k kc S s) (p : pl d = true) (q : ∀ s1, Px cs k kc S s1 → Q d s1) : fin s0 Q d s :=
  fin_px (xt := []) h0 (by rw [List.append_nil]; exact h) p q
/-- cells made here, handed out frozen -/
theorem fin_pxF {s0 : Sto} {d e : D} (h0 : Px cs k kc S s0) (h : Px cs k kc (S ++ xt) s) (hf : frz s S.length 5 d = some e) (q : ∀ s1, Px cs k kc S s1 → Q e s1) : fin s0 Q d s := by
  obtain ⟨s1, rfl, h1⟩ := h.unext h0.1
  refine ⟨e, by rw [h0.len]; exact hf, h0.pop2 h1, ?_⟩
  rw [h0.len, ← h1.len, take_app]
  exact q s1 h1
theorem w_take {m : Int} (h : Px cs k kc S s) (hm : 0 < m) (hm2 : m < 1073741824) (q : ∀ (s' : Sto) (r : Nat), Px cs k kc S s' → (r : Int) < m → Q (.int r) s') : wx X (m__law_take [.ref k, .int m] s) Q := by
  have h00 := h
  obtain ⟨hk, hkc, hs, a, r, l, sm, se, t, rfl, ha, hl⟩ := h
  have hg : ∀ c : Cell, (S.set k c)[k]? = some c := fun c => List.getElem?_set_self hk
  have hlim : poolKs.length < LIM := Nat.le_of_ble_eq_true rfl
  have hcell : ∀ c : Cell, (S.set k c)[kc]? = some (.lst (cs.map D.int)) := fun c => by rw [List.getElem?_set_ne (by omega)]; exact hs
  have mk : ∀ a r l sm se t, 0 ≤ a → 0 ≤ l → Px cs k kc S (S.set k (P7 kc a r l sm se t)) := fun a r l sm se t h1 h2 => ⟨hk, hkc, hs, a, r, l, sm, se, t, rfl, h1, h2⟩
  unfold m__law_take
  refine w_run ?_
  show wo (mb__law_take [some (.ref k), some (.int m), none] (S.set k (P7 kc a r l sm se t))) _ _ _ _
  unfold mb__law_take
  refine o_seq (o_putK rfl (w_bin (w_getK rfl (hg _) pk_turn (w_c (w_add ⟨_, _, hg _, hlim, ?_⟩)))))
  rw [pp_turn, List.set_set]
  show wo (sSeq _ _ [some (.ref k), some (.int m), none] (S.set k (P7 kc a r l sm se (t + 1)))) _ _ _ _
  refine o_cut (fun e s' => ∃ a r l sm, e = [some (.ref k), some (.int m), none] ∧ s' = S.set k (P7 kc a r l sm se (t + 1)) ∧ 0 ≤ a ∧ 0 ≤ l) ?_ ?_
  · refine o_if (w_AndT (w_T (w_bin (w_getK rfl (hg _) pk_left (w_c (w_eqI ⟨_, rfl, fun hl0 => ?_, fun _ => ⟨fun h => (by cases h), fun _ => o_nil ⟨a, r, l, sm, rfl, rfl, ha, hl⟩⟩⟩))))))
    refine w_T (w_bin (w_getK rfl (hg _) pk_at (w_m1 (w_getK rfl (hg _) pk_cells (w_lenR (hcell _) (w_lt ⟨_, rfl, fun hlt => ?_, fun _ => o_nil ⟨a, r, l, sm, rfl, rfl, ha, hl⟩⟩))))))
    have hlt : a < cs.length := by
      have := of_decide_eq_true hlt
      rwa [List.length_map] at this
    obtain ⟨cell, hcl⟩ : ∃ cell, cs[a.toNat]? = some cell := ⟨cs[a.toNat]'(by omega), by simp⟩
    have hat : L2.atI (cs.map D.int) a = some (.int cell) := by
      have := at_nat (cs.map D.int) a.toNat
      rw [Int.toNat_of_nonneg ha] at this
      rw [this, List.getElem?_map, hcl]
      rfl
    refine o_seq (o_putK rfl (w_bin (w_getK rfl (hg _) pk_cells (w_getK rfl (hg _) pk_at (w_ixR (hcell _) hat ⟨_, _, hg _, hlim, ?_⟩)))))
    rw [pp_rest, List.set_set]
    refine o_seq (o_putK rfl (w_bin (w_getK rfl (hg _) pk_at (w_c (w_add ⟨_, _, hg _, hlim, ?_⟩)))))
    rw [pp_at, List.set_set]
    refine o_seq (o_putK rfl (w_bin (w_getK rfl (hg _) pk_rest (w_bin (w_c (w_c (w_pow (by decide) (by decide) (by decide) (w_lt ⟨_, _, hg _, hlim, ?_⟩))))))))
    rw [pp_small, List.set_set]
    refine o_putK rfl (w_bin (w_lstF (w_cons (w_c (w_cons (w_c (w_nil ⟨Nat.le_of_ble_eq_true rfl, w_m1 (w_getK rfl (hg _) pk_small (w_intB ?_))⟩)))))))
    have h62 : ∃ z : Int, L2.atI [D.int 60, .int 2] (if decide (cell < 10 ^ (18 : Int).toNat) = true then 1 else 0) = some (.int z) ∧ 0 ≤ z := by
      split
      · exact ⟨2, rfl, by decide⟩
      · exact ⟨60, rfl, by decide⟩
    obtain ⟨z, hz1, hz2⟩ := h62
    refine w_ixL hz1 ⟨_, _, hg _, hlim, ?_⟩
    rw [pp_left, List.set_set]
    exact ⟨a + 1, cell, z, decide (cell < 10 ^ (18 : Int).toNat), rfl, rfl, by omega, hz2⟩
  clear ha hl
  rintro e s' ⟨a, r, l, sm, rfl, rfl, ha, hl⟩
  refine o_seq (o_if (w_T (w_bin (w_getK rfl (hg _) pk_left (w_c (w_eqI ⟨_, rfl, fun hl0 => ?_, fun hl0 => o_nil ?_⟩))))))
  · refine o_ret (w_callN (w_cons (w_getK rfl (hg _) pk_seed (w_cons (w_getK rfl (hg _) pk_turn (w_cons (w_var rfl (w_nil ⟨rfl, ?_⟩))))))))
    exact w_mixed hm fun r' hr' => fin_px0 h00 (mk _ _ _ _ _ _ ha hl) rfl fun s1 h1 => q s1 r' h1 hr'
  have hl1 : ¬ l = 0 := of_decide_eq_false hl0
  refine o_seq (o_putK rfl (w_bin (w_getK rfl (hg _) pk_left (w_c (w_sub ⟨_, _, hg _, hlim, ?_⟩)))))
  rw [pp_left, List.set_set]
  refine o_seq (o_if (w_T (w_getK rfl (hg _) pk_small ⟨_, rfl, fun _ => ?_, fun _ => o_nil ?_⟩)))
  · refine o_ret (w_callN (w_cons (w_getK rfl (hg _) pk_rest (w_cons (w_getK rfl (hg _) pk_turn (w_cons (w_var rfl (w_nil ⟨rfl, ?_⟩))))))))
    exact w_mixed hm fun r' hr' => fin_px0 h00 (mk _ _ _ _ _ _ ha (by omega)) rfl fun s1 h1 => q s1 r' h1 hr'
  refine o_seq (o_set (w_bin (w_m1 (w_getK rfl (hg _) pk_rest (w_intI (w_var rfl (w_mod hm ?_)))))))
  obtain ⟨d, e1, e2⟩ : ∃ d : Nat, r % m = d ∧ (d : Int) < m := ⟨(r % m).toNat, (Int.toNat_of_nonneg (Int.emod_nonneg r (by omega))).symm, by rw [Int.toNat_of_nonneg (Int.emod_nonneg r (by omega))]; exact Int.emod_lt_of_pos r hm⟩
  rw [e1]
  refine o_seq (o_putK rfl (w_bin (w_getK rfl (hg _) pk_rest (w_var rfl (w_fdiv ⟨hm, hm2⟩ ⟨_, _, hg _, hlim, ?_⟩)))))
  rw [pp_rest, List.set_set]
  refine o_cut (fun e s' => e = [some (.ref k), some (.int m), some (.int d)] ∧ Px cs k kc S s') ?_ ?_
  · refine o_if (w_T (w_bin (w_getK rfl (hg _) pk_rest (w_c (w_eqI ⟨_, rfl, fun _ => ?_, fun _ => o_nil ⟨rfl, mk _ _ _ _ _ _ ha (by omega)⟩⟩)))))
    refine o_putK rfl (w_c ⟨_, _, hg _, hlim, ?_⟩)
    rw [pp_left, List.set_set]
    exact ⟨rfl, mk _ _ _ _ _ _ ha (by decide)⟩
  · rintro e s' ⟨rfl, hP⟩
    exact o_ret (w_var rfl (fin_px0 h00 hP rfl fun s1 h1 => q s1 d h1 e2))
end
end K

namespace K
open PySem Cw
variable {X : Nat → D → Sto → Prop}
/-! ### words of letters -/
theorem w_compG {α : Type} {fi : EM IterD} {vs : List Nat} {t : Tgt} {ft : EM Bool} {fe : EM D} {env : En} {st : Sto} {Q : D → Sto → Prop} (xs : List α) (enc : α → D) (p : α → Bool) (g : α → D) (hi : wp (fi env st) fun it s => it = ⟨xs.map enc, []⟩ ∧ s = st) (hl : xs.length < 1000000)
    (he : ∀ x ∈ xs, ∃ e1, tgtD t (enc x) (wipeE env vs) = some e1 ∧ ∀ acc, wp (ft e1 (st ++ [.lst acc])) fun c s2 => c = p x ∧ s2 = st ++ [.lst acc] ∧ (p x = true → wp (fe e1 (st ++ [.lst acc])) fun d s3 => d = g x ∧ s3 = st ++ [.lst acc]))
    (hp : ∀ x ∈ xs, pl (g x) = true) (q : Q (.lst ((xs.filter p).map g)) st) : wx X (mComp false fi vs t ft fe env st) Q := by
  refine w_comp (w_mono hi ?_)
  rintro it s ⟨rfl, rfl⟩
  refine ⟨fun j acc s' => acc = ((xs.take j).filter p).map g ∧ s' = s, ?_, ⟨rfl, rfl⟩, ?_, ?_, ?_⟩
  · show (xs.map enc).length < 16777216
    rw [List.length_map]
    omega
  · rintro j acc s' ⟨rfl, rfl⟩
    refine ⟨?_, rfl, rfl⟩
    rw [List.length_map]
    exact Nat.le_trans (List.length_filter_le _ _) (by rw [List.length_take]; omega)
  · rintro j d hd acc s' ⟨rfl, rfl⟩
    simp only [List.getElem?_map] at hd
    obtain ⟨x, hx, rfl⟩ := Option.map_eq_some_iff.mp hd
    obtain ⟨e1, h1, h2⟩ := he x (List.mem_of_getElem? hx)
    have ht : xs.take (j + 1) = xs.take j ++ [x] := by rw [List.take_add_one, hx]; rfl
    refine ⟨e1, h1, w_mono (h2 _) ?_⟩
    rintro c s2 ⟨rfl, rfl, h3⟩
    refine ⟨fun hc => w_mono (h3 hc) ?_, fun hc => ⟨s', rfl, ?_, rfl⟩⟩
    · rintro d s3 ⟨rfl, rfl⟩
      refine ⟨s', rfl, ?_, rfl⟩
      rw [ht, List.filter_append, List.map_append]
      simp [hc]
    · rw [ht, List.filter_append]
      simp [hc]
  · rintro acc s' ⟨rfl, rfl⟩
    have ht : xs.take (List.map enc xs).length = xs := by rw [List.length_map, List.take_length]
    simp only [ht]
    refine ⟨?_, popB_refl _, q⟩
    rw [plL_iff]
    intro d hd
    obtain ⟨x, hx, rfl⟩ := List.mem_map.mp hd
    exact hp x (List.mem_filter.mp hx).1
theorem one_sum : ∀ l : List Nat, ((l.map fun c => (⟨#[c]⟩ : Str)).map (·.length)).sum = l.length
  | [] => rfl
  | c :: l => by
    have := one_sum l
    simp only [List.map_cons, List.sum_cons, this, List.length_cons]
    show 1 + l.length = _
    omega

def LET : List Nat := (("abcdefghijklmnopqrstuvwxyz" : Str)).cps.toList
def wOf (l : List Nat) : Str := ⟨l.toArray⟩
theorem let_len : LET.length = 26 := by decide +kernel
theorem let_small : ∀ c ∈ LET, c ≤ 122 := by decide +kernel
theorem join_one : ∀ l : List Nat, Txt.join ("" : Str) (l.map fun c => (⟨#[c]⟩ : Str)) = wOf l := by
  intro l
  show Builtin.Str.glued ("" : Str) _ = _
  rw [StrLaws.glued_eq_join]
  induction l with
  | nil => rfl
  | cons c l ih =>
    cases l with
    | nil => rfl
    | cons d l =>
      show (⟨#[c]⟩ : Str) ++ ("" : Str) ++ Str.join ("" : Str) ((d :: l).map fun c => (⟨#[c]⟩ : Str)) = _
      rw [ih]
      show (⟨(#[c] ++ #[]) ++ (d :: l).toArray⟩ : Str) = _
      simp [wOf]
theorem word_ok {l : List Nat} (h1 : 1 ≤ l.length) (h6 : l.length ≤ 6) (h : ∀ c ∈ l, c ∈ LET) : okName (wOf l) = true ∧ chars (wOf l) = true := by
  constructor
  · unfold okName wOf
    simp only [Bool.and_eq_true, decide_eq_true_eq, List.all_eq_true]
    refine ⟨⟨by simpa using h1, by simpa using h6⟩, fun c hc => ?_⟩
    have := h c (by simpa using hc)
    unfold LET at this
    exact Array.mem_toList_iff.mp this
  · unfold chars PyData.canLay0 wOf PyData.strOk
    simp only [List.all_toArray, List.all_eq_true, decide_eq_true_eq]
    intro c hc
    have := let_small c (h c hc)
    omega
theorem nodup_sub {α : Type} [DecidableEq α] : ∀ {l m : List α}, l.Nodup → (∀ x ∈ l, x ∈ m) → l.length ≤ m.length
  | [], m, _, _ => Nat.zero_le _
  | x :: l, m, hn, hs => by
    obtain ⟨h1, h2⟩ := List.nodup_cons.mp hn
    have hx := hs x (List.mem_cons_self ..)
    have ih := nodup_sub (l := l) (m := m.erase x) h2 fun y hy => by
      refine (List.mem_erase_of_ne ?_).mpr (hs y (List.mem_cons_of_mem _ hy))
      intro e
      exact h1 (e ▸ hy)
    rw [List.length_erase_of_mem hx] at ih
    have := List.length_pos_of_mem hx
    rw [List.length_cons]
    omega
def oth : List Str := ["qqqqqa", "qqqqqb", "qqqqqc", "qqqqqd", "qqqqqe", "qqqqqf", "qqqqqg", "qqqqqh"]
theorem oth_ok : ∀ x ∈ oth, okName x = true ∧ chars x = true := by decide +kernel
theorem oth_nd : oth.Nodup := by decide
theorem in_ref {st : Sto} {n : Nat} {x : Str} {xs : List Str} (hx : chars x = true) (hs : ∀ y ∈ xs, chars y = true) (h : st[n]? = some (.lst (xs.map D.str))) : inD st (.str x) (.ref n) = some (decide (x ∈ xs)) := by
  have e := (in_strs st x xs hx hs).2
  have p : pyOf st (.ref n) = pyOf st (.lst (xs.map D.str)) := by
    unfold pyOf
    simp only [seqW, h]
    show _ = toPy _
    unfold toPy
    cases toPyL (xs.map D.str) <;> rfl
  have u : inD st (.str x) (.ref n) = (match pyOf st (.str x), pyOf st (.ref n) with
    | some p, some q => match itemsPy q with
      | some l => if (SeqAt.shaped p && SeqAt.shaped q) = true then some (l.any fun y => PyData.eqv y p) else none
      | none => none
    | _, _ => none) := rfl
  rw [u, p, ← e]
  rfl
section
variable {cs : List Int} {k kc : Nat} {S s : Sto} {Q : D → Sto → Prop}
def good (x : Str) : Prop := okName x = true ∧ chars x = true
theorem strs_map (l : List Str) : strsOf (l.map D.str) = some l := by
  induction l with
  | nil => rfl
  | cons x l ih => simp [strsOf, ih]
theorem w_names {m : Nat} (h : Px cs k kc S s) (hm : m ≤ 8) (q : ∀ (s' : Sto) (ss : List Str), Px cs k kc S s' → ss.length = m → ss.Nodup → (∀ x ∈ ss, good x) → Q (.lst (ss.map D.str)) s') : wx X (m__law_names [.ref k, .int m] s) Q := by
  have hkS := h.1
  have hkc := h.2.1
  have hl0 := h.len
  have hget : ∀ l : List D, (S ++ [Cell.lst l])[S.length]? = some (.lst l) := fun l => by simp
  have hput : ∀ l m : List D, (S ++ [Cell.lst l]).set S.length (.lst m) = S ++ [.lst m] := fun l m => by simp
  have hne : S.length ≠ k := by omega
  have hne2 : S.length ≠ kc := by omega
  unfold m__law_names
  refine w_run ?_
  show wo (mb__law_names [some (.ref k), some (.int m), none, none, none, none, none, none, none, none, none] s) _ _ _ _
  unfold mb__law_names
  refine o_seq (o_set (w_c ?_))
  refine o_seq (o_set (w_lstT (w_nil ⟨Nat.zero_le _, ?_⟩)))
  rw [hl0]
  have hP1 : Px cs k kc (S ++ [.lst []]) (s ++ [.lst []]) := h.ext _
  refine o_cut (fun e s' => ∃ (ss : List Str) (v4 v5 v6 v7 v8 v9 v10 : Option D), e = [some (.ref k), some (.int m), some (.str ("abcdefghijklmnopqrstuvwxyz" : Str)), some (.ref S.length), v4, v5, v6, v7, v8, v9, v10] ∧ Px cs k kc (S ++ [.lst (ss.map D.str)]) s' ∧ ss.length = m ∧ ss.Nodup ∧ ∀ x ∈ ss, good x) ?_ ?_
  · refine o_for (w_iRg1 (w_var rfl ⟨m, rfl, by omega, ?_⟩))
    refine ⟨fun j e s' => ∃ (ss : List Str) (v4 v5 v6 v7 v8 v9 v10 : Option D), e = [some (.ref k), some (.int m), some (.str ("abcdefghijklmnopqrstuvwxyz" : Str)), some (.ref S.length), v4, v5, v6, v7, v8, v9, v10] ∧ Px cs k kc (S ++ [.lst (ss.map D.str)]) s' ∧ ss.length = j ∧ ss.Nodup ∧ ∀ x ∈ ss, good x, ⟨[], none, none, none, none, none, none, none, rfl, hP1, rfl, List.nodup_nil, by simp⟩, fun _ _ _ _ => rfl, ?_, ?_⟩
    · rintro j x hx e s' ⟨ss, v4, v5, v6, v7, v8, v9, v10, rfl, hP, l1, l2, l3⟩
      have hjl : j < m := by
        have := (List.getElem?_eq_some_iff.mp hx).1
        simpa [rngD] using this
      refine ⟨_, _, rfl, ?_⟩
      refine o_cut (fun e s' => ∃ z : Nat, e = [some (.ref k), some (.int m), some (.str ("abcdefghijklmnopqrstuvwxyz" : Str)), some (.ref S.length), some x, some (.int z), v6, v7, v8, v9, v10] ∧ Px cs k kc (S ++ [.lst (ss.map D.str)]) s' ∧ 1 ≤ z ∧ z ≤ 6) ?_ ?_
      · refine o_set ?_
        repeat (first | (with_reducible apply w_bin) | (with_reducible apply w_m1) | (with_reducible apply w_un) | (with_reducible apply w_cons) | (with_reducible apply w_nil) | (with_reducible apply w_callN) | ((with_reducible apply w_var); exact rfl) | (with_reducible apply w_c) | (with_reducible apply w_T) | (with_reducible apply w_NotT) | (with_reducible apply w_AndT) | (with_reducible apply w_OrT) | (with_reducible apply w_And) | (with_reducible apply w_Or) | (with_reducible apply w_Not) | (with_reducible apply w_If) | (with_reducible apply w_tup) | (with_reducible apply w_lstF) | (with_reducible apply w_noP) | (with_reducible apply w_part) | (with_reducible apply w_slice) | (with_reducible apply w_isN) | (with_reducible apply w_add) | (with_reducible apply w_sub) | (with_reducible apply w_gt) | (with_reducible apply w_lt) | (with_reducible apply w_ge) | (with_reducible apply w_le) | (with_reducible apply w_eqI) | (with_reducible apply w_neI) | (with_reducible apply w_eqS) | (with_reducible apply w_neS) | ((with_reducible apply x_ixT); exact rfl; exact rfl) | ((with_reducible apply x_ixL); exact rfl; exact rfl) | ((with_reducible apply x_lenT); exact rfl) | ((with_reducible apply x_lenL); exact rfl) | (with_reducible apply w_intI) | (with_reducible apply w_intB) | (with_reducible apply w_tupT) | (with_reducible apply w_tupL) | (with_reducible apply w_slT) | (with_reducible apply w_slL) | (with_reducible apply w_iSeq) | (with_reducible apply w_iRg1) | (with_reducible apply ex_bl) | (with_reducible apply ex_int) | (with_reducible apply ex_neg) | (with_reducible refine And.intro (Nat.le_of_ble_eq_true rfl) ?_) | (with_reducible refine And.intro (rfl : List.length _ = _) ?_))
        refine w_take hP (by decide) (by decide) fun s2 r hP2 hr => ?_
        repeat (first | (with_reducible apply w_bin) | (with_reducible apply w_m1) | (with_reducible apply w_un) | (with_reducible apply w_cons) | (with_reducible apply w_nil) | (with_reducible apply w_callN) | ((with_reducible apply w_var); exact rfl) | (with_reducible apply w_c) | (with_reducible apply w_T) | (with_reducible apply w_NotT) | (with_reducible apply w_AndT) | (with_reducible apply w_OrT) | (with_reducible apply w_And) | (with_reducible apply w_Or) | (with_reducible apply w_Not) | (with_reducible apply w_If) | (with_reducible apply w_tup) | (with_reducible apply w_lstF) | (with_reducible apply w_noP) | (with_reducible apply w_part) | (with_reducible apply w_slice) | (with_reducible apply w_isN) | (with_reducible apply w_add) | (with_reducible apply w_sub) | (with_reducible apply w_gt) | (with_reducible apply w_lt) | (with_reducible apply w_ge) | (with_reducible apply w_le) | (with_reducible apply w_eqI) | (with_reducible apply w_neI) | (with_reducible apply w_eqS) | (with_reducible apply w_neS) | ((with_reducible apply x_ixT); exact rfl; exact rfl) | ((with_reducible apply x_ixL); exact rfl; exact rfl) | ((with_reducible apply x_lenT); exact rfl) | ((with_reducible apply x_lenL); exact rfl) | (with_reducible apply w_intI) | (with_reducible apply w_intB) | (with_reducible apply w_tupT) | (with_reducible apply w_tupL) | (with_reducible apply w_slT) | (with_reducible apply w_slL) | (with_reducible apply w_iSeq) | (with_reducible apply w_iRg1) | (with_reducible apply ex_bl) | (with_reducible apply ex_int) | (with_reducible apply ex_neg) | (with_reducible refine And.intro (Nat.le_of_ble_eq_true rfl) ?_) | (with_reducible refine And.intro (rfl : List.length _ = _) ?_))
        refine w_take hP2 (by decide) (by decide) fun s3 u hP3 hu => ?_
        have : u = 0 ∨ u = 1 ∨ u = 2 ∨ u = 3 := by omega
        rcases this with rfl | rfl | rfl | rfl
        · exact w_ixL (at0 _ _) ⟨1, rfl, hP3, by decide, by decide⟩
        · exact w_ixL (at1 _ _ _) ⟨1, rfl, hP3, by decide, by decide⟩
        · exact w_ixL (at2 _ _ _ _) ⟨2, rfl, hP3, by decide, by decide⟩
        · exact w_ixL (at3 _ _ _ _ _) ⟨1 + r, by rw [Int.natCast_add]; rfl, hP3, by omega, by omega⟩
      rintro e s2 ⟨z, rfl, hP2, z1, z6⟩
      refine o_cut (fun e s' => ∃ w : Str, e = [some (.ref k), some (.int m), some (.str ("abcdefghijklmnopqrstuvwxyz" : Str)), some (.ref S.length), some x, some (.int z), some (.str w), v7, v8, v9, v10] ∧ Px cs k kc (S ++ [.lst (ss.map D.str)]) s' ∧ good w) ?_ ?_
      · refine o_set (w_meth (w_c ⟨rfl, w_cons (w_comp (w_iRg1 (w_var rfl ⟨z, rfl, by omega, ?_⟩)))⟩))
        refine ⟨fun j acc s' => ∃ l : List Nat, acc = l.map (fun c => D.str ⟨#[c]⟩) ∧ l.length = j ∧ (∀ c ∈ l, c ∈ LET) ∧ Px cs k kc (S ++ [.lst (ss.map D.str)]) s', ?_, ⟨[], rfl, rfl, by simp, hP2⟩, ?_, ?_, ?_⟩
        · simp [rngD]
          show _ < 16777216
          omega
        · rintro j acc s' ⟨l, rfl, a1, a2, a3⟩
          exact ⟨by rw [List.length_map]; omega, by rw [a3.len, hP2.len], rfl⟩
        · rintro j y hy acc s' ⟨l, rfl, a1, a2, a3⟩
          refine ⟨_, rfl, w_eq rfl ⟨fun _ => ?_, fun h => (by cases h)⟩⟩
          repeat (first | (with_reducible apply w_bin) | (with_reducible apply w_m1) | (with_reducible apply w_un) | (with_reducible apply w_cons) | (with_reducible apply w_nil) | (with_reducible apply w_callN) | ((with_reducible apply w_var); exact rfl) | (with_reducible apply w_c) | (with_reducible apply w_T) | (with_reducible apply w_NotT) | (with_reducible apply w_AndT) | (with_reducible apply w_OrT) | (with_reducible apply w_And) | (with_reducible apply w_Or) | (with_reducible apply w_Not) | (with_reducible apply w_If) | (with_reducible apply w_tup) | (with_reducible apply w_lstF) | (with_reducible apply w_noP) | (with_reducible apply w_part) | (with_reducible apply w_slice) | (with_reducible apply w_isN) | (with_reducible apply w_add) | (with_reducible apply w_sub) | (with_reducible apply w_gt) | (with_reducible apply w_lt) | (with_reducible apply w_ge) | (with_reducible apply w_le) | (with_reducible apply w_eqI) | (with_reducible apply w_neI) | (with_reducible apply w_eqS) | (with_reducible apply w_neS) | ((with_reducible apply x_ixT); exact rfl; exact rfl) | ((with_reducible apply x_ixL); exact rfl; exact rfl) | ((with_reducible apply x_lenT); exact rfl) | ((with_reducible apply x_lenL); exact rfl) | (with_reducible apply w_intI) | (with_reducible apply w_intB) | (with_reducible apply w_tupT) | (with_reducible apply w_tupL) | (with_reducible apply w_slT) | (with_reducible apply w_slL) | (with_reducible apply w_iSeq) | (with_reducible apply w_iRg1) | (with_reducible apply ex_bl) | (with_reducible apply ex_int) | (with_reducible apply ex_neg) | (with_reducible refine And.intro (Nat.le_of_ble_eq_true rfl) ?_) | (with_reducible refine And.intro (rfl : List.length _ = _) ?_))
          refine w_take (a3.ext _) (by decide) (by decide) fun s3 r hP3 hr => ?_
          obtain ⟨s4, rfl, hP4⟩ := hP3.unext (by rw [List.length_append]; omega)
          obtain ⟨c, hc⟩ : ∃ c, LET[r]? = some c := ⟨LET[r]'(by rw [let_len]; omega), by simp⟩
          have hat : L2.atI LET r = some c := by rw [at_nat]; exact hc
          refine w_lift (d := .str ⟨#[c]⟩) (s := s4 ++ [Cell.lst (l.map fun c => D.str ⟨#[c]⟩)]) ?_ ⟨s4, rfl, l ++ [c], by simp, by simp [a1], ?_, hP4⟩
          · have hl : (("abcdefghijklmnopqrstuvwxyz" : Str)).length ≤ LIM := Nat.le_trans (by decide +kernel : (("abcdefghijklmnopqrstuvwxyz" : Str)).length ≤ 26) (Nat.le_of_ble_eq_true rfl)
            unfold LET at hat
            unfold oIx
            simp only [if_pos hl, hat]
          · intro y hy
            rcases List.mem_append.mp hy with hy | hy
            · exact a2 y hy
            · rw [List.mem_singleton.mp hy]
              exact List.mem_of_getElem? hc
        · rintro acc s3 ⟨l, rfl, a1, a2, hP3⟩
          have a1 : l.length = z := by rw [a1]; simp [rngD]
          refine ⟨plL_map (fun _ => rfl) l, ?_, ?_⟩
          · have := hP2.pop2 (xt := []) hP3
            rwa [List.append_nil] at this
          refine w_nil ?_
          have e1 : l.map (fun c => D.str ⟨#[c]⟩) = (l.map fun c => (⟨#[c]⟩ : Str)).map D.str := by simp
          refine w_lift (d := .str (wOf l)) (s := s3) ?_ ⟨wOf l, rfl, hP3, word_ok (by omega) (by omega) a2⟩
          have hs := one_sum l
          have hz : (("" : Str)).length = 0 := rfl
          rw [e1]
          unfold oJoin seqR
          simp only [seqW, strs_map]
          rw [if_pos (by rw [hs, hz, Nat.mul_zero]; exact lim_of (by omega)), join_one]
      rintro e s3 ⟨w, rfl, hP3, hw⟩
      have hcell := (hP3.get hne).trans (hget (ss.map D.str))
      refine o_cut (fun e s' => s' = s3 ∧ ∃ (w : Str) (v7 v9 v10 : Option D), e = [some (.ref k), some (.int m), some (.str ("abcdefghijklmnopqrstuvwxyz" : Str)), some (.ref S.length), some x, some (.int z), some (.str w), v7, v8, v9, v10] ∧ good w ∧ w ∉ ss) ?_ ?_
      · have hin := fun y (hy : good y) => in_ref hy.2 (fun z hz => (l3 z hz).2) hcell (x := y)
        refine o_if (w_T (w_bin (w_var rfl (w_var rfl ?_))))
        refine w_lift (d := .bl (decide (w ∈ ss))) (s := s3) (by unfold oIn; rw [hin w hw]; rfl) ⟨_, rfl, fun _ => ?_, fun hw2 => o_nil ⟨rfl, w, v7, v9, v10, rfl, hw, of_decide_eq_false hw2⟩⟩
        refine o_seq (o_set ?_)
        refine w_compA (["a", "b", "c", "d", "e", "f", "g", "h"] : List Str) D.str (fun y => D.str (("qqqqq" : Str) ++ y)) (w_iSeq (w_c ⟨_, rfl, rfl, rfl⟩)) (by decide) ?_ (fun _ _ => rfl) ?_
        · intro y hy
          refine ⟨_, rfl, fun s' => w_bin (w_c (w_var rfl ?_))⟩
          simp only [List.mem_cons, List.not_mem_nil, or_false] at hy
          rcases hy with rfl | rfl | rfl | rfl | rfl | rfl | rfl | rfl <;> exact w_lift rfl ⟨rfl, rfl⟩
        have hex : ∃ y, y ∈ oth.filter (fun y => !decide (y ∈ ss)) := by
          refine Classical.byContradiction fun hno => ?_
          have hall : ∀ y ∈ oth, y ∈ ss := fun y hy => Classical.byContradiction fun hn => hno ⟨y, List.mem_filter.mpr ⟨hy, by simpa using hn⟩⟩
          have := nodup_sub oth_nd hall
          have h8 : oth.length = 8 := rfl
          omega
        obtain ⟨y0, hy0⟩ := hex
        obtain ⟨y, ys, hys⟩ : ∃ y ys, oth.filter (fun y => !decide (y ∈ ss)) = y :: ys := by
          cases e : oth.filter (fun y => !decide (y ∈ ss)) with
          | nil => rw [e] at hy0; cases hy0
          | cons y ys => exact ⟨y, ys, rfl⟩
        have hym : y ∈ oth.filter (fun y => !decide (y ∈ ss)) := by rw [hys]; exact List.mem_cons_self ..
        obtain ⟨hyo, hyn⟩ := List.mem_filter.mp hym
        refine o_set (w_bin ?_)
        refine w_compG oth D.str (fun y => !decide (y ∈ ss)) D.str (w_iSeq (w_var rfl ⟨_, rfl, rfl, rfl⟩)) (by decide) ?_ (fun _ _ => rfl) ?_
        · intro y hy
          refine ⟨_, rfl, fun acc => ?_⟩
          refine w_T (w_bin (w_var rfl (w_var rfl ?_)))
          have hlt := (List.getElem?_eq_some_iff.mp hcell).1
          have hi := in_ref (st := s3 ++ [.lst acc]) (oth_ok y hy).2 (fun z hz => (l3 z hz).2) (by rw [List.getElem?_append_left hlt]; exact hcell)
          refine w_lift (d := .bl (!decide (y ∈ ss))) (s := s3 ++ [.lst acc]) (by unfold oIn; rw [hi]; rfl) ⟨_, rfl, rfl, rfl, fun _ => w_var rfl ⟨rfl, rfl⟩⟩
        · rw [hys]
          refine w_c (w_ixL (at0 _ _) ⟨rfl, y, _, _, _, rfl, oth_ok y hyo, by simpa using hyn⟩)
      rintro e s4 ⟨rfl, w, v7, v9, v10, rfl, hw, hwn⟩
      refine o_expr (w_meth (w_var rfl ⟨by simp [tyM, hcell], w_cons (w_var rfl (w_nil ?_))⟩))
      refine w_app hcell (lim_lt (by rw [List.length_map]; omega)) ?_
      refine ⟨ss ++ [w], _, _, _, _, _, _, _, rfl, ?_, by simp [l1], ?_, ?_⟩
      · have := hP3.put (c := .lst (ss.map D.str ++ [D.str w])) hne hne2
        rw [hput] at this
        rw [List.map_append]
        exact this
      · rw [List.nodup_append]
        refine ⟨l2, by simp, fun a ha b hb e => ?_⟩
        rw [List.mem_singleton.mp hb] at e
        exact hwn (e ▸ ha)
      · intro y hy
        rcases List.mem_append.mp hy with hy | hy
        · exact l3 y hy
        · rw [List.mem_singleton.mp hy]
          exact hw
    · rintro e s' ⟨ss, v4, v5, v6, v7, v8, v9, v10, rfl, hP, l1, l2, l3⟩
      exact ⟨ss, v4, v5, v6, v7, v8, v9, v10, rfl, hP, by rw [l1]; simp [rngD], l2, l3⟩
  rintro e s2 ⟨ss, v4, v5, v6, v7, v8, v9, v10, rfl, hP, l1, l2, l3⟩
  refine o_ret (w_var rfl ?_)
  refine fin_pxF (e := .lst (ss.map D.str)) h hP ?_ fun s3 hP3 => q s3 ss hP3 l1 l2 l3
  have hc := (hP.get hne).trans (hget (ss.map D.str))
  unfold frz frzG
  simp only [Nat.lt_irrefl, if_false, hc]
  rw [frzL_pl _ _ (plL_map (fun _ => rfl) ss)]
end
end K

namespace K
open PySem Cw
variable {X : Nat → D → Sto → Prop}
theorem w_runK {n : Nat} {f : SM} {ds : List D} {st : Sto} {Q : D → Sto → Prop} (h : wo (f (ds.map some ++ List.replicate (n - ds.length) none) st) (fun _ s => Q .non s) Q (fun _ _ => False) (fun _ _ => False)) : wx X (runF true n f ds st) Q := by
  unfold runF popR
  rw [if_pos rfl]
  cases q : f (ds.map some ++ List.replicate (n - ds.length) none) st with
  | nx e s => rw [q] at h; exact h
  | rt d s => rw [q] at h; exact h
  | _ => rw [q] at h; exact h.elim
theorem w_dict {ks : List L2.Key} {g : EM (List D)} {env : En} {st : Sto} {Q : D → Sto → Prop} (h : wx X (g env (st ++ [.dK [] []])) fun ds s1 => ∃ s2, s1 = s2 ++ [.dK [] []] ∧ s2.length = st.length ∧ ds.length = ks.length ∧ Q (.ref st.length) (s2 ++ [.dK ks ds])) : wx X (mDict ks g env st) Q := by
  refine w_bind (w_mono h ?_)
  rintro ds s1 ⟨s2, rfl, e, el, q⟩
  have hg : (s2 ++ [Cell.dK [] []])[st.length]? = some (.dK [] []) := by
    rw [← e]
    simp
  have hp : (s2 ++ [Cell.dK [] []]).set st.length (.dK ks ds) = s2 ++ [.dK ks ds] := by
    rw [← e]
    simp
  simp only [hg, if_pos el, hp]
  exact q
/-! ### lists, frozen or live -/
def LL (k : Nat) (S : Sto) (d : D) (l : List D) : Prop := d = .lst l ∨ ∃ n, d = .ref n ∧ n ≠ k ∧ S[n]? = some (.lst l)
section
variable {k : Nat} {S : Sto} {d : D} {l : List D} {Q : D → Sto → Prop}
theorem ll_ix {i : Int} {x : D} (h : LL k S d l) (hx : L2.atI l i = some x) (q : Q x S) : wx X (lift (oIx d (.int i) S)) Q := by
  rcases h with rfl | ⟨n, rfl, _, h⟩
  · exact w_ixL hx q
  · exact w_ixR h hx q
theorem ll_len (h : LL k S d l) (q : Q (.int l.length) S) : wx X (lift (oLen d S)) Q := by
  rcases h with rfl | ⟨n, rfl, _, h⟩
  · exact q
  · exact w_lenR h q
theorem ll_tup (h : LL k S d l) (q : Q (.tup l) S) : wx X (lift (oTuple d S)) Q := by
  rcases h with rfl | ⟨n, rfl, _, h⟩
  · exact q
  · exact w_tupR h q
theorem ll_lst (h : LL k S d l) (q : Q (.lst l) S) : wx X (lift (oList false d S)) Q := by
  rcases h with rfl | ⟨n, rfl, _, h⟩
  · exact q
  · refine w_lift (d := .lst l) (s := S) ?_ q
    unfold oList seqR
    simp only [seqW, h]
    rfl
theorem ll_iter (h : LL k S d l) : ∃ it, iterOf S d = some it ∧ it.items = l ∧ ∀ xt, lockB it.lock (S ++ xt) = true := by
  rcases h with rfl | ⟨n, rfl, _, h⟩
  · exact ⟨⟨l, []⟩, rfl, rfl, fun _ => rfl⟩
  · refine ⟨⟨l, [(n, l)]⟩, ?_, rfl, fun xt => ?_⟩
    · unfold iterOf
      simp only [h]
    · unfold lockB
      simp only [List.all_cons, List.all_nil, Bool.and_true]
      rw [List.getElem?_append_left (List.getElem?_eq_some_iff.mp h).1, h]
      simp [cbeq_refl, dbeqL_refl]
theorem LL.ext (h : LL k S d l) (xt : Sto) : LL k (S ++ xt) d l := by
  rcases h with rfl | ⟨n, rfl, hn, h⟩
  · exact .inl rfl
  · exact .inr ⟨n, rfl, hn, by rw [List.getElem?_append_left (List.getElem?_eq_some_iff.mp h).1]; exact h⟩
theorem LL.px {cs : List Int} {kc : Nat} {s : Sto} (hP : Px cs k kc S s) (h : LL k S d l) : LL k s d l := by
  rcases h with rfl | ⟨n, rfl, hn, h⟩
  · exact .inl rfl
  · exact .inr ⟨n, rfl, hn, (hP.get hn).trans h⟩
end
def netKs : List L2.Key := [.inr ("processes" : Str), .inr ("channels" : Str), .inr ("rules" : Str)]
/-- the net's dict -/
def NA (k : Nat) (N : Net) (nd : Nat) (S : Sto) : Prop := nd ≠ k ∧ ∃ p c r, S[nd]? = some (.dK netKs [p, c, r]) ∧ LL k S p (N.ps.map encP) ∧ LL k S c (N.cs.map encC) ∧ LL k S r (N.rs.map encR)
theorem nk_p {a b c : D} : lookK netKs [a, b, c] (.inr ("processes" : Str)) = some a := rfl
theorem nk_c {a b c : D} : lookK netKs [a, b, c] (.inr ("channels" : Str)) = some b := rfl
theorem nk_r {a b c : D} : lookK netKs [a, b, c] (.inr ("rules" : Str)) = some c := rfl
theorem NA.ext {k : Nat} {N : Net} {nd : Nat} {S : Sto} (h : NA k N nd S) (xt : Sto) : NA k N nd (S ++ xt) := by
  obtain ⟨h0, p, c, r, h1, h2, h3, h4⟩ := h
  exact ⟨h0, p, c, r, by rw [List.getElem?_append_left (List.getElem?_eq_some_iff.mp h1).1]; exact h1, h2.ext xt, h3.ext xt, h4.ext xt⟩
theorem NA.px {k : Nat} {N : Net} {nd : Nat} {S s : Sto} {cs : List Int} {kc : Nat} (hP : Px cs k kc S s) (h : NA k N nd S) : NA k N nd s := by
  obtain ⟨h0, p, c, r, h1, h2, h3, h4⟩ := h
  exact ⟨h0, p, c, r, (hP.get h0).trans h1, h2.px hP, h3.px hP, h4.px hP⟩
section
variable {env : En} {k : Nat} {N : Net} {nd i : Nat} {s : Sto} {Q : D → Sto → Prop}
theorem w_nP (h : NA k N nd s) (h0 : env[i]? = some (some (.ref nd))) (q : ∀ d, LL k s d (N.ps.map encP) → Q d s) : wx X (mGet (mVar i) (mC (.str ("processes" : Str))) env s) Q := by
  obtain ⟨_, p, c, r, h1, h2, h3, h4⟩ := h
  exact w_getK h0 h1 nk_p (q p h2)
theorem w_nC (h : NA k N nd s) (h0 : env[i]? = some (some (.ref nd))) (q : ∀ d, LL k s d (N.cs.map encC) → Q d s) : wx X (mGet (mVar i) (mC (.str ("channels" : Str))) env s) Q := by
  obtain ⟨_, p, c, r, h1, h2, h3, h4⟩ := h
  exact w_getK h0 h1 nk_c (q c h3)
theorem w_nR (h : NA k N nd s) (h0 : env[i]? = some (some (.ref nd))) (q : ∀ d, LL k s d (N.rs.map encR) → Q d s) : wx X (mGet (mVar i) (mC (.str ("rules" : Str))) env s) Q := by
  obtain ⟨_, p, c, r, h1, h2, h3, h4⟩ := h
  exact w_getK h0 h1 nk_r (q r h4)
end
theorem tyM_ref {n : Nat} {l : List D} {s : Sto} (h : s[n]? = some (.lst l)) : tyM "list" (.ref n) s = true := by simp [tyM, h]
end K

namespace K
open PySem Cw
variable {X : Nat → D → Sto → Prop}
theorem l_net_initG (N : Net) (h : NetOk N) (st : Sto) (k : Nat) (hk : st[k]? = some (.ins 100 [] [])) (dP dC dR : D) (w1 : ∀ s', m__rows [dP, .int 1, .int 5] s' = .ok (tP N) s') (w2 : ∀ s', m__rows [dC, .int 0, .int 8] s' = .ok (tC N) s') (w3 : ∀ s', m__rows [dR, .int 0, .int 40] s' = .ok (tR N) s') : m_Net_init [.ref k, dP, dC, dR] st = .ok .non (st.set k (.ins 100 [3, 4, 5] [tP N, tC N, tR N])) := by
  have hkl := (List.getElem?_eq_some_iff.mp hk).1
  obtain ⟨p1, p2, p3⟩ := sm_P N h
  obtain ⟨c1, c2, c3⟩ := sm_C N h
  obtain ⟨r1, r2, r3⟩ := sm_R N h
  have hp1 := h.p1
  have hp5 := h.p5
  have hc8 := h.c8
  have hr := h.r40
  have tups : ∀ {α : Type} (enc : α → D) (l : List α), (∀ a, isTup (enc a) = true) → ∀ r ∈ l.map enc, isTup r = true := fun enc l ha r hr => by
    obtain ⟨a, _, rfl⟩ := List.mem_map.mp hr
    exact ha a
  have q1 : ∀ s', mComp false (iEn (mVar 4)) [7, 8] (.tp [7, 8]) mYes (mCallN 2 m_is_process (mCons (mVar 8) (mCons (mSlice false (mVar 4) mNoP (mPart (mVar 7))) mNil))) [some (.ref k), some dP, some dC, some dR, some (tP N), none, none, none, none, none, none] s' = .ok (.lst ((enumD (N.ps.map encP)).map fun _ => .bl true)) s' := fun s' => by
    refine oall_enum rfl (by simp; omega) fun j y e s'' => ?_
    rw [List.getElem?_map] at e
    cases q : N.ps[j]? with
    | none => rw [q] at e; cases e
    | some p =>
      rw [q] at e
      cases e
      have hm := List.mem_of_getElem? q
      obtain ⟨n1, n2, n3, n4⟩ := h.pn p hm
      have := l_is_process p.1 p.2 (N.ps.take j) s'' n1 n3 n4 (nodup_take h.pd q) n2 (fun y hy => by
        obtain ⟨z, hz, rfl⟩ := List.mem_map.mp hy
        exact (h.pn z (List.mem_of_mem_take hz)).2.1) (by rw [List.length_take]; omega)
      simp [wipeE, setAll, bodyR, sRet, sRetN, sSeq, sIf, sNil, sExpr, sSet, sRaise, mAnd, mOr, mNot, mIf, mAndT, mOrT, mNotT, mT, mIsN, mChain, m1, mVar, mC, mBin, mUn, mCallN, mCons, mNil, mTup, mSlice, mPart, mNoP, oIsi, oIsi2, tyOf, oLen, oInt, oLe, oLt, oGt, oGe, oCmp, oIx, oSub, oFdiv, oMod, oEq, eqD, oSl, pu, Res.bind, Res.toS, lift, subT, mYes, tP, cut_to]
      rw [← List.map_take]
      exact this
  have q2 : ∀ s', mComp false (iEn (mVar 5)) [7, 9] (.tp [7, 9]) mYes (mCallN 3 m_is_channel (mCons (mVar 9) (mCons (mVar 4) (mCons (mSlice false (mVar 5) mNoP (mPart (mVar 7))) mNil)))) [some (.ref k), some dP, some dC, some dR, some (tP N), some (tC N), none, none, none, none, none] s' = .ok (.lst ((enumD (N.cs.map encC)).map fun _ => .bl true)) s' := fun s' => by
    refine oall_enum rfl (by simp; omega) fun j y e s'' => ?_
    rw [List.getElem?_map] at e
    cases q : N.cs[j]? with
    | none => rw [q] at e; cases e
    | some p =>
      rw [q] at e
      cases e
      have hm := List.mem_of_getElem? q
      obtain ⟨n1, n2, n3, n4, n5⟩ := h.cn p hm
      have := l_is_channel p N.ps (N.cs.take j) s'' n1 n3 n4 n5 (nodup_take h.cd q) n2 (fun y hy => by
        obtain ⟨z, hz, rfl⟩ := List.mem_map.mp hy
        exact (h.cn z (List.mem_of_mem_take hz)).2.1) (by rw [List.length_take]; omega)
      simp [wipeE, setAll, bodyR, sRet, sRetN, sSeq, sIf, sNil, sExpr, sSet, sRaise, mAnd, mOr, mNot, mIf, mAndT, mOrT, mNotT, mT, mIsN, mChain, m1, mVar, mC, mBin, mUn, mCallN, mCons, mNil, mTup, mSlice, mPart, mNoP, oIsi, oIsi2, tyOf, oLen, oInt, oLe, oLt, oGt, oGe, oCmp, oIx, oSub, oFdiv, oMod, oEq, eqD, oSl, pu, Res.bind, Res.toS, lift, subT, mYes, tP, tC, cut_to]
      rw [← List.map_take]
      exact this
  have q3 : ∀ s', mComp false (iSeq (mVar 6)) [10] (.nm 10) mYes (mCallN 3 m_is_rule (mCons (mVar 10) (mCons (mVar 4) (mCons (mVar 5) mNil)))) [some (.ref k), some dP, some dC, some dR, some (tP N), some (tC N), some (tR N), none, none, none, none] s' = .ok (.lst ((N.rs.map encR).map fun _ => .bl true)) s' := fun s' => by
    refine mcomp_all (lock := []) (items := N.rs.map encR) (fun _ => .bl true) ?_ (fun _ => rfl) ?_ ?_ ?_
    · simp [iSeq, mVar, Res.bind, iterOf, tR]
    · rw [List.length_map]
      show _ < 16777216
      omega
    · intro y hy
      obtain ⟨p, hp, rfl⟩ := List.mem_map.mp hy
      refine ⟨_, rfl, fun a => ?_⟩
      have := l_is_rule p N.ps N.cs (s' ++ [.lst a]) (h.rn p hp)
      simp [wipeE, bodyR, sRet, sRetN, sSeq, sIf, sNil, sExpr, sSet, sRaise, mAnd, mOr, mNot, mIf, mAndT, mOrT, mNotT, mT, mIsN, mChain, m1, mVar, mC, mBin, mUn, mCallN, mCons, mNil, mTup, mSlice, mPart, mNoP, oIsi, oIsi2, tyOf, oLen, oInt, oLe, oLt, oGt, oGe, oCmp, oIx, oSub, oFdiv, oMod, oEq, eqD, oSl, pu, Res.bind, Res.toS, lift, subT, mYes, tP, tC]
      exact this
    · rw [plL_iff]
      intro y hy
      obtain ⟨x, hx, rfl⟩ := List.mem_map.mp hy
      rfl
  unfold m_Net_init
  have hb : bodyR (mb_Net_init [some (.ref k), some dP, some dC, some dR, none, none, none, none, none, none, none] st) = .ok .non (st.set k (.ins 100 [3, 4, 5] [tP N, tC N, tR N])) := by
    unfold mb_Net_init
    generalize mComp false (iEn (mVar 4)) [7, 8] (.tp [7, 8]) mYes (mCallN 2 m_is_process (mCons (mVar 8) (mCons (mSlice false (mVar 4) mNoP (mPart (mVar 7))) mNil))) = C1 at q1 ⊢
    generalize mComp false (iEn (mVar 5)) [7, 9] (.tp [7, 9]) mYes (mCallN 3 m_is_channel (mCons (mVar 9) (mCons (mVar 4) (mCons (mSlice false (mVar 5) mNoP (mPart (mVar 7))) mNil)))) = C2 at q2 ⊢
    generalize mComp false (iSeq (mVar 6)) [10] (.nm 10) mYes (mCallN 3 m_is_rule (mCons (mVar 10) (mCons (mVar 4) (mCons (mVar 5) mNil)))) = C3 at q3 ⊢
    simp only [tP, tC, tR] at w1 w2 w3 q1 q2 q3 ⊢
    have hs : ∀ c : Cell, (st.set k c)[k]? = some c := fun c => List.getElem?_set_self hkl
    simp [bodyR, sRet, sRetN, sSeq, sIf, sNil, sExpr, sSet, sRaise, mAnd, mOr, mNot, mIf, mAndT, mOrT, mNotT, mT, mIsN, mChain, m1, mVar, mC, mBin, mUn, mCallN, mCons, mNil, mTup, mSlice, mPart, mNoP, oIsi, oIsi2, tyOf, oLen, oInt, oLe, oLt, oGt, oGe, oCmp, oIx, oSub, oFdiv, oMod, oEq, eqD, oSl, pu, Res.bind, Res.toS, lift, subT, mYes, sFld, w1, w2, w3, q1, q2, q3, allBl, hk, putA, hs, cls_all, List.set_set, -List.map_map]
  have hr2 : runF false 11 mb_Net_init [.ref k, dP, dC, dR] st = .ok .non ((st.set k (.ins 100 [3, 4, 5] [tP N, tC N, tR N])).take st.length) := by
    refine run_cells hb (frz_pl _ _ rfl _) (popB_gen fun j hj => ?_)
    by_cases e : k = j
    · subst e
      refine .inr ⟨_, by rw [List.getElem?_set_self hkl], ?_⟩
      simp [belowC, belowL, below_pl _ _ p3, below_pl _ _ c3, below_pl _ _ r3]
    · exact .inl (by rw [List.getElem?_set_ne e])
  rw [hr2]
  congr 1
  rw [List.take_of_length_le]
  simp

theorem l_makeG (N : Net) (h : NetOk N) (st : Sto) (env : En) (g : EM (List D)) (dP dC dR : D) (w1 : ∀ s', m__rows [dP, .int 1, .int 5] s' = .ok (tP N) s') (w2 : ∀ s', m__rows [dC, .int 0, .int 8] s' = .ok (tC N) s') (w3 : ∀ s', m__rows [dR, .int 0, .int 40] s' = .ok (tR N) s') (hg : g env st = .ok [dP, dC, dR] st) : mMake 100 4 m_Net_init g env st = .ok (netD N) st := by
  obtain ⟨p1, p2, p3⟩ := sm_P N h
  obtain ⟨c1, c2, c3⟩ := sm_C N h
  obtain ⟨r1, r2, r3⟩ := sm_R N h
  have hi := l_net_initG N h (st ++ [.ins 100 [] []]) st.length (by simp) dP dC dR w1 w2 w3
  have e : (st ++ [Cell.ins 100 [] []]).set st.length (.ins 100 [3, 4, 5] [tP N, tC N, tR N]) = st ++ [.ins 100 [3, 4, 5] [tP N, tC N, tR N]] := by simp
  rw [e] at hi
  have hf : frz (st ++ [.ins 100 [3, 4, 5] [tP N, tC N, tR N]]) st.length 5 (.ref st.length) = some (netD N) := by
    unfold frz frzG
    simp only [Nat.lt_irrefl, if_false]
    have e2 : (st ++ [Cell.ins 100 [3, 4, 5] [tP N, tC N, tR N]])[st.length]? = some (.ins 100 [3, 4, 5] [tP N, tC N, tR N]) := by simp
    rw [e2]
    have e3 : frzL (fun j => frz (st ++ [.ins 100 [3, 4, 5] [tP N, tC N, tR N]]) st.length 4 (.ref j)) [tP N, tC N, tR N] = some [tP N, tC N, tR N] := frzL_pl _ _ (by simp [plL, p3, c3, r3])
    simp only [e3]
    rfl
  unfold mMake
  rw [hg]
  simp only [Res.bind, List.length_cons, List.length_nil, if_true]
  rw [hi]
  simp only
  unfold popR
  simp [hf, popB_app]

theorem rowsL {α : Type} {enc : α → D} {l : List α} {lo hi : Nat} (hs : sm 3 (.lst (l.map enc)) = true) (ht : ∀ a, tpl 2 (enc a) = true) (hi' : ∀ a, isTup (enc a) = true) (h1 : lo ≤ l.length) (h2 : l.length ≤ hi) (h3 : l.length < 1000) (st : Sto) : m__rows [.lst (l.map enc), .int lo, .int hi] st = .ok (.tup (l.map enc)) st := by
  refine l_rows (.lst (l.map enc)) (l.map enc) lo hi st hs ?_ (fun r hr => ?_) (by simpa using h1) (by simpa using h2) (by simpa using h3)
  · show D.tup ((l.map enc).map (fz 2)) = _
    congr 1
    rw [List.map_map]
    exact List.map_congr_left fun a _ => fz_id 2 _ (ht a)
  · obtain ⟨a, _, rfl⟩ := List.mem_map.mp hr
    exact hi' a
theorem rowsT {α : Type} {enc : α → D} {l : List α} {lo hi : Nat} (hs : sm 3 (.tup (l.map enc)) = true) (ht : ∀ a, tpl 2 (enc a) = true) (hi' : ∀ a, isTup (enc a) = true) (h1 : lo ≤ l.length) (h2 : l.length ≤ hi) (h3 : l.length < 1000) (st : Sto) : m__rows [.tup (l.map enc), .int lo, .int hi] st = .ok (.tup (l.map enc)) st := by
  refine l_rows (.tup (l.map enc)) (l.map enc) lo hi st hs ?_ (fun r hr => ?_) (by simpa using h1) (by simpa using h2) (by simpa using h3)
  · show D.tup ((l.map enc).map (fz 2)) = _
    congr 1
    rw [List.map_map]
    exact List.map_congr_left fun a _ => fz_id 2 _ (ht a)
  · obtain ⟨a, _, rfl⟩ := List.mem_map.mp hr
    exact hi' a
theorem smTL {ds : List D} (h : sm 3 (.tup ds) = true) : sm 3 (.lst ds) = true := h
theorem tpl_P (p : Str × Nat) : tpl 2 (encP p) = true := by simp [encP, tpl]
theorem tpl_C (p : Chan) : tpl 2 (encC p) = true := by simp [encC, tpl]
theorem tpl_R (p : Rule) : tpl 2 (encR p) = true := by
  cases p with
  | mk p s a s2 => cases a <;> simp [encR, encA, tpl]
section
variable {cs : List Int} {k kc : Nat} {S s : Sto} {Q : D → Sto → Prop}
theorem w_made {N : Net} {nd : Nat} (h : Px cs k kc S s) (hN : NetOk N) (hA : NA k N nd S) (q : ∀ s', Px cs k kc S s' → Q (netD N) s') : wx X (m__law_made [.ref k, .ref nd] s) Q := by
  obtain ⟨p1, _, _⟩ := sm_P N hN
  obtain ⟨c1, _, _⟩ := sm_C N hN
  obtain ⟨r1, _, _⟩ := sm_R N hN
  have h1 := hN.p1
  have h5 := hN.p5
  have h8 := hN.c8
  have h40 := hN.r40
  have plN : pl (netD N) = true := by
    obtain ⟨_, _, p3⟩ := sm_P N hN
    obtain ⟨_, _, c3⟩ := sm_C N hN
    obtain ⟨_, _, r3⟩ := sm_R N hN
    simp [netD, pl, plL, p3, c3, r3]
  unfold m__law_made
  refine w_run ?_
  show wo (mb__law_made [some (.ref k), some (.ref nd)] s) _ _ _ _
  unfold mb__law_made
  refine o_seq (o_if ?_)
  repeat (first | (with_reducible apply w_bin) | (with_reducible apply w_m1) | (with_reducible apply w_un) | (with_reducible apply w_cons) | (with_reducible apply w_nil) | (with_reducible apply w_callN) | ((with_reducible apply w_var); exact rfl) | (with_reducible apply w_c) | (with_reducible apply w_T) | (with_reducible apply w_NotT) | (with_reducible apply w_AndT) | (with_reducible apply w_OrT) | (with_reducible apply w_And) | (with_reducible apply w_Or) | (with_reducible apply w_Not) | (with_reducible apply w_If) | (with_reducible apply w_tup) | (with_reducible apply w_lstF) | (with_reducible apply w_noP) | (with_reducible apply w_part) | (with_reducible apply w_slice) | (with_reducible apply w_isN) | (with_reducible apply w_add) | (with_reducible apply w_sub) | (with_reducible apply w_gt) | (with_reducible apply w_lt) | (with_reducible apply w_ge) | (with_reducible apply w_le) | (with_reducible apply w_eqI) | (with_reducible apply w_neI) | (with_reducible apply w_eqS) | (with_reducible apply w_neS) | ((with_reducible apply x_ixT); exact rfl; exact rfl) | ((with_reducible apply x_ixL); exact rfl; exact rfl) | ((with_reducible apply x_lenT); exact rfl) | ((with_reducible apply x_lenL); exact rfl) | (with_reducible apply w_intI) | (with_reducible apply w_intB) | (with_reducible apply w_tupT) | (with_reducible apply w_tupL) | (with_reducible apply w_slT) | (with_reducible apply w_slL) | (with_reducible apply w_iSeq) | (with_reducible apply w_iRg1) | (with_reducible apply ex_bl) | (with_reducible apply ex_int) | (with_reducible apply ex_neg) | (with_reducible refine And.intro (Nat.le_of_ble_eq_true rfl) ?_) | (with_reducible refine And.intro (rfl : List.length _ = _) ?_))
  refine w_take h (by decide) (by decide) fun s1 u h1' _ => ?_
  have hA1 := hA.px h1'
  repeat (first | (with_reducible apply w_bin) | (with_reducible apply w_m1) | (with_reducible apply w_un) | (with_reducible apply w_cons) | (with_reducible apply w_nil) | (with_reducible apply w_callN) | ((with_reducible apply w_var); exact rfl) | (with_reducible apply w_c) | (with_reducible apply w_T) | (with_reducible apply w_NotT) | (with_reducible apply w_AndT) | (with_reducible apply w_OrT) | (with_reducible apply w_And) | (with_reducible apply w_Or) | (with_reducible apply w_Not) | (with_reducible apply w_If) | (with_reducible apply w_tup) | (with_reducible apply w_lstF) | (with_reducible apply w_noP) | (with_reducible apply w_part) | (with_reducible apply w_slice) | (with_reducible apply w_isN) | (with_reducible apply w_add) | (with_reducible apply w_sub) | (with_reducible apply w_gt) | (with_reducible apply w_lt) | (with_reducible apply w_ge) | (with_reducible apply w_le) | (with_reducible apply w_eqI) | (with_reducible apply w_neI) | (with_reducible apply w_eqS) | (with_reducible apply w_neS) | ((with_reducible apply x_ixT); exact rfl; exact rfl) | ((with_reducible apply x_ixL); exact rfl; exact rfl) | ((with_reducible apply x_lenT); exact rfl) | ((with_reducible apply x_lenL); exact rfl) | (with_reducible apply w_intI) | (with_reducible apply w_intB) | (with_reducible apply w_tupT) | (with_reducible apply w_tupL) | (with_reducible apply w_slT) | (with_reducible apply w_slL) | (with_reducible apply w_iSeq) | (with_reducible apply w_iRg1) | (with_reducible apply ex_bl) | (with_reducible apply ex_int) | (with_reducible apply ex_neg) | (with_reducible refine And.intro (Nat.le_of_ble_eq_true rfl) ?_) | (with_reducible refine And.intro (rfl : List.length _ = _) ?_))
  refine ⟨fun _ => ?_, fun _ => o_nil ?_⟩
  · refine o_ret ?_
    obtain ⟨_, dp, dc, dr, e1, e2, e3, e4⟩ := hA1
    have hg : wp ((mCons (m1 (oList false) (mGet (mVar 1) (mC (.str ("processes" : Str))))) (mCons (m1 (oList false) (mGet (mVar 1) (mC (.str ("channels" : Str))))) (mCons (m1 (oList false) (mGet (mVar 1) (mC (.str ("rules" : Str))))) mNil))) [some (.ref k), some (.ref nd)] s1) fun l s' => l = [.lst (N.ps.map encP), .lst (N.cs.map encC), .lst (N.rs.map encR)] ∧ s' = s1 :=
      w_cons (w_m1 (w_getK rfl e1 nk_p (ll_lst e2 (w_cons (w_m1 (w_getK rfl e1 nk_c (ll_lst e3 (w_cons (w_m1 (w_getK rfl e1 nk_r (ll_lst e4 (w_nil ⟨rfl, rfl⟩))))))))))))
    obtain ⟨l, s', g1, rfl, rfl⟩ := w_out hg
    refine w_eq (l_makeG N hN s' _ _ _ _ _ (rowsL (lo := 1) (hi := 5) (smTL p1) tpl_P (fun _ => rfl) h1 h5 (by omega)) (rowsL (lo := 0) (hi := 8) (smTL c1) tpl_C (fun _ => rfl) (Nat.zero_le _) h8 (by omega)) (rowsL (lo := 0) (hi := 40) (smTL r1) tpl_R (fun _ => rfl) (Nat.zero_le _) h40 (by omega)) g1) ?_
    exact fin_px0 h h1' plN q
  · refine o_ret ?_
    obtain ⟨_, dp, dc, dr, e1, e2, e3, e4⟩ := hA1
    have hg : wp ((mCons (m1 oTuple (mGet (mVar 1) (mC (.str ("processes" : Str))))) (mCons (m1 oTuple (mGet (mVar 1) (mC (.str ("channels" : Str))))) (mCons (m1 oTuple (mGet (mVar 1) (mC (.str ("rules" : Str))))) mNil))) [some (.ref k), some (.ref nd)] s1) fun l s' => l = [.tup (N.ps.map encP), .tup (N.cs.map encC), .tup (N.rs.map encR)] ∧ s' = s1 :=
      w_cons (w_m1 (w_getK rfl e1 nk_p (ll_tup e2 (w_cons (w_m1 (w_getK rfl e1 nk_c (ll_tup e3 (w_cons (w_m1 (w_getK rfl e1 nk_r (ll_tup e4 (w_nil ⟨rfl, rfl⟩))))))))))))
    obtain ⟨l, s', g1, rfl, rfl⟩ := w_out hg
    refine w_eq (l_makeG N hN s' _ _ _ _ _ (rowsT (lo := 1) (hi := 5) p1 tpl_P (fun _ => rfl) h1 h5 (by omega)) (rowsT (lo := 0) (hi := 8) c1 tpl_C (fun _ => rfl) (Nat.zero_le _) h8 (by omega)) (rowsT (lo := 0) (hi := 40) r1 tpl_R (fun _ => rfl) (Nat.zero_le _) h40 (by omega)) g1) ?_
    exact fin_px0 h h1' plN q
end
/-! ### worlds in lists -/
def encRowL (r : List (Nat × Nat)) : D := mk false (r.map (encM true))
def encL (w : Wd) : D := .tup [encN false w.st, encN false w.se, mk false (w.pr.map encRowL)]
theorem pl_RowL (r : List (Nat × Nat)) : pl (encRowL r) = true := pl_mk (plL_map (pl_M1 true) r)
theorem pl_L (w : Wd) : pl (encL w) = true := by
  simp only [encL, pl, plL, pl_N1, pl_mk (plL_map pl_RowL w.pr), Bool.and_self]
theorem cut5 (k : Nat) : (.str (L2.cutS (kindOf k) none (some 5)) : D) = .str (if ord k = true then "order" else "loose") := by
  unfold ord kindOf
  match k with
  | 0 => rfl
  | 1 => rfl
  | 2 => rfl
  | 3 => rfl
  | n + 4 =>
    have : kinds[n + 4]? = none := List.getElem?_eq_none (by simp [kinds])
    rw [this]
    rfl
theorem cutm5 (k : Nat) : decide (L2.cutS (kindOf k) (some (-5)) none = ("lossy" : Str)) = lossy k := by
  unfold lossy kindOf
  match k with
  | 0 => decide
  | 1 => decide
  | 2 => decide
  | 3 => decide
  | n + 4 =>
    have : kinds[n + 4]? = none := List.getElem?_eq_none (by simp [kinds])
    rw [this]
    decide
theorem kind_len (k : Nat) : (kindOf k).length ≤ LIM := by
  have : (kindOf k).length ≤ 11 := by
    unfold kindOf
    match k with
    | 0 => decide
    | 1 => decide
    | 2 => decide
    | 3 => decide
    | n + 4 =>
      have : kinds[n + 4]? = none := List.getElem?_eq_none (by simp [kinds])
      rw [this]
      decide
  exact Nat.le_trans this (Nat.le_of_ble_eq_true rfl)
end K

namespace K
open PySem Cw
variable {X : Nat → D → Sto → Prop}
/-- a comprehension without effects over what may be a live list -/
theorem w_compH {α : Type} {fi : EM IterD} {vs : List Nat} {t : Tgt} {ft : EM Bool} {fe : EM D} {env : En} {st : Sto} {Q : D → Sto → Prop} (xs : List α) (enc : α → D) (p : α → Bool) (g : α → D) (hi : wp (fi env st) fun it s => it.items = xs.map enc ∧ (∀ xt, lockB it.lock (s ++ xt) = true) ∧ s = st) (hl : xs.length < 1000000)
    (he : ∀ x ∈ xs, ∃ e1, tgtD t (enc x) (wipeE env vs) = some e1 ∧ ∀ acc, wp (ft e1 (st ++ [.lst acc])) fun c s2 => c = p x ∧ s2 = st ++ [.lst acc] ∧ (p x = true → wp (fe e1 (st ++ [.lst acc])) fun d s3 => d = g x ∧ s3 = st ++ [.lst acc]))
    (hp : ∀ x ∈ xs, pl (g x) = true) (q : Q (.lst ((xs.filter p).map g)) st) : wx X (mComp false fi vs t ft fe env st) Q := by
  refine w_comp (w_mono hi ?_)
  rintro it s ⟨hit, hlk, rfl⟩
  have hlen : it.items.length = xs.length := by rw [hit, List.length_map]
  refine ⟨fun j acc s' => acc = ((xs.take j).filter p).map g ∧ s' = s, ?_, ⟨rfl, rfl⟩, ?_, ?_, ?_⟩
  · rw [hlen]
    show xs.length < 16777216
    omega
  · rintro j acc s' ⟨rfl, rfl⟩
    refine ⟨?_, rfl, hlk _⟩
    rw [List.length_map]
    exact Nat.le_trans (List.length_filter_le _ _) (by rw [List.length_take]; omega)
  · rintro j d hd acc s' ⟨rfl, rfl⟩
    rw [hit] at hd
    simp only [List.getElem?_map] at hd
    obtain ⟨x, hx, rfl⟩ := Option.map_eq_some_iff.mp hd
    obtain ⟨e1, h1, h2⟩ := he x (List.mem_of_getElem? hx)
    have ht : xs.take (j + 1) = xs.take j ++ [x] := by rw [List.take_add_one, hx]; rfl
    refine ⟨e1, h1, w_mono (h2 _) ?_⟩
    rintro c s2 ⟨rfl, rfl, h3⟩
    refine ⟨fun hc => w_mono (h3 hc) ?_, fun hc => ⟨s', rfl, ?_, rfl⟩⟩
    · rintro d s3 ⟨rfl, rfl⟩
      refine ⟨s', rfl, ?_, rfl⟩
      rw [ht, List.filter_append, List.map_append]
      simp [hc]
    · rw [ht, List.filter_append]
      simp [hc]
  · rintro acc s' ⟨rfl, rfl⟩
    have ht : xs.take it.items.length = xs := by rw [hlen, List.take_length]
    simp only [ht]
    refine ⟨?_, popB_refl _, q⟩
    rw [plL_iff]
    intro d hd
    obtain ⟨x, hx, rfl⟩ := List.mem_map.mp hd
    exact hp x (List.mem_filter.mp hx).1
theorem w_compHA {α : Type} {fi : EM IterD} {vs : List Nat} {t : Tgt} {fe : EM D} {env : En} {st : Sto} {Q : D → Sto → Prop} (xs : List α) (enc : α → D) (g : α → D) (hi : wp (fi env st) fun it s => it.items = xs.map enc ∧ (∀ xt, lockB it.lock (s ++ xt) = true) ∧ s = st) (hl : xs.length < 1000000)
    (he : ∀ x ∈ xs, ∃ e1, tgtD t (enc x) (wipeE env vs) = some e1 ∧ ∀ acc, wp (fe e1 (st ++ [.lst acc])) fun d s3 => d = g x ∧ s3 = st ++ [.lst acc])
    (hp : ∀ x ∈ xs, pl (g x) = true) (q : Q (.lst (xs.map g)) st) : wx X (mComp false fi vs t mYes fe env st) Q := by
  refine w_compH xs enc (fun _ => true) g hi hl (fun x hx => ?_) hp (by rw [List.filter_eq_self.mpr (fun _ _ => rfl)]; exact q)
  obtain ⟨e1, h1, h2⟩ := he x hx
  exact ⟨e1, h1, fun acc => ⟨rfl, rfl, fun _ => h2 acc⟩⟩
theorem ll_seq {k : Nat} {s : Sto} {d : D} {l : List D} {fa : EM D} {env : En} (h : LL k s d l) (hf : ∀ {Q : D → Sto → Prop}, Q d s → wp (fa env s) Q) : wp (iSeq fa env s) fun it s' => it.items = l ∧ (∀ xt, lockB it.lock (s' ++ xt) = true) ∧ s' = s := by
  obtain ⟨it, h1, h2, h3⟩ := ll_iter h
  exact w_iSeq (hf ⟨it, h1, h2, h3, rfl⟩)
section
variable {k nd n : Nat} {s : Sto} {Q : D → Sto → Prop} {N : Net} {w : Wd}
theorem w_start (hN : NetOk N) (hA : NA k N nd s) (q : Q (encL (w0 N)) s) : wx X (m__law_start [.ref nd] s) Q := by
  have h5 := hN.p5
  have h8 := hN.c8
  unfold m__law_start
  refine w_run ?_
  show wo (mb__law_start [some (.ref nd), none, none] s) _ _ _ _
  unfold mb__law_start
  obtain ⟨_, dp, dc, dr, e1, e2, e3, e4⟩ := hA
  refine o_ret (w_tup (w_cons ?_))
  refine w_compHA N.ps encP (fun _ => .int 0) (ll_seq e2 fun q => w_getK rfl e1 nk_p q) (by omega) (fun x _ => ⟨_, rfl, fun acc => w_c ⟨rfl, rfl⟩⟩) (fun _ _ => rfl) ?_
  refine w_cons ?_
  refine w_compHA N.cs encC (fun _ => .int 0) (ll_seq e3 fun q => w_getK rfl e1 nk_c q) (by omega) (fun x _ => ⟨_, rfl, fun acc => w_c ⟨rfl, rfl⟩⟩) (fun _ _ => rfl) ?_
  refine w_cons ?_
  refine w_compHA N.cs encC (fun _ => .lst []) (ll_seq e3 fun q => w_getK rfl e1 nk_c q) (by omega) (fun x _ => ⟨_, rfl, fun acc => w_lstF (w_nil ⟨Nat.zero_le _, rfl, rfl⟩)⟩) (fun _ _ => rfl) ?_
  refine w_nil ⟨Nat.le_of_ble_eq_true rfl, ?_⟩
  have e : ∀ {α : Type} (l : List α) (x : D), l.map (fun _ => x) = List.replicate l.length x := fun l x => List.map_const' ..
  have ew : (.tup [.lst (N.ps.map fun _ => .int 0), .lst (N.cs.map fun _ => .int 0), .lst (N.cs.map fun _ => .lst [])] : D) = encL (w0 N) := by
    unfold encL w0 encN mk
    rw [e, e, e]
    simp [encI, encRowL, mk]
  rw [ew]
  exact fin_same (pl_L _) q
theorem w_told (hN : NetOk N) (h : WdOk N n w) (hn : n < 10000) (q : Q (encW true w) s) : wx X (m__law_told [encL w] s) Q := by
  have h8 := hN.c8
  have h3 := h.pr
  unfold m__law_told
  refine w_run ?_
  show wo (mb__law_told [some (encL w), none] s) _ _ _ _
  unfold mb__law_told
  refine o_ret (w_tup (w_cons (w_m1 (w_bin (w_var rfl (w_c (w_ixT (at0 _ _) (m_tup ?_))))))))
  refine w_cons (w_m1 (w_bin (w_var rfl (w_c (w_ixT (at1 _ _ _) (m_tup ?_))))))
  refine w_cons (w_m1 ?_)
  refine w_compA w.pr encRowL (encRow true) (w_iSeq (w_bin (w_var rfl (w_c (w_ixT (at2 _ _ _ _) ⟨_, m_iter, rfl, rfl⟩))))) (by omega) ?_ (fun m _ => pl_Row true m) ?_
  · intro r _
    exact ⟨_, rfl, fun s' => w_m1 (w_var rfl (m_tup ⟨rfl, rfl⟩))⟩
  · refine w_tupL (w_nil ⟨Nat.le_of_ble_eq_true rfl, ?_⟩)
    exact fin_same (pl_W true w) q
theorem w_first' {c : Nat} (hN : NetOk N) (hA : NA k N nd s) (h : WdOk N n w) (hc : c < N.cs.length) (q : Q (.lst ((opn N w c).map (encM true))) s) : wx X (m__law_first [.ref nd, encL w, .int c] s) Q := by
  obtain ⟨ch, hch, hk⟩ := ch_at hc
  have hrow := row_at (w := w) (c := c) (by rw [h.pr]; exact hc)
  have e1 : ∀ l : List D, cutD l none (some 1) = l.take 1 := fun l => cut_to l (k := 1)
  unfold m__law_first
  refine w_run ?_
  show wo (mb__law_first [some (.ref nd), some (encL w), some (.int c)] s) _ _ _ _
  unfold mb__law_first
  obtain ⟨_, dp, dc, dr, g1, g2, g3, g4⟩ := hA
  refine o_seq (o_if (w_T (w_bin (w_slice (w_bin (w_bin (w_getK rfl g1 nk_c (w_var rfl (ll_ix g3 (at_enc hch) (w_c (w_ixT (at3 _ _ _ _ _) (w_noP (w_part (w_c ⟨5, rfl, ?_⟩))))))))))))))
  refine w_lift (d := .str (if ord ch.kind = true then "order" else "loose")) (s := s) ?_ (w_c (w_eqS ⟨_, rfl, fun ho => ?_, fun ho => o_nil ?_⟩))
  · rw [← cut5]
    unfold oSl
    simp only
    rw [show kinds[ch.kind]?.getD "order" = kindOf ch.kind from rfl, if_pos (kind_len _)]
  · have ho : ord ch.kind = true := by
      cases e : ord ch.kind with
      | true => rfl
      | false =>
        rw [e] at ho
        exact absurd ho (by decide)
    refine o_ret (w_slice (w_bin (w_bin (w_var rfl (w_c (w_ixT (at2 _ _ _ _) (w_var rfl (m_ix (at_enc hrow) (w_noP (w_part (w_c ⟨1, rfl, m_sl ?_⟩)))))))))))
    rw [e1, ← List.map_take]
    unfold opn at q
    rw [hk, if_pos ho] at q
    exact fin_same (pl_mk (plL_map (pl_M1 true) _)) q
  · have ho : ¬ ord ch.kind = true := by
      intro e
      rw [e] at ho
      exact absurd ho (by decide)
    refine o_ret (w_bin (w_bin (w_var rfl (w_c (w_ixT (at2 _ _ _ _) (w_var rfl (m_ix (at_enc hrow) ?_)))))))
    unfold opn at q
    rw [hk, if_neg ho] at q
    exact fin_same (pl_RowL _) q
/-- where the list stands -/
def Fnd (s : Sto) (l : List Deed) (v : Option D) (s' : Sto) : Prop := ∃ k ext, v = some (.ref k) ∧ s' = s ++ ext ∧ s.length ≤ k ∧ (s ++ ext)[k]? = some (.lst (l.map encD))
theorem Fnd.app {l : List Deed} {k : Nat} {ext : Sto} {d : Deed} (h1 : s.length ≤ k) (h2 : (s ++ ext)[k]? = some (.lst (l.map encD))) : Fnd s (l ++ [d]) (some (.ref k)) ((s ++ ext).set k (.lst (l.map encD ++ [encD d]))) := by
  have hk := (List.getElem?_eq_some_iff.mp h2).1
  refine ⟨k, _, rfl, List.set_append_right k _ h1, h1, ?_⟩
  rw [← List.set_append_right k _ h1, List.getElem?_set_self hk, List.map_append]
  rfl
theorem Fnd.more {l m : List Deed} {ext : Sto} : Fnd s (l ++ m) (some (.ref (s ++ ext).length)) ((s ++ ext) ++ [.lst (l.map encD ++ m.map encD)]) := by
  refine ⟨(s ++ ext).length, ext ++ [.lst (l.map encD ++ m.map encD)], rfl, by rw [List.append_assoc], by rw [List.length_append]; omega, ?_⟩
  rw [← List.append_assoc, List.map_append]
  simp
theorem Fnd.sub {l m : List Deed} {k : Nat} {ext : Sto} (h1 : s.length ≤ k) (h2 : (s ++ ext)[k]? = some (.lst (l.map encD))) (e : m = l) : Fnd s m (some (.ref k)) (s ++ ext) := by
  subst e
  exact ⟨k, ext, rfl, rfl, h1, h2⟩
theorem w_lpossible (hN : NetOk N) (hA : NA k N nd s) (h : WdOk N n w) (hn : n < 10000) (q : Q (.lst ((poss N w).map encD)) s) : wx X (m__law_possible [.ref nd, encL w] s) Q := by
  have hr40 := hN.r40
  have hc8 := hN.c8
  have hA0 := hA
  obtain ⟨hndk, dp, dc, dr, g1, g2, g3, g4⟩ := hA0
  have hA' : ∀ ext, NA k N nd (s ++ ext) := fun ext => hA.ext ext
  have nR : ∀ {env : En} {ext : Sto} {Q : D → Sto → Prop}, env[0]? = some (some (.ref nd)) → (∀ d, LL k (s ++ ext) d (N.rs.map encR) → Q d (s ++ ext)) → wp (mGet (mVar 0) (mC (.str ("rules" : Str))) env (s ++ ext)) Q := fun h0 q => w_nR (hA.ext _) h0 q
  have nC : ∀ {env : En} {ext : Sto} {Q : D → Sto → Prop}, env[0]? = some (some (.ref nd)) → (∀ d, LL k (s ++ ext) d (N.cs.map encC) → Q d (s ++ ext)) → wp (mGet (mVar 0) (mC (.str ("channels" : Str))) env (s ++ ext)) Q := fun h0 q => w_nC (hA.ext _) h0 q
  unfold m__law_possible
  refine w_run ?_
  show wo (mb__law_possible [some (.ref nd), some (encL w), none, none, none, none, none, none, none, none] s) _ _ _ _
  unfold mb__law_possible
  refine o_seq (o_set (w_lstT (w_nil ⟨Nat.zero_le _, ?_⟩)))
  refine o_cut (fun e s' => ∃ v2 v3 v4 v5 v6 v7 v8 v9, e = [some (.ref nd), some (encL w), v2, v3, v4, v5, v6, v7, v8, v9] ∧ Fnd s (upto (rD N w) N.rs.length) v2 s') ?_ ?_
  · refine o_for (w_iRg1 (w_m1 (nR rfl fun d hd => ll_len hd ⟨_, rfl, by rw [List.length_map]; omega, ?_⟩)))
    refine ⟨fun j e s' => j ≤ N.rs.length ∧ ∃ v2 v3 v4 v5 v6 v7 v8 v9, e = [some (.ref nd), some (encL w), v2, v3, v4, v5, v6, v7, v8, v9] ∧ Fnd s (upto (rD N w) j) v2 s', ⟨Nat.zero_le _, _, none, none, none, none, none, none, none, rfl, s.length, [.lst []], rfl, rfl, Nat.le_refl _, by simp [upto]⟩, fun _ _ _ _ => rfl, ?_, ?_⟩
    · rintro j x hx e s' ⟨hj, v2, v3, v4, v5, v6, v7, v8, v9, rfl, kk, ext, rfl, rfl, hk1, hk2⟩
      rw [List.length_map] at hx
      have hjl : j < N.rs.length := by
        have := (List.getElem?_eq_some_iff.mp hx).1
        simpa [rngD] using this
      have hxx : x = .int j := by
        simp [rngD, hjl] at hx
        exact hx.symm
      subst hxx
      obtain ⟨ru, hru⟩ : ∃ ru, N.rs[j]? = some ru := ⟨N.rs[j], by simp [hjl]⟩
      obtain ⟨hpl, hcs⟩ := ru_ok hN hru
      obtain ⟨x0, hx0⟩ : ∃ x0, w.st[ru.p]? = some x0 := ⟨w.st[ru.p]'(by rw [h.st]; exact hpl), by simp⟩
      have hlen := upto_len (rD_len h) j
      have hlen2 : j * (n + 1) ≤ 40 * 10001 := Nat.mul_le_mul (by omega) (by omega)
      refine ⟨_, _, rfl, ?_⟩
      refine o_seq (o_asg (w_bin (nR rfl fun d hd => w_var rfl (ll_ix hd (at_enc hru) ⟨_, _, rfl, ?_⟩))))
      refine o_if (w_AndT (w_T (w_bin (w_bin (w_bin (w_var rfl (w_c (w_ixT (at0 _ _) (w_var rfl (m_ix (at_enc hx0) (w_var rfl (w_eqN ⟨_, rfl, ?_, ?_⟩))))))))))))
      · intro he
        have he : x0 = ru.s := by simpa using he
        refine w_T (w_bin (w_bin (w_var rfl (w_c (w_first fun z hz => ?_)))))
        refine w_c (w_neS ⟨_, rfl, ?_, ?_⟩)
        · intro ht
          have ht : ¬ z = "take" := by simpa using ht
          refine o_expr (w_meth (w_var rfl ⟨tyM_ref hk2, ?_⟩))
          repeat (first | (with_reducible apply w_bin) | (with_reducible apply w_m1) | (with_reducible apply w_un) | (with_reducible apply w_cons) | (with_reducible apply w_nil) | (with_reducible apply w_callN) | ((with_reducible apply w_var); exact rfl) | (with_reducible apply w_c) | (with_reducible apply w_T) | (with_reducible apply w_NotT) | (with_reducible apply w_AndT) | (with_reducible apply w_OrT) | (with_reducible apply w_And) | (with_reducible apply w_Or) | (with_reducible apply w_Not) | (with_reducible apply w_If) | (with_reducible apply w_tup) | (with_reducible apply w_lstF) | (with_reducible apply w_noP) | (with_reducible apply w_part) | (with_reducible apply w_slice) | (with_reducible apply w_isN) | (with_reducible apply w_add) | (with_reducible apply w_sub) | (with_reducible apply w_gt) | (with_reducible apply w_lt) | (with_reducible apply w_ge) | (with_reducible apply w_le) | (with_reducible apply w_eqI) | (with_reducible apply w_neI) | (with_reducible apply w_eqS) | (with_reducible apply w_neS) | ((with_reducible apply x_ixT); exact rfl; exact rfl) | ((with_reducible apply x_ixL); exact rfl; exact rfl) | ((with_reducible apply x_lenT); exact rfl) | ((with_reducible apply x_lenL); exact rfl) | (with_reducible apply w_intI) | (with_reducible apply w_intB) | (with_reducible apply w_tupT) | (with_reducible apply w_tupL) | (with_reducible apply w_slT) | (with_reducible apply w_slL) | (with_reducible apply w_iSeq) | (with_reducible apply w_iRg1) | (with_reducible apply ex_bl) | (with_reducible apply ex_int) | (with_reducible apply ex_neg) | (with_reducible refine And.intro (Nat.le_of_ble_eq_true rfl) ?_) | (with_reducible refine And.intro (rfl : List.length _ = _) ?_))
          refine w_app hk2 (lim_lt (by rw [List.length_map]; omega)) ?_
          refine ⟨hjl, _, _, _, _, _, _, _, _, rfl, ?_⟩
          have : rD N w j = [.act j] := by
            unfold rD ruD
            rw [hru]
            simp only
            rw [if_pos (by rw [hx0, he])]
            split
            · rename_i c t ea
              rw [ea] at hz
              exact absurd (hz.mpr rfl) ht
            · rfl
          rw [upto_succ, this]
          exact Fnd.app hk1 hk2
        · intro ht
          have ht : z = "take" := by simpa using ht
          have hz := hz.mp ht
          cases ea : ru.a with
          | go => rw [ea] at hz; cases hz
          | send c t => rw [ea] at hz; cases hz
          | take c t =>
            have hcl := hcs c t (.inr ea)
            have hol := opn_le h c
            have hfl := List.length_filter_le (fun m : Nat × Nat => decide (m.2 = t)) (opn N w c)
            refine o_if (w_T (w_bin (w_bin (w_bin (w_var rfl (w_c (w_ixT (at0 _ _) (w_var rfl (m_ix (at_enc hx0) (w_var rfl (w_eqN ⟨_, rfl, fun _ => ?_, fun h => ?_⟩)))))))))))
            · refine o_set (w_bin (w_var rfl ?_))
              refine w_compF (opn N w c) (encM true) (fun m => decide (m.2 = t)) (fun m => encD (.take j m.1)) ?_ (by omega) ?_ (fun m _ => pl_D _) ?_
              · refine w_iSeq (w_callN (w_cons (w_var rfl (w_cons (w_var rfl (w_cons (w_bin (w_var rfl (w_c ?_)))))))))
                refine w_ixT (at1 _ _ _) (w_nil ⟨rfl, ?_⟩)
                exact w_first' hN (hA' _) h hcl ⟨_, rfl, rfl, rfl⟩
              · rintro ⟨k1, tk⟩ _
                refine ⟨_, rfl, fun s' => ?_⟩
                refine w_T (w_bin (w_bin (w_var rfl (w_c (m_ix (at1 _ _ _) (w_bin (w_var rfl (w_c ?_))))))))
                refine w_ixT (at2 _ _ _ _) (w_eqN ⟨_, rfl, rfl, rfl, fun _ => ?_⟩)
                repeat (first | (with_reducible apply w_bin) | (with_reducible apply w_m1) | (with_reducible apply w_un) | (with_reducible apply w_cons) | (with_reducible apply w_nil) | (with_reducible apply w_callN) | ((with_reducible apply w_var); exact rfl) | (with_reducible apply w_c) | (with_reducible apply w_T) | (with_reducible apply w_NotT) | (with_reducible apply w_AndT) | (with_reducible apply w_OrT) | (with_reducible apply w_And) | (with_reducible apply w_Or) | (with_reducible apply w_Not) | (with_reducible apply w_If) | (with_reducible apply w_tup) | (with_reducible apply w_lstF) | (with_reducible apply w_noP) | (with_reducible apply w_part) | (with_reducible apply w_slice) | (with_reducible apply w_isN) | (with_reducible apply w_add) | (with_reducible apply w_sub) | (with_reducible apply w_gt) | (with_reducible apply w_lt) | (with_reducible apply w_ge) | (with_reducible apply w_le) | (with_reducible apply w_eqI) | (with_reducible apply w_neI) | (with_reducible apply w_eqS) | (with_reducible apply w_neS) | ((with_reducible apply x_ixT); exact rfl; exact rfl) | ((with_reducible apply x_ixL); exact rfl; exact rfl) | ((with_reducible apply x_lenT); exact rfl) | ((with_reducible apply x_lenL); exact rfl) | (with_reducible apply w_intI) | (with_reducible apply w_intB) | (with_reducible apply w_tupT) | (with_reducible apply w_tupL) | (with_reducible apply w_slT) | (with_reducible apply w_slL) | (with_reducible apply w_iSeq) | (with_reducible apply w_iRg1) | (with_reducible apply ex_bl) | (with_reducible apply ex_int) | (with_reducible apply ex_neg) | (with_reducible refine And.intro (Nat.le_of_ble_eq_true rfl) ?_) | (with_reducible refine And.intro (rfl : List.length _ = _) ?_))
                exact ⟨rfl, rfl⟩
              · refine w_addR hk2 (lim_of (by simp only [List.length_map]; omega)) ?_
                refine ⟨hjl, _, _, _, _, _, _, _, _, rfl, ?_⟩
                have : rD N w j = ((opn N w c).filter fun m => decide (m.2 = t)).map fun m => Deed.take j m.1 := by
                  unfold rD ruD
                  rw [hru]
                  simp only
                  rw [if_pos (by rw [hx0, he]), ea]
                rw [upto_succ, this]
                have := Fnd.more (s := s) (ext := ext) (l := upto (rD N w) j) (m := ((opn N w c).filter fun m => decide (m.2 = t)).map fun m => Deed.take j m.1)
                rw [List.map_map] at this
                exact this
            · simp at h
              exact absurd he h
      · intro he
        have he : ¬ x0 = ru.s := by simpa using he
        refine ⟨fun h => (by cases h), fun _ => ?_⟩
        refine o_if (w_T (w_bin (w_bin (w_bin (w_var rfl (w_c (w_ixT (at0 _ _) (w_var rfl (m_ix (at_enc hx0) (w_var rfl (w_eqN ⟨_, rfl, fun h => ?_, fun _ => o_nil ?_⟩)))))))))))
        · simp at h
          exact absurd h he
        refine ⟨hjl, _, _, _, _, _, _, _, _, rfl, ?_⟩
        have : rD N w j = [] := by
          unfold rD ruD
          rw [hru]
          simp only
          rw [if_neg (by rw [hx0]; simpa using he)]
        rw [upto_succ, this, List.append_nil]
        exact Fnd.sub hk1 hk2 rfl
    · rintro e s' ⟨_, v2, v3, v4, v5, v6, v7, v8, v9, rfl, hf⟩
      refine ⟨v2, v3, v4, v5, v6, v7, v8, v9, rfl, ?_⟩
      simpa [rngD] using hf
  rintro e s' ⟨v2, v3, v4, v5, v6, v7, v8, v9, rfl, hf⟩
  refine o_cut (fun e s' => ∃ v2 v3 v4 v5 v6 v7 v8 v9, e = [some (.ref nd), some (encL w), v2, v3, v4, v5, v6, v7, v8, v9] ∧ Fnd s (poss N w) v2 s') ?_ ?_
  · obtain ⟨kk, ext, rfl, rfl, hk1, hk2⟩ := hf
    refine o_for (w_iRg1 (w_m1 (nC rfl fun d hd => ll_len hd ⟨_, rfl, by rw [List.length_map]; omega, ?_⟩)))
    refine ⟨fun j e s' => j ≤ N.cs.length ∧ ∃ v2 v3 v4 v5 v6 v7 v8 v9, e = [some (.ref nd), some (encL w), v2, v3, v4, v5, v6, v7, v8, v9] ∧ Fnd s (upto (rD N w) N.rs.length ++ upto (lD N w) j) v2 s', ⟨Nat.zero_le _, _, v3, v4, v5, v6, v7, v8, v9, rfl, kk, ext, rfl, rfl, hk1, by simpa [upto] using hk2⟩, fun _ _ _ _ => rfl, ?_, ?_⟩
    · clear hk1 hk2
      rintro j x hx e s' ⟨hj, v2, v3, v4, v5, v6, v7, v8, v9, rfl, kk, ext, rfl, rfl, hk1, hk2⟩
      rw [List.length_map] at hx
      have hjl : j < N.cs.length := by
        have := (List.getElem?_eq_some_iff.mp hx).1
        simpa [rngD] using this
      have hxx : x = .int j := by
        simp [rngD, hjl] at hx
        exact hx.symm
      subst hxx
      obtain ⟨ch, hch, hck⟩ := ch_at hjl
      have hlen := upto_len (rD_len h) N.rs.length
      have hlen2 : N.rs.length * (n + 1) ≤ 40 * 10001 := Nat.mul_le_mul (by omega) (by omega)
      have hlen3 := upto_len (lD_len h) j
      have hlen4 : j * (n + 1) ≤ 8 * 10001 := Nat.mul_le_mul (by omega) (by omega)
      have hol := opn_le h j
      refine ⟨_, _, rfl, ?_⟩
      refine o_if (w_T (w_bin (w_slice (w_bin (w_bin (nC rfl fun d hd => w_var rfl (ll_ix hd (at_enc hch) (w_c (w_ixT (at3 _ _ _ _ _) (w_part (w_un (w_c (ex_neg ⟨_, rfl, w_noP ?_⟩)))))))))))))
      refine w_lift (d := .str (L2.cutS (kindOf ch.kind) (some (-5)) none)) (s := s ++ ext) ?_ (w_c (w_eqS ⟨_, rfl, fun hl => ?_, fun hl => o_nil ?_⟩))
      · unfold oSl
        simp only
        rw [show kinds[ch.kind]?.getD "order" = kindOf ch.kind from rfl, if_pos (kind_len _)]
      · rw [cutm5] at hl
        have hld : lD N w j = (opn N w j).map fun m => Deed.lose j m.1 := by
          unfold lD
          rw [hck, if_pos hl]
        refine o_set (w_bin (w_var rfl ?_))
        refine w_compA (opn N w j) (encM true) (fun m => encD (.lose j m.1)) ?_ (by omega) ?_ (fun m _ => pl_D _) ?_
        · refine w_iSeq (w_callN (w_cons (w_var rfl (w_cons (w_var rfl (w_cons (w_var rfl (w_nil ⟨rfl, ?_⟩))))))))
          exact w_first' hN (hA' _) h hjl ⟨_, rfl, rfl, rfl⟩
        · rintro ⟨k1, tk⟩ _
          refine ⟨_, rfl, fun s' => ?_⟩
          repeat (first | (with_reducible apply w_bin) | (with_reducible apply w_m1) | (with_reducible apply w_un) | (with_reducible apply w_cons) | (with_reducible apply w_nil) | (with_reducible apply w_callN) | ((with_reducible apply w_var); exact rfl) | (with_reducible apply w_c) | (with_reducible apply w_T) | (with_reducible apply w_NotT) | (with_reducible apply w_AndT) | (with_reducible apply w_OrT) | (with_reducible apply w_And) | (with_reducible apply w_Or) | (with_reducible apply w_Not) | (with_reducible apply w_If) | (with_reducible apply w_tup) | (with_reducible apply w_lstF) | (with_reducible apply w_noP) | (with_reducible apply w_part) | (with_reducible apply w_slice) | (with_reducible apply w_isN) | (with_reducible apply w_add) | (with_reducible apply w_sub) | (with_reducible apply w_gt) | (with_reducible apply w_lt) | (with_reducible apply w_ge) | (with_reducible apply w_le) | (with_reducible apply w_eqI) | (with_reducible apply w_neI) | (with_reducible apply w_eqS) | (with_reducible apply w_neS) | ((with_reducible apply x_ixT); exact rfl; exact rfl) | ((with_reducible apply x_ixL); exact rfl; exact rfl) | ((with_reducible apply x_lenT); exact rfl) | ((with_reducible apply x_lenL); exact rfl) | (with_reducible apply w_intI) | (with_reducible apply w_intB) | (with_reducible apply w_tupT) | (with_reducible apply w_tupL) | (with_reducible apply w_slT) | (with_reducible apply w_slL) | (with_reducible apply w_iSeq) | (with_reducible apply w_iRg1) | (with_reducible apply ex_bl) | (with_reducible apply ex_int) | (with_reducible apply ex_neg) | (with_reducible refine And.intro (Nat.le_of_ble_eq_true rfl) ?_) | (with_reducible refine And.intro (rfl : List.length _ = _) ?_))
          exact ⟨rfl, rfl⟩
        · refine w_addR hk2 (lim_of (by simp only [List.length_map, List.length_append]; omega)) ?_
          refine ⟨hjl, _, _, _, _, _, _, _, _, rfl, ?_⟩
          rw [upto_succ, hld, ← List.append_assoc]
          have := Fnd.more (s := s) (ext := ext) (l := upto (rD N w) N.rs.length ++ upto (lD N w) j) (m := (opn N w j).map fun m => Deed.lose j m.1)
          rw [List.map_map] at this
          exact this
      · rw [cutm5] at hl
        have hld : lD N w j = [] := by
          unfold lD
          rw [hck, if_neg (by rw [hl]; simp)]
        refine ⟨hjl, _, _, _, _, _, _, _, _, rfl, Fnd.sub hk1 hk2 ?_⟩
        rw [upto_succ, hld, List.append_nil]
    · rintro e s' ⟨_, v2, v3, v4, v5, v6, v7, v8, v9, rfl, hf⟩
      refine ⟨v2, v3, v4, v5, v6, v7, v8, v9, rfl, ?_⟩
      simpa [rngD, poss] using hf
  rintro e s' ⟨v2, v3, v4, v5, v6, v7, v8, v9, rfl, kk, ext, rfl, rfl, hk1, hk2⟩
  refine o_ret (w_var rfl ?_)
  have hp := plL_map pl_D (poss N w)
  refine ⟨.lst ((poss N w).map encD), ?_, popB_app s ext, by rw [take_app]; exact q⟩
  have e : ¬ kk < s.length := by omega
  unfold frz frzG
  simp only [e, if_false, hk2]
  rw [frzL_pl _ _ hp]
end
end K

namespace K
open PySem Cw
variable {X : Nat → D → Sto → Prop}
theorem ixN_nat {n i : Nat} (h : i < n) : L2.ixN n (i : Int) = some i := by
  unfold L2.ixN
  rw [if_pos (by omega), if_pos (by omega), Int.toNat_natCast]
theorem g_setR {fo fi : EM D} {env : En} {st : Sto} {k i : Nat} {ds : List D} {v : D} (h1 : fo env st = .ok (.ref k) st) (h2 : fi env st = .ok (.int i) st) (h3 : st[k]? = some (.lst ds)) (h4 : i < ds.length) : gSet fo fi v env st = some (env, st.set k (.lst (ds.set i v))) := by
  unfold gSet
  rw [h1]
  simp only [h2, h3, ixN_nat h4]
theorem at_last {α : Type} (l : List α) (x : α) : L2.atI (l ++ [x]) (-1) = some x := by
  unfold L2.atI L2.ixN
  have h1 : ¬ (0 : Int) ≤ -1 := by decide
  rw [if_neg h1]
  have h2 : -(((l ++ [x]).length : Nat) : Int) ≤ -1 := by
    rw [List.length_append]
    simp
    omega
  rw [if_pos h2]
  have h3 : (-1 + (((l ++ [x]).length : Nat) : Int)).toNat = l.length := by
    rw [List.length_append]
    simp
    omega
  simp only [h3, Option.bind_some]
  simp
/-- a comprehension, its list a live cell -/
theorem w_compT {α : Type} {fi : EM IterD} {vs : List Nat} {t : Tgt} {fe : EM D} {env : En} {st : Sto} {Q : D → Sto → Prop} (xs : List α) (enc : α → D) (g : α → D) (hi : wp (fi env st) fun it s => it = ⟨xs.map enc, []⟩ ∧ s = st) (hl : xs.length < 1000000)
    (he : ∀ x ∈ xs, ∃ e1, tgtD t (enc x) (wipeE env vs) = some e1 ∧ ∀ s', wp (fe e1 s') fun d s3 => d = g x ∧ s3 = s') (q : Q (.ref st.length) (st ++ [.lst (xs.map g)])) : wx X (mComp true fi vs t mYes fe env st) Q := by
  unfold mComp
  refine w_bind (w_mono (wx_wp hi) ?_)
  rintro it s ⟨rfl, rfl⟩
  unfold popR
  rw [if_pos rfl]
  have := comp_pure (lock := []) (vs := vs) (t := t) (ft := mYes) (fe := fe) (env := env) (st := s) (fun _ => true) (fun d => match xs.find? (fun x => dbeq (enc x) d) with
    | some x => g x
    | none => .non) (fun _ => rfl)
  have go : ∀ (ys : List α) (acc : List D), acc.length + ys.length < 1000000 → (∀ y ∈ ys, y ∈ xs) → compL [] vs t mYes fe env s.length (ys.map enc) (s ++ [.lst acc]) = .ok (.ref s.length) (s ++ [.lst (acc ++ ys.map g)]) := by
    intro ys
    induction ys with
    | nil =>
      intro acc _ _
      unfold compL
      simp [lockB]
    | cons y ys ih =>
      intro acc hn hm
      obtain ⟨e1, h1, h2⟩ := he y (hm y (List.mem_cons_self ..))
      obtain ⟨d, s3, h3, rfl, rfl⟩ := w_out (h2 (s ++ [.lst acc]))
      rw [List.length_cons] at hn
      rw [List.map_cons]
      unfold compL
      have hg : (s ++ [Cell.lst acc])[s.length]? = some (.lst acc) := by simp
      have hs : (s ++ [Cell.lst acc]).set s.length (.lst (acc ++ [g y])) = s ++ [.lst (acc ++ [g y])] := by simp
      have hlim : acc.length < LIM := by
        show _ < 16777216
        omega
      simp only [lock0, if_true, h1, mYes, h3, hg, hlim, hs]
      rw [ih (acc ++ [g y]) (by rw [List.length_append, List.length_singleton]; omega) fun z hz => hm z (List.mem_cons_of_mem _ hz)]
      simp
  rw [go xs [] (by simpa using hl) (fun y hy => hy)]
  show Q _ _
  simpa using q
theorem w_lstR {ds : List D} {st : Sto} {Q : D → Sto → Prop} (q : Q (.ref st.length) (st ++ [.lst ds])) : wx X (lift (oList true (.lst ds) st)) Q := q
theorem frz_ref {S : Sto} {n f : Nat} {l : List D} {k : Nat} (hk : n ≤ k) (h : S[k]? = some (.lst l)) (p : plL l = true) : frz S n (f + 1) (.ref k) = some (.lst l) := by
  unfold frz frzG
  have e : ¬ k < n := by omega
  simp only [e, if_false, h]
  rw [frzL_pl _ _ p]
theorem frz_on {S : Sto} {n f : Nat} {d : D} : frz S n (f + 1) d = frzG (fun k => frz S n (f + 1) (.ref k)) d := rfl
theorem fin_3 {s : Sto} {a b c : List D} {Q : D → Sto → Prop} (ha : plL a = true) (hb : plL b = true) (hc : plL c = true) (q : Q (.tup [.lst a, .lst b, .lst c]) s) : fin s Q (.tup [.ref s.length, .ref (s.length + 1), .ref (s.length + 2)]) (s ++ [.lst a, .lst b, .lst c]) := by
  refine ⟨.tup [.lst a, .lst b, .lst c], ?_, popB_app s _, by rw [take_app]; exact q⟩
  have o1 : frz (s ++ [Cell.lst a, .lst b, .lst c]) s.length 5 (.ref s.length) = some (.lst a) := frz_ref (f := 4) (by omega) (by simp) ha
  have o2 : frz (s ++ [Cell.lst a, .lst b, .lst c]) s.length 5 (.ref (s.length + 1)) = some (.lst b) := frz_ref (f := 4) (by omega) (by simp) hb
  have o3 : frz (s ++ [Cell.lst a, .lst b, .lst c]) s.length 5 (.ref (s.length + 2)) = some (.lst c) := frz_ref (f := 4) (by omega) (by simp) hc
  rw [frz_on]
  simp only [frzG, frzL, o1, o2, o3]
section
variable {k nd n : Nat} {s : Sto} {Q : D → Sto → Prop} {N : Net} {w : Wd}
theorem w_ldone {d : Deed} (hN : NetOk N) (hA : NA k N nd s) (h : WdOk N n w) (hn : n < 10000) (hd : DeedOk N d) (q : Q (encL (beh N w d)) s) : wx X (m__law_done [.ref nd, encL w, encD d] s) Q := by
  have hc8 := hN.c8
  have hp5 := hN.p5
  have hst := h.st
  have hse := h.se
  have hpr := h.pr
  have nR : ∀ {env : En} {ext : Sto} {Q : D → Sto → Prop}, env[0]? = some (some (.ref nd)) → (∀ d, LL k (s ++ ext) d (N.rs.map encR) → Q d (s ++ ext)) → wp (mGet (mVar 0) (mC (.str ("rules" : Str))) env (s ++ ext)) Q := fun h0 q => w_nR (hA.ext _) h0 q
  have hl : ∀ w : Wd, encL w = .tup [.lst (w.st.map encI), .lst (w.se.map encI), .lst (w.pr.map encRowL)] := fun _ => rfl
  have pI : ∀ l : List Nat, plL (l.map encI) = true := fun l => plL_map (fun _ => rfl) l
  have pR : ∀ l : List (List (Nat × Nat)), plL (l.map encRowL) = true := fun l => plL_map pl_RowL l
  have s1 : ∀ (l : List Nat) (i v : Nat), (l.map encI).set i (.int v) = (l.set i v).map encI := fun l i v => (set_enc (f := encI) (fun _ => rfl) l i v).1
  have s2 : ∀ (l : List (List (Nat × Nat))) (i : Nat) (v : List (Nat × Nat)), (l.map encRowL).set i (encRowL v) = (l.set i v).map encRowL := fun l i v => (set_enc (f := encRowL) pl_RowL l i v).1
  unfold m__law_done
  refine w_run ?_
  show wo (mb__law_done [some (.ref nd), some (encL w), some (encD d), none, none, none, none, none, none, none, none, none] s) _ _ _ _
  unfold mb__law_done
  refine o_seq (o_set (w_m1 (w_bin (w_var rfl (w_c (w_ixT (at0 _ _) (w_lstR ?_)))))))
  refine o_seq (o_set (w_m1 (w_bin (w_var rfl (w_c (w_ixT (at1 _ _ _) (w_lstR ?_)))))))
  refine o_seq (o_set ?_)
  refine w_compT w.pr encRowL encRowL (w_iSeq (w_bin (w_var rfl (w_c (w_ixT (at2 _ _ _ _) ⟨_, m_iter, rfl, rfl⟩))))) (by omega) ?_ ?_
  · intro r _
    exact ⟨_, rfl, fun s' => w_m1 (w_var rfl (m_lst ⟨rfl, rfl⟩))⟩
  have e0 : s ++ [Cell.lst (w.st.map encI)] ++ [Cell.lst (w.se.map encI)] ++ [.lst (w.pr.map encRowL)] = s ++ [.lst (w.st.map encI), .lst (w.se.map encI), .lst (w.pr.map encRowL)] := by simp
  have l1 : (s ++ [Cell.lst (w.st.map encI)]).length = s.length + 1 := by simp
  have l2 : (s ++ [Cell.lst (w.st.map encI)] ++ [Cell.lst (w.se.map encI)]).length = s.length + 2 := by simp
  show wo (sSeq _ _ [some (.ref nd), some (encL w), some (encD d), some (.ref s.length), some (.ref (s ++ [Cell.lst (w.st.map encI)]).length), some (.ref (s ++ [Cell.lst (w.st.map encI)] ++ [Cell.lst (w.se.map encI)]).length), none, none, none, none, none, none] (s ++ [Cell.lst (w.st.map encI)] ++ [Cell.lst (w.se.map encI)] ++ [.lst (w.pr.map encRowL)])) _ _ _ _
  rw [e0, l1, l2]
  have ga : ∀ a b c : List D, (s ++ [Cell.lst a, .lst b, .lst c])[s.length]? = some (.lst a) := fun a b c => by simp
  have gb : ∀ a b c : List D, (s ++ [Cell.lst a, .lst b, .lst c])[s.length + 1]? = some (.lst b) := fun a b c => by simp
  have gc : ∀ a b c : List D, (s ++ [Cell.lst a, .lst b, .lst c])[s.length + 2]? = some (.lst c) := fun a b c => by simp
  have pa : ∀ a b c x : List D, (s ++ [Cell.lst a, .lst b, .lst c]).set s.length (.lst x) = s ++ [.lst x, .lst b, .lst c] := fun a b c x => by simp
  have pb : ∀ a b c x : List D, (s ++ [Cell.lst a, .lst b, .lst c]).set (s.length + 1) (.lst x) = s ++ [.lst a, .lst x, .lst c] := fun a b c x => by simp
  have pc : ∀ a b c x : List D, (s ++ [Cell.lst a, .lst b, .lst c]).set (s.length + 2) (.lst x) = s ++ [.lst a, .lst b, .lst x] := fun a b c x => by simp
  have flt : ∀ (c kk : Nat) (env : En) (st : Sto) (Q : D → Sto → Prop) (fi : EM IterD) (fk : EM D), (rowOf w c).length ≤ n → (wp (fi env st) fun it s' => it = ⟨(rowOf w c).map (encM true), []⟩ ∧ s' = st) → env.length = 12 → (∀ v s', wp (fk ((wipeE env [11]).set 11 v) s') fun d s'' => d = .int kk ∧ s'' = s') →
      Q (encRowL ((rowOf w c).filter fun m => !decide (m.1 = kk))) st → wp (mComp false fi [11] (.nm 11) (mT (mBin (oEq true) (mBin oIx (mVar 11) (mC (.int 0))) fk)) (mVar 11) env st) Q := fun c kk env st Q fi fk hl hi he hk q => by
    refine w_compF (rowOf w c) (encM true) (fun m => !decide (m.1 = kk)) (encM true) hi (by omega) ?_ (fun m _ => pl_M1 true m) q
    rintro ⟨k1, t1⟩ _
    have hv : ∀ x : D, ((wipeE env [11]).set 11 (some x))[11]? = some (some x) := fun x => List.getElem?_set_self (by simp [wipeE, he])
    refine ⟨_, rfl, fun s' => ?_⟩
    refine w_T (w_bin (w_bin (w_var (hv _) (w_c (m_ix (at0 _ _) ?_)))))
    refine w_mono (hk _ s') ?_
    rintro d s'' ⟨rfl, rfl⟩
    refine w_eqN ⟨_, rfl, rfl, rfl, fun _ => ?_⟩
    exact w_var (hv _) ⟨rfl, rfl⟩
  cases d with
  | lose c kk =>
    obtain ⟨hc, hlo⟩ := hd
    have hrow := row_at (w := w) (c := c) (by omega)
    have hrl := row_le h c
    refine o_seq (o_if (w_T (w_bin (w_bin (w_var rfl (w_c (w_ixT (at0 _ _) (w_c (w_eqS ⟨_, rfl, fun _ => ?_, fun h => (by cases h)⟩)))))))))
    refine o_seq (o_asg ?_)
    refine flt c kk _ _ _ _ _ hrl (w_iSeq (w_bin (w_var rfl (w_bin (w_var rfl (w_c (w_ixT (at1 _ _ _) (w_ixR (gc _ _ _) (at_enc hrow) ⟨_, m_iter, rfl, rfl⟩)))))))) rfl (fun v s' => w_bin (w_var rfl (w_c (w_ixT (at2 _ _ _ _) ⟨rfl, rfl⟩)))) ?_
    refine ⟨_, _, g_setR (i := c) rfl rfl (gc _ _ _) (by rw [List.length_map]; omega), ?_⟩
    rw [pc, s2]
    refine o_ret (w_tup (w_cons (w_var rfl (w_cons (w_var rfl (w_cons (w_var rfl (w_nil ⟨Nat.le_of_ble_eq_true rfl, ?_⟩))))))))
    exact fin_3 (pI _) (pI _) (pR _) q
  | act r =>
    obtain ⟨ru, hr, ht⟩ := hd
    obtain ⟨hp, hcs⟩ := ru_ok hN hr
    simp only [beh, hr] at q
    refine o_seq (o_if (w_T (w_bin (w_bin (w_var rfl (w_c (w_ixT (at0 _ _) (w_c (w_eqS ⟨_, rfl, fun h => (by cases h), fun _ => ?_⟩)))))))))
    refine o_nil (o_seq (o_asg (w_bin (nR rfl fun d hd => w_bin (w_var rfl (w_c (w_ixT (at1 _ _ _) (ll_ix hd (at_enc hr) ⟨_, _, rfl, ?_⟩))))))))
    refine o_seq (o_asg (w_var rfl ⟨_, _, g_setR (i := ru.p) rfl rfl (ga _ _ _) (by rw [List.length_map]; omega), ?_⟩))
    rw [pa, s1]
    cases ea : ru.a with
    | take c t => rw [ea] at ht; cases ht
    | go =>
      rw [ea] at q
      simp only at q
      refine o_seq (o_if (w_T (w_bin (w_bin (w_var rfl (w_c (w_ixT (at0 _ _) (w_c (w_eqS ⟨_, rfl, fun h => (by cases h), fun _ => o_nil ?_⟩)))))))))
      refine o_seq (o_if (w_T (w_bin (w_bin (w_var rfl (w_c (w_ixT (at0 _ _) (w_c (w_eqS ⟨_, rfl, fun h => (by cases h), fun _ => o_nil ?_⟩)))))))))
      refine o_ret (w_tup (w_cons (w_var rfl (w_cons (w_var rfl (w_cons (w_var rfl (w_nil ⟨Nat.le_of_ble_eq_true rfl, ?_⟩))))))))
      exact fin_3 (pI _) (pI _) (pR _) q
    | send c t =>
      rw [ea] at q
      simp only at q
      have hc := hcs c t (.inl ea)
      obtain ⟨kk, hk⟩ : ∃ kk, w.se[c]? = some kk := ⟨w.se[c]'(by omega), by simp⟩
      rw [hk] at q
      have hrow := row_at (w := w) (c := c) (by omega)
      have hrl := row_le h c
      refine o_seq (o_if (w_T (w_bin (w_bin (w_var rfl (w_c (w_ixT (at0 _ _) (w_c (w_eqS ⟨_, rfl, fun _ => ?_, fun h => (by cases h)⟩)))))))))
      refine o_seq (o_asg (w_bin (w_bin (w_var rfl (w_bin (w_var rfl (w_c (w_ixT (at1 _ _ _) (w_ixR (gc _ _ _) (at_enc hrow) ?_)))))))))
      refine w_lstF (w_cons (w_tup (w_cons (w_bin (w_var rfl (w_bin (w_var rfl (w_c (w_ixT (at1 _ _ _) (w_ixR (gb _ _ _) (at_enc hk) (w_cons (w_bin (w_var rfl (w_c (w_ixT (at2 _ _ _ _) (w_nil ⟨Nat.le_of_ble_eq_true rfl, w_nil ⟨Nat.le_of_ble_eq_true rfl, ?_⟩⟩))))))))))))))))
      refine w_addL (lim_of (by rw [List.length_map]; simp; omega)) ?_
      have er : (.lst ((rowOf w c).map (encM true) ++ [D.tup [encI kk, .int t]]) : D) = encRowL (rowOf w c ++ [(kk, t)]) := by
        unfold encRowL mk
        rw [List.map_append]
        rfl
      rw [er]
      refine ⟨_, _, g_setR (i := c) rfl rfl (gc _ _ _) (by rw [List.length_map]; omega), ?_⟩
      rw [pc, s2]
      refine o_asg (w_bin (w_bin (w_var rfl (w_bin (w_var rfl (w_c (w_ixT (at1 _ _ _) (w_ixR (gb _ _ _) (at_enc hk) (w_c (w_add ?_))))))))))
      refine ⟨_, _, g_setR (i := c) rfl rfl (gb _ _ _) (by rw [List.length_map]; omega), ?_⟩
      have ev : (.int ((kk : Int) + 1) : D) = .int ((kk + 1 : Nat) : Int) := rfl
      rw [pb, ev, s1]
      refine o_seq (o_if (w_T (w_bin (w_bin (w_var rfl (w_c (w_ixT (at0 _ _) (w_c (w_eqS ⟨_, rfl, fun h => (by cases h), fun _ => o_nil ?_⟩)))))))))
      refine o_ret (w_tup (w_cons (w_var rfl (w_cons (w_var rfl (w_cons (w_var rfl (w_nil ⟨Nat.le_of_ble_eq_true rfl, ?_⟩))))))))
      exact fin_3 (pI _) (pI _) (pR _) q
  | take r kk =>
    obtain ⟨ru, hr, ht⟩ := hd
    obtain ⟨hp, hcs⟩ := ru_ok hN hr
    cases ea : ru.a with
    | go => rw [ea] at ht; cases ht
    | send c t => rw [ea] at ht; cases ht
    | take c t =>
      have hc := hcs c t (.inr ea)
      have hrow := row_at (w := w) (c := c) (by omega)
      have hrl := row_le h c
      simp only [beh, hr, ea] at q
      refine o_seq (o_if (w_T (w_bin (w_bin (w_var rfl (w_c (w_ixT (at0 _ _) (w_c (w_eqS ⟨_, rfl, fun h => (by cases h), fun _ => ?_⟩)))))))))
      refine o_nil (o_seq (o_asg (w_bin (nR rfl fun d hd => w_bin (w_var rfl (w_c (w_ixT (at1 _ _ _) (ll_ix hd (at_enc hr) ⟨_, _, rfl, ?_⟩))))))))
      refine o_seq (o_asg (w_var rfl ⟨_, _, g_setR (i := ru.p) rfl rfl (ga _ _ _) (by rw [List.length_map]; omega), ?_⟩))
      rw [pa, s1, ea]
      refine o_seq (o_if (w_T (w_bin (w_bin (w_var rfl (w_c (w_ixT (at0 _ _) (w_c (w_eqS ⟨_, rfl, fun h => (by cases h), fun _ => o_nil ?_⟩)))))))))
      refine o_seq (o_if (w_T (w_bin (w_bin (w_var rfl (w_c (w_ixT (at0 _ _) (w_c (w_eqS ⟨_, rfl, fun _ => ?_, fun h => (by cases h)⟩)))))))))
      refine o_asg ?_
      refine flt c kk _ _ _ _ _ hrl (w_iSeq (w_bin (w_var rfl (w_bin (w_var rfl (w_c (w_ixT (at1 _ _ _) (w_ixR (gc _ _ _) (at_enc hrow) ⟨_, m_iter, rfl, rfl⟩)))))))) rfl (fun v s' => w_bin (w_var rfl (w_c (w_ixT (at2 _ _ _ _) ⟨rfl, rfl⟩)))) ?_
      refine ⟨_, _, g_setR (i := c) rfl rfl (gc _ _ _) (by rw [List.length_map]; omega), ?_⟩
      rw [pc, s2]
      refine o_ret (w_tup (w_cons (w_var rfl (w_cons (w_var rfl (w_cons (w_var rfl (w_nil ⟨Nat.le_of_ble_eq_true rfl, ?_⟩))))))))
      exact fin_3 (pI _) (pI _) (pR _) q
end
end K

namespace K
open PySem Cw
variable {X : Nat → D → Sto → Prop}
/-! ### runs -/
def lastW (N : Net) (w : Wd) (ds : List Deed) : Wd := ds.foldl (beh N) w
def wl (N : Net) : Wd → List Deed → List Wd
  | w, [] => [w]
  | w, d :: ds => w :: wl N (beh N w d) ds
def Legal (N : Net) : Wd → List Deed → Prop
  | _, [] => True
  | w, d :: ds => d ∈ poss N w ∧ Legal N (beh N w d) ds
section
variable {N : Net}
theorem last_snoc (w : Wd) (ds : List Deed) (d : Deed) : lastW N w (ds ++ [d]) = beh N (lastW N w ds) d := by
  unfold lastW
  rw [List.foldl_append]
  rfl
theorem wl_len : ∀ (ds : List Deed) (w : Wd), (wl N w ds).length = ds.length + 1
  | [], _ => rfl
  | d :: ds, w => by
    show (wl N (beh N w d) ds).length + 1 = _
    rw [wl_len ds]
    rfl
theorem wl_snoc : ∀ (ds : List Deed) (w : Wd) (d : Deed), wl N w (ds ++ [d]) = wl N w ds ++ [beh N (lastW N w ds) d]
  | [], _, _ => rfl
  | e :: ds, w, d => by
    show w :: wl N (beh N w e) (ds ++ [d]) = w :: (wl N (beh N w e) ds ++ _)
    rw [wl_snoc ds (beh N w e) d]
    rfl
theorem wl_last : ∀ (ds : List Deed) (w : Wd), ∃ l, wl N w ds = l ++ [lastW N w ds]
  | [], w => ⟨[], rfl⟩
  | e :: ds, w => by
    obtain ⟨l, h⟩ := wl_last ds (beh N w e)
    refine ⟨w :: l, ?_⟩
    show w :: wl N (beh N w e) ds = _
    rw [h]
    rfl
theorem legal_snoc : ∀ (ds : List Deed) (w : Wd) (d : Deed), Legal N w (ds ++ [d]) ↔ Legal N w ds ∧ d ∈ poss N (lastW N w ds)
  | [], w, d => by
    show (d ∈ poss N w ∧ True) ↔ True ∧ d ∈ poss N w
    simp
  | e :: ds, w, d => by
    show (e ∈ poss N w ∧ Legal N (beh N w e) (ds ++ [d])) ↔ (e ∈ poss N w ∧ Legal N (beh N w e) ds) ∧ d ∈ poss N (lastW N (beh N w e) ds)
    rw [legal_snoc ds (beh N w e) d]
    simp only [and_assoc]
theorem wl_at : ∀ (ds : List Deed) (w : Wd) (i : Nat), i ≤ ds.length → (wl N w ds)[i]? = some (lastW N w (ds.take i))
  | [], w, i, h => by
    have : i = 0 := by simpa using h
    subst this
    rfl
  | e :: ds, w, 0, _ => rfl
  | e :: ds, w, i + 1, h => wl_at ds (beh N w e) i (by simpa using h)
theorem wl_take : ∀ (ds : List Deed) (w : Wd) (i : Nat), i ≤ ds.length → wl N w (ds.take i) = (wl N w ds).take (i + 1)
  | [], w, i, h => by
    have : i = 0 := by simpa using h
    subst this
    rfl
  | e :: ds, w, 0, _ => by
    show [w] = (w :: wl N (beh N w e) ds).take 1
    rfl
  | e :: ds, w, i + 1, h => by
    show w :: wl N (beh N w e) (ds.take i) = w :: (wl N (beh N w e) ds).take (i + 1)
    rw [wl_take ds _ i (by simpa using h)]
theorem legal_take : ∀ (ds : List Deed) (w : Wd) (i : Nat), Legal N w ds → Legal N w (ds.take i)
  | [], _, i, _ => by simp [Legal]
  | e :: ds, w, 0, _ => trivial
  | e :: ds, w, i + 1, h => ⟨h.1, legal_take ds _ i h.2⟩
theorem legal_at : ∀ (ds : List Deed) (w : Wd) (i : Nat) (d : Deed), Legal N w ds → ds[i]? = some d → d ∈ poss N (lastW N w (ds.take i))
  | [], _, _, _, _, h => by simp at h
  | e :: ds, w, 0, d, h, h2 => by
    have : e = d := by simpa using h2
    subst this
    exact h.1
  | e :: ds, w, i + 1, d, h, h2 => legal_at ds (beh N w e) i d h.2 (by simpa using h2)
theorem last_ok (hN : NetOk N) : ∀ (ds : List Deed) (w : Wd) (n : Nat), WdOk N n w → Legal N w ds → WdOk N (n + ds.length) (lastW N w ds)
  | [], w, n, h, _ => h
  | e :: ds, w, n, h, h2 => by
    have := last_ok hN ds (beh N w e) (n + 1) (beh_ok hN h e (poss_ok h2.1).1) h2.2
    rw [List.length_cons, show n + (ds.length + 1) = n + 1 + ds.length by omega]
    exact this
theorem last0_ok (hN : NetOk N) {ds : List Deed} (h : Legal N (w0 N) ds) : WdOk N ds.length (lastW N (w0 N) ds) := by
  have := last_ok hN ds (w0 N) 0 (w0_ok N) h
  rwa [Nat.zero_add] at this
end
end K

namespace K
open PySem Cw
variable {X : Nat → D → Sto → Prop}
/-! ### values near to deeds -/
inductive Dv where
  | tup (l : List At)
  | one (a : At)
  | doo
def encDv : Dv → D
  | .tup l => encT l
  | .one a => encAt a
  | .doo => .tup [.str "do", .int 0]
def vOk : Dv → Prop
  | .tup l => l.length ≤ 10
  | _ => True
theorem pl_Dv (v : Dv) : pl (encDv v) = true := by
  cases v with
  | tup l => exact pl_T l
  | one a => exact at_pl a
  | doo => rfl
theorem at_atom (a : At) : atom (encAt a) = true := by cases a <;> rfl
theorem poss_T (N : Net) (w : Wd) : (poss N w).map encD = ((poss N w).map atD).map encT := by
  rw [List.map_map]
  exact List.map_congr_left fun d _ => encD_at d
theorem tT_py (l : List At) : toPy (encT l) = some (.tuple (l.map pyAt)) := by
  unfold encT toPy
  rw [pyL_map encAt pyAt at_toPy]
theorem tT_lay (l : List At) : PyData.canLay0 (.tuple (l.map pyAt)) = true := by
  unfold PyData.canLay0
  exact layL_map pyAt at_lay l
theorem tT_dep (l : List At) : PyData.depth (.tuple (l.map pyAt)) ≤ 1 := by
  have := atL_depth l
  unfold PyData.depth
  omega
theorem in_ats {d : D} {p : PyData} {ls : List (List At)} {c : Bool} (st : Sto) (e1 : pyOf st d = some p) (hc1 : PyData.canLay0 p = true) (hd1 : PyData.depth p ≤ 1) (e3 : (ls.map fun l => PyData.tuple (l.map pyAt)).any (fun y => PyData.eqv y p) = c) : inD st d (.lst (ls.map encT)) = some c := by
  have e2 : pyOf st (.lst (ls.map encT)) = some (.list (ls.map fun l => PyData.tuple (l.map pyAt))) := by
    show toPy _ = _
    unfold toPy
    rw [pyL_map encT (fun l => PyData.tuple (l.map pyAt)) tT_py]
  have s1 : SeqAt.shaped p = true := by
    unfold SeqAt.shaped
    rw [hc1, Bool.true_and, decide_eq_true_eq]
    omega
  have s2 : SeqAt.shaped (.list (ls.map fun l => PyData.tuple (l.map pyAt))) = true := by
    have h1 := layL_map (fun l => PyData.tuple (l.map pyAt)) tT_lay ls
    have h2 := depL_map (fun l => PyData.tuple (l.map pyAt)) tT_dep ls
    unfold SeqAt.shaped
    rw [Bool.and_eq_true]
    refine ⟨by unfold PyData.canLay0; exact h1, decide_eq_true ?_⟩
    unfold PyData.depth
    omega
  unfold inD
  split
  · rename_i h _ _ h2
    cases h2
  · simp [e1, e2, s1, s2, itemsPy, e3]
def inV (v : Dv) (ls : List (List At)) : Bool := match v with
  | .tup l => decide (l ∈ ls)
  | _ => false
theorem any_none {ls : List (List At)} {p : PyData} (h : ∀ l : List At, PyData.eqv (.tuple (l.map pyAt)) p = false) : (ls.map fun l => PyData.tuple (l.map pyAt)).any (fun y => PyData.eqv y p) = false := by
  rw [Bool.eq_false_iff]
  intro e
  obtain ⟨y, hy, hy2⟩ := List.any_eq_true.mp e
  obtain ⟨l, _, rfl⟩ := List.mem_map.mp hy
  rw [h l] at hy2
  cases hy2
theorem in_dv (st : Sto) (v : Dv) (ls : List (List At)) : inD st (encDv v) (.lst (ls.map encT)) = some (inV v ls) := by
  cases v with
  | tup l =>
    refine in_ats st (p := .tuple (l.map pyAt)) (tT_py l) (tT_lay l) (tT_dep l) ?_
    show _ = decide (l ∈ ls)
    rw [Bool.eq_iff_iff, List.any_eq_true, decide_eq_true_eq]
    constructor
    · rintro ⟨y, hy, e⟩
      obtain ⟨z, hz, rfl⟩ := List.mem_map.mp hy
      unfold PyData.eqv at e
      rw [← (atL_eqv z l).mp e]
      exact hz
    · intro h
      refine ⟨_, List.mem_map_of_mem h, ?_⟩
      unfold PyData.eqv
      exact (atL_eqv l l).mpr rfl
  | one a =>
    refine in_ats st (p := pyAt a) ?_ (at_lay a) (by rw [at_depth]; omega) (any_none fun l => by cases a <;> simp [pyAt, PyData.eqv])
    cases a <;> simp [encDv, encAt, pyAt, pyOf, toPy]
  | doo =>
    refine in_ats st (p := .tuple [.str "do", .int 0]) (by simp [encDv, pyOf, toPy, toPyL]) (by decide +kernel) (by simp [PyData.depth, PyData.depthAll]) (any_none fun l => ?_)
    match l with
    | [] => simp [PyData.eqv, PyData.eqvAll]
    | .non :: _ => simp [pyAt, PyData.eqv, PyData.eqvAll]
    | .int _ :: _ => simp [pyAt, PyData.eqv, PyData.eqvAll]
    | .wd k :: _ =>
      have : ∀ k : Fin 5, ¬ wrd k = "do" := by decide
      simp [pyAt, PyData.eqv, PyData.eqvAll, this k]
/-- no deed that can be done -/
def BadV (N : Net) (w : Wd) (v : Dv) : Prop := inV v ((poss N w).map atD) = false
theorem as_bad {N : Net} {w : Wd} {v : Dv} (h : BadV N w v) (ho : vOk v) (st : Sto) : ∃ x, m_as_deed [netD N, encDv v] st = .ok x st ∧ (x = .non ∨ ∃ d, x = encD d ∧ DeedOk N d ∧ canD N w d = false) := by
  cases v with
  | tup l =>
    have h : ¬ l ∈ (poss N w).map atD := of_decide_eq_false h
    rcases as_gen N l ho true st with ⟨d, e, hok, ha⟩ | ⟨_, ha⟩
    · refine ⟨_, ha, .inr ⟨d, rfl, hok, ?_⟩⟩
      cases q : canD N w d with
      | false => rfl
      | true => exact absurd (by rw [e]; exact List.mem_map_of_mem (ok_poss hok q)) h
    · exact ⟨_, ha, .inl rfl⟩
  | one a => exact ⟨_, as_atom N (encAt a) st (at_atom a), .inl rfl⟩
  | doo => exact ⟨_, as_word N true "do" 0 [] st (by decide +kernel) (by decide) (by decide) (by decide) rfl (by decide), .inl rfl⟩
def Nr (d : D) : Prop := ∃ v, d = encDv v ∧ vOk v
theorem nr_pl {d : D} (h : Nr d) : pl d = true := by
  obtain ⟨v, rfl, _⟩ := h
  exact pl_Dv v
theorem nr_all {l : List D} (h : ∀ d ∈ l, Nr d) : plL l = true := plL_iff.mpr fun d hd => nr_pl (h d hd)
theorem nr_app {l m : List D} (h1 : ∀ d ∈ l, Nr d) (h2 : ∀ d ∈ m, Nr d) : ∀ d ∈ l ++ m, Nr d := fun d hd => by
  rcases List.mem_append.mp hd with hd | hd
  · exact h1 d hd
  · exact h2 d hd
theorem nr_cons {x : D} {m : List D} (h1 : Nr x) (h2 : ∀ d ∈ m, Nr d) : ∀ d ∈ x :: m, Nr d := fun d hd => by
  rcases List.mem_cons.mp hd with hd | hd
  · rw [hd]
    exact h1
  · exact h2 d hd
theorem nr_nil : ∀ d ∈ ([] : List D), Nr d := fun d hd => by cases hd
theorem nr_map {α : Type} {l : List α} {f : α → D} (h : ∀ a, Nr (f a)) : ∀ d ∈ l.map f, Nr d := fun d hd => by
  obtain ⟨a, _, rfl⟩ := List.mem_map.mp hd
  exact h a
theorem nr_a (i : Int) : Nr (.tup [.str "act", .int i]) := ⟨.tup [.wd 0, .int i], rfl, by simp [vOk]⟩
theorem nr_t (i j : Int) : Nr (.tup [.str "take", .int i, .int j]) := ⟨.tup [.wd 1, .int i, .int j], rfl, by simp [vOk]⟩
theorem nr_l (i j : Int) : Nr (.tup [.str "lose", .int i, .int j]) := ⟨.tup [.wd 2, .int i, .int j], rfl, by simp [vOk]⟩
/-- where the list stands -/
def Fnr (s : Sto) (l : List D) (v : Option D) (s' : Sto) : Prop := ∃ k ext, v = some (.ref k) ∧ s' = s ++ ext ∧ s.length ≤ k ∧ (s ++ ext)[k]? = some (.lst l)
section
variable {s : Sto} {Q : D → Sto → Prop}
theorem Fnr.app {l : List D} {k : Nat} {ext : Sto} {d : D} (h1 : s.length ≤ k) (h2 : (s ++ ext)[k]? = some (.lst l)) : Fnr s (l ++ [d]) (some (.ref k)) ((s ++ ext).set k (.lst (l ++ [d]))) := by
  have hk := (List.getElem?_eq_some_iff.mp h2).1
  refine ⟨k, _, rfl, List.set_append_right k _ h1, h1, ?_⟩
  rw [← List.set_append_right k _ h1, List.getElem?_set_self hk]
theorem Fnr.more {l : List D} {ext : Sto} : Fnr s l (some (.ref (s ++ ext).length)) ((s ++ ext) ++ [.lst l]) := by
  refine ⟨(s ++ ext).length, ext ++ [.lst l], rfl, by rw [List.append_assoc], by rw [List.length_append]; omega, ?_⟩
  rw [← List.append_assoc]
  simp
theorem w_addRF {k : Nat} {ds es : List D} {st : Sto} {Q : D → Sto → Prop} (hk : st[k]? = some (.lst ds)) (hl : ds.length + es.length ≤ LIM) (q : Q (.lst (ds ++ es)) st) : wx X (lift (oAdd false (.ref k) (.lst es) st)) Q := by
  refine w_lift (d := .lst (ds ++ es)) (s := st) ?_ q
  unfold oAdd
  simp only [seqW, hk, if_pos hl]
  rfl
theorem w_addLT {ds es : List D} {st : Sto} {Q : D → Sto → Prop} (hl : ds.length + es.length ≤ LIM) (q : Q (.ref st.length) (st ++ [.lst (ds ++ es)])) : wx X (lift (oAdd true (.lst ds) (.lst es) st)) Q := by
  refine w_lift (d := .ref st.length) (s := st ++ [.lst (ds ++ es)]) ?_ q
  unfold oAdd
  simp only [seqW, if_pos hl]
  rfl
theorem rng_enc (n : Nat) : rngD 0 n = ⟨(List.range n).map encI, []⟩ := by
  unfold rngD
  congr 1
  exact List.map_congr_left fun k _ => by unfold encI; rw [Int.zero_add]
/-- a filter, its list a live cell -/
theorem w_compTF {fi : EM IterD} {vs : List Nat} {t : Tgt} {ft : EM Bool} {fe : EM D} {env : En} {st : Sto} {Q : D → Sto → Prop} (xs : List D) (p : D → Bool) (hi : wp (fi env st) fun it s => it.items = xs ∧ (∀ xt, lockB it.lock (s ++ xt) = true) ∧ s = st) (hl : xs.length < 1000000)
    (he : ∀ x ∈ xs, ∃ e1, tgtD t x (wipeE env vs) = some e1 ∧ ∀ s', wp (ft e1 s') (fun c s2 => c = p x ∧ s2 = s') ∧ wp (fe e1 s') fun d s3 => d = x ∧ s3 = s') (q : Q (.ref st.length) (st ++ [.lst (xs.filter p)])) : wx X (mComp true fi vs t ft fe env st) Q := by
  unfold mComp
  refine w_bind (w_mono (wx_wp hi) ?_)
  rintro it s ⟨hit, hlk, rfl⟩
  unfold popR
  rw [if_pos rfl]
  have go : ∀ (ys : List D) (acc : List D), acc.length + ys.length < 1000000 → (∀ y ∈ ys, y ∈ xs) → compL it.lock vs t ft fe env s.length ys (s ++ [.lst acc]) = .ok (.ref s.length) (s ++ [.lst (acc ++ ys.filter p)]) := by
    intro ys
    induction ys with
    | nil =>
      intro acc _ _
      unfold compL
      rw [if_pos (hlk _)]
      simp
    | cons y ys ih =>
      intro acc hn hm
      obtain ⟨e1, h1, h2⟩ := he y (hm y (List.mem_cons_self ..))
      obtain ⟨h3, h4⟩ := h2 (s ++ [.lst acc])
      obtain ⟨c, s2, h5, rfl, rfl⟩ := w_out h3
      obtain ⟨d, s3, h6, rfl, rfl⟩ := w_out h4
      rw [List.length_cons] at hn
      unfold compL
      have hg : (s ++ [Cell.lst acc])[s.length]? = some (.lst acc) := by simp
      have hs : (s ++ [Cell.lst acc]).set s.length (.lst (acc ++ [d])) = s ++ [.lst (acc ++ [d])] := by simp
      have hlim : acc.length < LIM := by
        show _ < 16777216
        omega
      rw [if_pos (hlk _)]
      simp only [h1, h5]
      cases hp : p d with
      | true =>
        simp only [h6, hg, hlim, if_true, hs]
        rw [ih (acc ++ [d]) (by rw [List.length_append, List.length_singleton]; omega) fun z hz => hm z (List.mem_cons_of_mem _ hz)]
        simp [hp]
      | false =>
        simp only
        rw [ih acc (by omega) fun z hz => hm z (List.mem_cons_of_mem _ hz)]
        simp [hp]
  rw [hit, go xs [] (by simpa using hl) (fun y hy => hy)]
  show Q _ _
  simpa using q
end
end K

namespace K
open PySem Cw
variable {X : Nat → D → Sto → Prop}
def keepP (ls : List (List At)) (d : D) : Bool := match inD [] d (.lst (ls.map encT)) with
  | some b => !b
  | none => false
theorem keep_dv (ls : List (List At)) (v : Dv) : keepP ls (encDv v) = !inV v ls := by
  unfold keepP
  rw [in_dv]
section
variable {cs : List Int} {k kc nd n : Nat} {S s : Sto} {Q : D → Sto → Prop} {N : Net} {w : Wd}
def oddL : List D := [D.non, .int 0, .str "act", .tup [], .tup [.str "act"], .tup [.str "act", .int 0, .int 0], .tup [.str "do", .int 0], .tup [.str "act", .non], .tup [.str "act", .int (-1)]]
def oddM : List D := [.tup [.str "take", .int 0], .tup [.str "take", .int 0, .int (-1)], .tup [.str "lose", .int 0], .tup [.str "lose", .int (-1), .int 0], .tup [.str "lose", .int 0, .int (-1)]]
theorem nr_oddL : ∀ d ∈ oddL, Nr d := nr_cons ⟨.one .non, rfl, trivial⟩ (nr_cons ⟨.one (.int 0), rfl, trivial⟩ (nr_cons ⟨.one (.wd 0), rfl, trivial⟩ (nr_cons ⟨.tup [], rfl, by simp [vOk]⟩ (nr_cons ⟨.tup [.wd 0], rfl, by simp [vOk]⟩ (nr_cons ⟨.tup [.wd 0, .int 0, .int 0], rfl, by simp [vOk]⟩ (nr_cons ⟨.doo, rfl, trivial⟩ (nr_cons ⟨.tup [.wd 0, .non], rfl, by simp [vOk]⟩ (nr_cons (nr_a _) nr_nil))))))))
theorem nr_oddM : ∀ d ∈ oddM, Nr d := nr_cons ⟨.tup [.wd 1, .int 0], rfl, by simp [vOk]⟩ (nr_cons (nr_t _ _) (nr_cons ⟨.tup [.wd 2, .int 0], rfl, by simp [vOk]⟩ (nr_cons (nr_l _ _) (nr_cons (nr_l _ _) nr_nil))))
theorem w_lnear (h : Px cs k kc S s) (hN : NetOk N) (hA : NA k N nd S) (hw : WdOk N n w) (hn : n ≤ 100) (q : ∀ s' v, Px cs k kc S s' → vOk v → BadV N w v → Q (encDv v) s') : wx X (m__law_near [.ref k, .ref nd, encL w] s) Q := by
  have hkS := h.1
  have hkc := h.2.1
  have hl0 := h.len
  have hr40 := hN.r40
  have hc8 := hN.c8
  have hAs : NA k N nd s := hA.px h
  have nR : ∀ {env : En} {ext : Sto} {Q : D → Sto → Prop}, env[1]? = some (some (.ref nd)) → (∀ d, LL k (s ++ ext) d (N.rs.map encR) → Q d (s ++ ext)) → wp (mGet (mVar 1) (mC (.str ("rules" : Str))) env (s ++ ext)) Q := fun h0 q => w_nR (hAs.ext _) h0 q
  have nC : ∀ {env : En} {ext : Sto} {Q : D → Sto → Prop}, env[1]? = some (some (.ref nd)) → (∀ d, LL k (s ++ ext) d (N.cs.map encC) → Q d (s ++ ext)) → wp (mGet (mVar 1) (mC (.str ("channels" : Str))) env (s ++ ext)) Q := fun h0 q => w_nC (hAs.ext _) h0 q
  have hg : ∀ (x : Sto) (l : List D), (x ++ [Cell.lst l])[x.length]? = some (.lst l) := fun x l => by simp
  unfold m__law_near
  refine w_run ?_
  show wo (mb__law_near [some (.ref k), some (.ref nd), some (encL w), none, none, none, none, none, none, none, none, none] s) _ _ _ _
  unfold mb__law_near
  refine o_cut (fun e s' => ∃ v3 v4 v5 v6 v7 v8 v9 v10 v11 l, e = [some (.ref k), some (.ref nd), some (encL w), v3, v4, v5, v6, v7, v8, v9, v10, v11] ∧ Fnr s l v3 s' ∧ (∀ d ∈ l, Nr d) ∧ l.length ≤ 3) ?_ ?_
  · refine o_set (w_lstT (w_cons (w_tup (w_cons (w_c (w_cons (w_m1 (w_nR hAs rfl fun d hd => ll_len hd (w_nil ⟨Nat.le_of_ble_eq_true rfl, ?_⟩)))))))))
    refine w_cons (w_tup (w_cons (w_c (w_cons (w_m1 (w_nR hAs rfl fun d hd => ll_len hd (w_cons (w_c (w_nil ⟨Nat.le_of_ble_eq_true rfl, ?_⟩)))))))))
    refine w_cons (w_tup (w_cons (w_c (w_cons (w_m1 (w_nC hAs rfl fun d hd => ll_len hd (w_cons (w_c (w_nil ⟨Nat.le_of_ble_eq_true rfl, ?_⟩)))))))))
    refine w_nil ⟨Nat.le_of_ble_eq_true rfl, ?_⟩
    exact ⟨_, none, none, none, none, none, none, none, none, _, rfl, ⟨s.length, _, rfl, rfl, Nat.le_refl _, hg s _⟩, nr_cons (nr_a _) (nr_cons (nr_t _ _) (nr_cons (nr_l _ _) nr_nil)), by simp⟩
  rintro e s1 ⟨v3, v4, v5, v6, v7, v8, v9, v10, v11, l, rfl, hf, hl, hll⟩
  refine o_cut (fun e s' => ∃ v3 v4 v5 v6 v7 v8 v9 v10 v11 l, e = [some (.ref k), some (.ref nd), some (encL w), v3, v4, v5, v6, v7, v8, v9, v10, v11] ∧ Fnr s l v3 s' ∧ (∀ d ∈ l, Nr d) ∧ l.length ≤ 5000) ?_ ?_
  · obtain ⟨kk, ext, rfl, rfl, hk1, hk2⟩ := hf
    refine o_for (w_iRg1 (w_m1 (nR rfl fun d hd => ll_len hd ⟨_, rfl, by rw [List.length_map]; omega, ?_⟩)))
    refine ⟨fun j e s' => j ≤ N.rs.length ∧ ∃ v3 v4 v5 v6 v7 v8 v9 v10 v11 l, e = [some (.ref k), some (.ref nd), some (encL w), v3, v4, v5, v6, v7, v8, v9, v10, v11] ∧ Fnr s l v3 s' ∧ (∀ d ∈ l, Nr d) ∧ l.length ≤ 3 + 110 * j, ⟨Nat.zero_le _, _, v4, v5, v6, v7, v8, v9, v10, v11, l, rfl, ⟨kk, ext, rfl, rfl, hk1, hk2⟩, hl, hll⟩, fun _ _ _ _ => rfl, ?_, ?_⟩
    · clear hk1 hk2 hl hll
      rintro j x hx e s' ⟨hj, v3, v4, v5, v6, v7, v8, v9, v10, v11, l, rfl, ⟨kk, ext, rfl, rfl, hk1, hk2⟩, hl, hll⟩
      rw [List.length_map] at hx
      have hjl : j < N.rs.length := by
        have := (List.getElem?_eq_some_iff.mp hx).1
        simpa [rngD] using this
      have hxx : x = .int j := by
        simp [rngD, hjl] at hx
        exact hx.symm
      subst hxx
      obtain ⟨ru, hru⟩ : ∃ ru, N.rs[j]? = some ru := ⟨N.rs[j], by simp [hjl]⟩
      obtain ⟨hp, hcs⟩ := ru_ok hN hru
      refine ⟨_, _, rfl, ?_⟩
      refine o_seq (o_set (w_bin (w_bin (nR rfl fun d hd => w_var rfl (ll_ix hd (at_enc hru) (w_c (w_ixT (at2 _ _ _ _) ?_)))))))
      refine o_seq (o_expr (w_meth (w_var rfl ⟨tyM_ref hk2, ?_⟩)))
      refine w_cons (w_tup (w_cons (w_c (w_cons (w_var rfl (w_nil ⟨Nat.le_of_ble_eq_true rfl, w_nil ?_⟩))))))
      refine w_app hk2 (lim_lt (by omega)) ?_
      obtain ⟨kk2, ext2, e2, e2', g1, g2⟩ := Fnr.app (d := .tup [.str "act", .int j]) hk1 hk2
      cases e2
      rw [e2']
      have hl1 := nr_app hl (nr_cons (nr_a j) nr_nil)
      have hll1 : (l ++ [D.tup [.str "act", .int j]]).length ≤ 3 + 110 * j + 1 := by rw [List.length_append, List.length_singleton]; omega
      clear hk1 hk2 e2' hl hll
      generalize l ++ [D.tup [.str "act", .int j]] = l1 at hl1 hll1 g2
      refine o_if (w_T (w_bin (w_bin (w_var rfl (w_c (w_first fun z hz => ?_))))))
      refine w_c (w_eqS ⟨_, rfl, ?_, ?_⟩)
      · intro ht
        have ht : z = "take" := by simpa using ht
        have hz := hz.mp ht
        cases ea : ru.a with
        | go => rw [ea] at hz; cases hz
        | send c t => rw [ea] at hz; cases hz
        | take c t =>
          have hc := hcs c t (.inr ea)
          have hrow := row_at (w := w) (c := c) (by rw [hw.pr]; exact hc)
          have hrl := row_le hw c
          obtain ⟨sv, hsv⟩ : ∃ sv, w.se[c]? = some sv := ⟨w.se[c]'(by rw [hw.se]; exact hc), by simp⟩
          refine o_set (w_bin (w_bin (w_var rfl ?_)))
          refine w_compA (rowOf w c) (encM true) (fun m => encD (.take j m.1)) ?_ (by omega) ?_ (fun m _ => pl_D _) ?_
          · refine w_iSeq (w_bin (w_bin (w_var rfl (w_c (w_ixT (at2 _ _ _ _) (w_bin (w_var rfl (w_c (w_ixT (at1 _ _ _) (m_ix (at_enc hrow) ⟨_, m_iter, rfl, rfl⟩))))))))))
          · rintro ⟨k1, tk⟩ _
            refine ⟨_, rfl, fun s' => ?_⟩
            repeat (first | (with_reducible apply w_bin) | (with_reducible apply w_m1) | (with_reducible apply w_un) | (with_reducible apply w_cons) | (with_reducible apply w_nil) | (with_reducible apply w_callN) | ((with_reducible apply w_var); exact rfl) | (with_reducible apply w_c) | (with_reducible apply w_T) | (with_reducible apply w_NotT) | (with_reducible apply w_AndT) | (with_reducible apply w_OrT) | (with_reducible apply w_And) | (with_reducible apply w_Or) | (with_reducible apply w_Not) | (with_reducible apply w_If) | (with_reducible apply w_tup) | (with_reducible apply w_lstF) | (with_reducible apply w_noP) | (with_reducible apply w_part) | (with_reducible apply w_slice) | (with_reducible apply w_isN) | (with_reducible apply w_add) | (with_reducible apply w_sub) | (with_reducible apply w_gt) | (with_reducible apply w_lt) | (with_reducible apply w_ge) | (with_reducible apply w_le) | (with_reducible apply w_eqI) | (with_reducible apply w_neI) | (with_reducible apply w_eqS) | (with_reducible apply w_neS) | ((with_reducible apply x_ixT); exact rfl; exact rfl) | ((with_reducible apply x_ixL); exact rfl; exact rfl) | ((with_reducible apply x_lenT); exact rfl) | ((with_reducible apply x_lenL); exact rfl) | (with_reducible apply w_intI) | (with_reducible apply w_intB) | (with_reducible apply w_tupT) | (with_reducible apply w_tupL) | (with_reducible apply w_slT) | (with_reducible apply w_slL) | (with_reducible apply w_iSeq) | (with_reducible apply w_iRg1) | (with_reducible apply ex_bl) | (with_reducible apply ex_int) | (with_reducible apply ex_neg) | (with_reducible refine And.intro (Nat.le_of_ble_eq_true rfl) ?_) | (with_reducible refine And.intro (rfl : List.length _ = _) ?_))
            exact ⟨rfl, rfl⟩
          · refine w_addRF g2 (lim_of (by simp only [List.length_map]; omega)) ?_
            refine w_lstF (w_cons (w_tup (w_cons (w_c (w_cons (w_var rfl (w_cons (w_bin (w_bin (w_var rfl (w_c (w_ixT (at1 _ _ _) (w_bin (w_var rfl (w_c ?_)))))))))))))))
            refine w_ixT (at1 _ _ _) (m_ix (at_enc hsv) (w_nil ⟨Nat.le_of_ble_eq_true rfl, w_nil ⟨Nat.le_of_ble_eq_true rfl, ?_⟩⟩))
            refine w_addLT (lim_of (by simp only [List.length_map, List.length_append, List.length_singleton]; omega)) ?_
            refine ⟨hjl, _, _, _, _, _, _, _, _, _, _, rfl, Fnr.more, nr_app (nr_app hl1 (nr_map fun m => nr_t _ _)) (nr_cons (nr_t _ _) nr_nil), ?_⟩
            simp only [List.length_map, List.length_append, List.length_singleton]
            omega
      · intro ht
        refine o_expr (w_meth (w_var rfl ⟨tyM_ref g2, ?_⟩))
        refine w_cons (w_tup (w_cons (w_c (w_cons (w_var rfl (w_cons (w_c (w_nil ⟨Nat.le_of_ble_eq_true rfl, w_nil ?_⟩))))))))
        refine w_app g2 (lim_lt (by omega)) ?_
        exact ⟨hjl, _, _, _, _, _, _, _, _, _, _, rfl, Fnr.app g1 g2, nr_app hl1 (nr_cons (nr_t _ _) nr_nil), by rw [List.length_append, List.length_singleton]; omega⟩
    · rintro e s' ⟨hj, v3, v4, v5, v6, v7, v8, v9, v10, v11, l, rfl, hf, hl, hll⟩
      refine ⟨v3, v4, v5, v6, v7, v8, v9, v10, v11, l, rfl, hf, hl, ?_⟩
      have : (rngD 0 (N.rs.map encR).length).items.length = N.rs.length := by simp [rngD]
      omega
  clear hf hl hll
  rintro e s1 ⟨v3, v4, v5, v6, v7, v8, v9, v10, v11, l, rfl, hf, hl, hll⟩
  refine o_cut (fun e s' => ∃ v3 v4 v5 v6 v7 v8 v9 v10 v11 l, e = [some (.ref k), some (.ref nd), some (encL w), v3, v4, v5, v6, v7, v8, v9, v10, v11] ∧ Fnr s l v3 s' ∧ (∀ d ∈ l, Nr d) ∧ l.length ≤ 10000) ?_ ?_
  · obtain ⟨kk, ext, rfl, rfl, hk1, hk2⟩ := hf
    refine o_for (w_iRg1 (w_m1 (nC rfl fun d hd => ll_len hd ⟨_, rfl, by rw [List.length_map]; omega, ?_⟩)))
    refine ⟨fun j e s' => j ≤ N.cs.length ∧ ∃ v3 v4 v5 v6 v7 v8 v9 v10 v11 l, e = [some (.ref k), some (.ref nd), some (encL w), v3, v4, v5, v6, v7, v8, v9, v10, v11] ∧ Fnr s l v3 s' ∧ (∀ d ∈ l, Nr d) ∧ l.length ≤ 5000 + 110 * j, ⟨Nat.zero_le _, _, v4, v5, v6, v7, v8, v9, v10, v11, l, rfl, ⟨kk, ext, rfl, rfl, hk1, hk2⟩, hl, hll⟩, fun _ _ _ _ => rfl, ?_, ?_⟩
    · clear hk1 hk2 hl hll
      rintro j x hx e s' ⟨hj, v3, v4, v5, v6, v7, v8, v9, v10, v11, l, rfl, ⟨kk, ext, rfl, rfl, hk1, hk2⟩, hl, hll⟩
      rw [List.length_map] at hx
      have hjl : j < N.cs.length := by
        have := (List.getElem?_eq_some_iff.mp hx).1
        simpa [rngD] using this
      have hxx : x = .int j := by
        simp [rngD, hjl] at hx
        exact hx.symm
      subst hxx
      have hrow := row_at (w := w) (c := j) (by rw [hw.pr]; exact hjl)
      have hrl := row_le hw j
      obtain ⟨sv, hsv⟩ : ∃ sv, w.se[j]? = some sv := ⟨w.se[j]'(by rw [hw.se]; exact hjl), by simp⟩
      have hsn := hw.sen sv (List.mem_of_getElem? hsv)
      refine ⟨_, _, rfl, ?_⟩
      refine o_seq (o_set ?_)
      refine w_compG (List.range sv) encI (fun i => !decide (i ∈ (rowOf w j).map (·.1))) encI ?_ (by rw [List.length_range]; omega) ?_ (fun _ _ => rfl) ?_
      · refine w_iRg1 (w_bin (w_bin (w_var rfl (w_c (w_ixT (at1 _ _ _) (w_var rfl (m_ix (at_enc hsv) ⟨sv, rfl, by omega, rng_enc sv, rfl⟩)))))))
      · intro i _
        refine ⟨_, rfl, fun acc => ?_⟩
        refine w_T (w_bin (w_var rfl ?_))
        refine w_compA (rowOf w j) (encM true) (fun m => encI m.1) ?_ (by omega) ?_ (fun m _ => rfl) ?_
        · refine w_iSeq (w_bin (w_bin (w_var rfl (w_c (w_ixT (at2 _ _ _ _) (w_var rfl (m_ix (at_enc hrow) ⟨_, m_iter, rfl, rfl⟩)))))))
        · rintro ⟨k1, tk⟩ _
          refine ⟨_, rfl, fun s' => ?_⟩
          repeat (first | (with_reducible apply w_bin) | (with_reducible apply w_m1) | (with_reducible apply w_un) | (with_reducible apply w_cons) | (with_reducible apply w_nil) | (with_reducible apply w_callN) | ((with_reducible apply w_var); exact rfl) | (with_reducible apply w_c) | (with_reducible apply w_T) | (with_reducible apply w_NotT) | (with_reducible apply w_AndT) | (with_reducible apply w_OrT) | (with_reducible apply w_And) | (with_reducible apply w_Or) | (with_reducible apply w_Not) | (with_reducible apply w_If) | (with_reducible apply w_tup) | (with_reducible apply w_lstF) | (with_reducible apply w_noP) | (with_reducible apply w_part) | (with_reducible apply w_slice) | (with_reducible apply w_isN) | (with_reducible apply w_add) | (with_reducible apply w_sub) | (with_reducible apply w_gt) | (with_reducible apply w_lt) | (with_reducible apply w_ge) | (with_reducible apply w_le) | (with_reducible apply w_eqI) | (with_reducible apply w_neI) | (with_reducible apply w_eqS) | (with_reducible apply w_neS) | ((with_reducible apply x_ixT); exact rfl; exact rfl) | ((with_reducible apply x_ixL); exact rfl; exact rfl) | ((with_reducible apply x_lenT); exact rfl) | ((with_reducible apply x_lenL); exact rfl) | (with_reducible apply w_intI) | (with_reducible apply w_intB) | (with_reducible apply w_tupT) | (with_reducible apply w_tupL) | (with_reducible apply w_slT) | (with_reducible apply w_slL) | (with_reducible apply w_iSeq) | (with_reducible apply w_iRg1) | (with_reducible apply ex_bl) | (with_reducible apply ex_int) | (with_reducible apply ex_neg) | (with_reducible refine And.intro (Nat.le_of_ble_eq_true rfl) ?_) | (with_reducible refine And.intro (rfl : List.length _ = _) ?_))
          exact ⟨rfl, rfl⟩
        · have e1 : (rowOf w j).map (fun m => encI m.1) = ((rowOf w j).map (·.1)).map encI := by rw [List.map_map]; rfl
          rw [e1]
          refine w_lift (d := .bl (!decide (i ∈ (rowOf w j).map (·.1)))) (s := s ++ ext ++ [.lst acc]) ?_ ⟨_, rfl, rfl, rfl, fun _ => w_var rfl ⟨rfl, rfl⟩⟩
          unfold oIn
          rw [show encI i = .int i from rfl, (in_nats _ i _).2]
          rfl
      generalize (List.range sv).filter (fun i => !decide (i ∈ (rowOf w j).map (·.1))) = gone
      refine o_seq (o_set (w_bin (w_bin (w_var rfl ?_))))
      refine w_compA (rowOf w j) (encM true) (fun m => encD (.lose j m.1)) ?_ (by omega) ?_ (fun m _ => pl_D _) ?_
      · refine w_iSeq (w_bin (w_bin (w_var rfl (w_c (w_ixT (at2 _ _ _ _) (w_var rfl (m_ix (at_enc hrow) ⟨_, m_iter, rfl, rfl⟩)))))))
      · rintro ⟨k1, tk⟩ _
        refine ⟨_, rfl, fun s' => ?_⟩
        repeat (first | (with_reducible apply w_bin) | (with_reducible apply w_m1) | (with_reducible apply w_un) | (with_reducible apply w_cons) | (with_reducible apply w_nil) | (with_reducible apply w_callN) | ((with_reducible apply w_var); exact rfl) | (with_reducible apply w_c) | (with_reducible apply w_T) | (with_reducible apply w_NotT) | (with_reducible apply w_AndT) | (with_reducible apply w_OrT) | (with_reducible apply w_And) | (with_reducible apply w_Or) | (with_reducible apply w_Not) | (with_reducible apply w_If) | (with_reducible apply w_tup) | (with_reducible apply w_lstF) | (with_reducible apply w_noP) | (with_reducible apply w_part) | (with_reducible apply w_slice) | (with_reducible apply w_isN) | (with_reducible apply w_add) | (with_reducible apply w_sub) | (with_reducible apply w_gt) | (with_reducible apply w_lt) | (with_reducible apply w_ge) | (with_reducible apply w_le) | (with_reducible apply w_eqI) | (with_reducible apply w_neI) | (with_reducible apply w_eqS) | (with_reducible apply w_neS) | ((with_reducible apply x_ixT); exact rfl; exact rfl) | ((with_reducible apply x_ixL); exact rfl; exact rfl) | ((with_reducible apply x_lenT); exact rfl) | ((with_reducible apply x_lenL); exact rfl) | (with_reducible apply w_intI) | (with_reducible apply w_intB) | (with_reducible apply w_tupT) | (with_reducible apply w_tupL) | (with_reducible apply w_slT) | (with_reducible apply w_slL) | (with_reducible apply w_iSeq) | (with_reducible apply w_iRg1) | (with_reducible apply ex_bl) | (with_reducible apply ex_int) | (with_reducible apply ex_neg) | (with_reducible refine And.intro (Nat.le_of_ble_eq_true rfl) ?_) | (with_reducible refine And.intro (rfl : List.length _ = _) ?_))
        exact ⟨rfl, rfl⟩
      refine w_addRF hk2 (lim_of (by simp only [List.length_map]; omega)) ?_
      refine w_compA (gone.take 2) encI (fun i => .tup [.str "lose", .int j, .int i]) ?_ (by rw [List.length_take]; omega) ?_ (fun m _ => rfl) ?_
      · refine w_iSeq (w_slice (w_var rfl (w_noP (w_part (w_c ⟨2, rfl, w_slL ⟨_, rfl, ?_, rfl⟩⟩)))))
        rw [List.map_take, ← cut_to (k := 2)]
        rfl
      · intro i _
        refine ⟨_, rfl, fun s' => ?_⟩
        repeat (first | (with_reducible apply w_bin) | (with_reducible apply w_m1) | (with_reducible apply w_un) | (with_reducible apply w_cons) | (with_reducible apply w_nil) | (with_reducible apply w_callN) | ((with_reducible apply w_var); exact rfl) | (with_reducible apply w_c) | (with_reducible apply w_T) | (with_reducible apply w_NotT) | (with_reducible apply w_AndT) | (with_reducible apply w_OrT) | (with_reducible apply w_And) | (with_reducible apply w_Or) | (with_reducible apply w_Not) | (with_reducible apply w_If) | (with_reducible apply w_tup) | (with_reducible apply w_lstF) | (with_reducible apply w_noP) | (with_reducible apply w_part) | (with_reducible apply w_slice) | (with_reducible apply w_isN) | (with_reducible apply w_add) | (with_reducible apply w_sub) | (with_reducible apply w_gt) | (with_reducible apply w_lt) | (with_reducible apply w_ge) | (with_reducible apply w_le) | (with_reducible apply w_eqI) | (with_reducible apply w_neI) | (with_reducible apply w_eqS) | (with_reducible apply w_neS) | ((with_reducible apply x_ixT); exact rfl; exact rfl) | ((with_reducible apply x_ixL); exact rfl; exact rfl) | ((with_reducible apply x_lenT); exact rfl) | ((with_reducible apply x_lenL); exact rfl) | (with_reducible apply w_intI) | (with_reducible apply w_intB) | (with_reducible apply w_tupT) | (with_reducible apply w_tupL) | (with_reducible apply w_slT) | (with_reducible apply w_slL) | (with_reducible apply w_iSeq) | (with_reducible apply w_iRg1) | (with_reducible apply ex_bl) | (with_reducible apply ex_int) | (with_reducible apply ex_neg) | (with_reducible refine And.intro (Nat.le_of_ble_eq_true rfl) ?_) | (with_reducible refine And.intro (rfl : List.length _ = _) ?_))
        exact ⟨rfl, rfl⟩
      refine w_addLT (lim_of (by simp only [List.length_map, List.length_append, List.length_take]; omega)) ?_
      refine o_set (w_bin (w_var rfl ?_))
      refine w_lstF (w_cons (w_tup (w_cons (w_c (w_cons (w_var rfl (w_cons (w_bin (w_bin (w_var rfl (w_c (w_ixT (at1 _ _ _) (w_var rfl (m_ix (at_enc hsv) (w_nil ⟨Nat.le_of_ble_eq_true rfl, ?_⟩)))))))))))))))
      refine w_cons (w_tup (w_cons (w_c (w_cons (w_var rfl (w_cons (w_bin (w_c (w_c (w_pow (by decide) (by decide) (by decide) (w_nil ⟨Nat.le_of_ble_eq_true rfl, ?_⟩)))))))))))
      refine w_nil ⟨Nat.le_of_ble_eq_true rfl, ?_⟩
      refine w_addR (hg _ _) (lim_of (by simp only [List.length_map, List.length_append, List.length_take, List.length_cons, List.length_nil]; omega)) ?_
      rw [List.append_assoc s ext]
      refine ⟨hjl, _, _, _, _, _, _, _, _, _, _, rfl, Fnr.more, nr_app (nr_app (nr_app hl (nr_map fun m => nr_l _ _)) (nr_map fun i => nr_l _ _)) (nr_cons (nr_l _ _) (nr_cons (nr_l _ _) nr_nil)), ?_⟩
      simp only [List.length_map, List.length_append, List.length_take, List.length_cons, List.length_nil]
      omega
    · rintro e s' ⟨hj, v3, v4, v5, v6, v7, v8, v9, v10, v11, l, rfl, hf, hl, hll⟩
      refine ⟨v3, v4, v5, v6, v7, v8, v9, v10, v11, l, rfl, hf, hl, ?_⟩
      have : (rngD 0 (N.cs.map encC).length).items.length = N.cs.length := by simp [rngD]
      omega
  clear hf hl hll
  rintro e s1 ⟨v3, v4, v5, v6, v7, v8, v9, v10, v11, l, rfl, ⟨kk, ext, rfl, rfl, hk1, hk2⟩, hl, hll⟩
  refine o_seq (o_set (w_bin (w_var rfl ?_)))
  repeat (first | (with_reducible apply w_bin) | (with_reducible apply w_m1) | (with_reducible apply w_un) | (with_reducible apply w_cons) | (with_reducible apply w_nil) | (with_reducible apply w_callN) | ((with_reducible apply w_var); exact rfl) | (with_reducible apply w_c) | (with_reducible apply w_T) | (with_reducible apply w_NotT) | (with_reducible apply w_AndT) | (with_reducible apply w_OrT) | (with_reducible apply w_And) | (with_reducible apply w_Or) | (with_reducible apply w_Not) | (with_reducible apply w_If) | (with_reducible apply w_tup) | (with_reducible apply w_lstF) | (with_reducible apply w_noP) | (with_reducible apply w_part) | (with_reducible apply w_slice) | (with_reducible apply w_isN) | (with_reducible apply w_add) | (with_reducible apply w_sub) | (with_reducible apply w_gt) | (with_reducible apply w_lt) | (with_reducible apply w_ge) | (with_reducible apply w_le) | (with_reducible apply w_eqI) | (with_reducible apply w_neI) | (with_reducible apply w_eqS) | (with_reducible apply w_neS) | ((with_reducible apply x_ixT); exact rfl; exact rfl) | ((with_reducible apply x_ixL); exact rfl; exact rfl) | ((with_reducible apply x_lenT); exact rfl) | ((with_reducible apply x_lenL); exact rfl) | (with_reducible apply w_intI) | (with_reducible apply w_intB) | (with_reducible apply w_tupT) | (with_reducible apply w_tupL) | (with_reducible apply w_slT) | (with_reducible apply w_slL) | (with_reducible apply w_iSeq) | (with_reducible apply w_iRg1) | (with_reducible apply ex_bl) | (with_reducible apply ex_int) | (with_reducible apply ex_neg) | (with_reducible refine And.intro (Nat.le_of_ble_eq_true rfl) ?_) | (with_reducible refine And.intro (rfl : List.length _ = _) ?_))
  refine w_addR (es := oddL) hk2 (lim_of (by simp [oddL]; omega)) ?_
  refine o_seq (o_set (w_bin (w_var rfl ?_)))
  repeat (first | (with_reducible apply w_bin) | (with_reducible apply w_m1) | (with_reducible apply w_un) | (with_reducible apply w_cons) | (with_reducible apply w_nil) | (with_reducible apply w_callN) | ((with_reducible apply w_var); exact rfl) | (with_reducible apply w_c) | (with_reducible apply w_T) | (with_reducible apply w_NotT) | (with_reducible apply w_AndT) | (with_reducible apply w_OrT) | (with_reducible apply w_And) | (with_reducible apply w_Or) | (with_reducible apply w_Not) | (with_reducible apply w_If) | (with_reducible apply w_tup) | (with_reducible apply w_lstF) | (with_reducible apply w_noP) | (with_reducible apply w_part) | (with_reducible apply w_slice) | (with_reducible apply w_isN) | (with_reducible apply w_add) | (with_reducible apply w_sub) | (with_reducible apply w_gt) | (with_reducible apply w_lt) | (with_reducible apply w_ge) | (with_reducible apply w_le) | (with_reducible apply w_eqI) | (with_reducible apply w_neI) | (with_reducible apply w_eqS) | (with_reducible apply w_neS) | ((with_reducible apply x_ixT); exact rfl; exact rfl) | ((with_reducible apply x_ixL); exact rfl; exact rfl) | ((with_reducible apply x_lenT); exact rfl) | ((with_reducible apply x_lenL); exact rfl) | (with_reducible apply w_intI) | (with_reducible apply w_intB) | (with_reducible apply w_tupT) | (with_reducible apply w_tupL) | (with_reducible apply w_slT) | (with_reducible apply w_slL) | (with_reducible apply w_iSeq) | (with_reducible apply w_iRg1) | (with_reducible apply ex_bl) | (with_reducible apply ex_int) | (with_reducible apply ex_neg) | (with_reducible refine And.intro (Nat.le_of_ble_eq_true rfl) ?_) | (with_reducible refine And.intro (rfl : List.length _ = _) ?_))
  refine w_addR (es := oddM) (hg _ _) (lim_of (by simp [oddL, oddM]; omega)) ?_
  rw [List.append_assoc s ext, List.append_assoc s]
  have hl2 : ∀ d ∈ l ++ oddL ++ oddM, Nr d := nr_app (nr_app hl nr_oddL) nr_oddM
  have hnon : D.non ∈ l ++ oddL ++ oddM := by simp [oddL]
  have hll2 : (l ++ oddL ++ oddM).length ≤ 10100 := by simp [oddL, oddM]; omega
  have hg2 : (s ++ (ext ++ [Cell.lst (l ++ oddL)] ++ [.lst (l ++ oddL ++ oddM)]))[(s ++ (ext ++ [Cell.lst (l ++ oddL)])).length]? = some (.lst (l ++ oddL ++ oddM)) := by
    rw [← List.append_assoc s]
    exact hg _ _
  generalize (s ++ (ext ++ [Cell.lst (l ++ oddL)])).length = kb at hg2 ⊢
  generalize ext ++ [Cell.lst (l ++ oddL)] ++ [.lst (l ++ oddL ++ oddM)] = xt at hg2 ⊢
  generalize l ++ oddL ++ oddM = l2 at hl2 hll2 hg2 hnon
  have hposs := poss_len hN hw
  refine o_seq (o_set (w_callN (w_cons (w_var rfl (w_cons (w_var rfl (w_nil ⟨rfl, w_lpossible hN (hAs.ext _) hw (by omega) ?_⟩)))))))
  refine o_seq (o_set ?_)
  refine w_compTF l2 (keepP ((poss N w).map atD)) ?_ (by omega) ?_ ?_
  · refine w_iSeq (w_var rfl ⟨⟨l2, [(kb, l2)]⟩, by simp [iterOf, hg2], rfl, fun x => ?_, rfl⟩)
    have hlt := (List.getElem?_eq_some_iff.mp hg2).1
    unfold lockB
    rw [List.all_cons, List.all_nil, Bool.and_true, List.getElem?_append_left hlt, hg2]
    simp [cbeq_refl]
  · intro x hx
    obtain ⟨v, rfl, hv⟩ := hl2 x hx
    refine ⟨_, rfl, fun s' => ⟨?_, w_var rfl ⟨rfl, rfl⟩⟩⟩
    refine w_T (w_bin (w_var rfl (w_var rfl ?_)))
    rw [poss_T]
    refine w_lift (d := .bl (!inV v ((poss N w).map atD))) (s := s') ?_ ⟨_, rfl, ?_, rfl⟩
    · unfold oIn
      rw [in_dv]
      rfl
    · rw [keep_dv]
  have hsub : ∀ d ∈ l2.filter (keepP ((poss N w).map atD)), ∃ v, d = encDv v ∧ vOk v ∧ BadV N w v := fun d hd => by
    obtain ⟨h1, h2⟩ := List.mem_filter.mp hd
    obtain ⟨v, rfl, hv⟩ := hl2 d h1
    rw [keep_dv] at h2
    exact ⟨v, rfl, hv, by unfold BadV; simpa using h2⟩
  have hfl := List.length_filter_le (keepP ((poss N w).map atD)) l2
  have hpos : 0 < (l2.filter (keepP ((poss N w).map atD))).length := by
    exact List.length_pos_of_mem (List.mem_filter.mpr ⟨hnon, by rw [show D.non = encDv (.one .non) from rfl, keep_dv]; rfl⟩)
  generalize l2.filter (keepP ((poss N w).map atD)) = l3 at hsub hfl hpos
  have hP3 : Px cs k kc (S ++ (xt ++ [.lst l3])) (s ++ (xt ++ [.lst l3])) := h.ext _
  rw [List.append_assoc]
  refine o_ret (w_bin (w_var rfl (w_callN (w_cons (w_var rfl (w_cons (w_m1 (w_var rfl (w_lenR (ds := l3) ?_ (w_nil ⟨rfl, ?_⟩))))))))))
  · rw [← List.append_assoc]
    exact hg _ _
  refine w_take hP3 (by omega) (by omega) fun s3 r h3 hr => ?_
  obtain ⟨d, hd⟩ : ∃ d, l3[r]? = some d := ⟨l3[r]'(by omega), by simp⟩
  obtain ⟨v, rfl, hv, hb⟩ := hsub d (List.mem_of_getElem? hd)
  have hlS : (s ++ xt).length = (S ++ xt).length := by rw [List.length_append, List.length_append, hl0]
  refine w_ixR (ds := l3) ?_ (by rw [at_nat]; exact hd) (fin_px h h3 (pl_Dv v) fun s4 h4 => q s4 v h4 hv hb)
  rw [h3.get (by rw [List.length_append]; omega), hlS, ← List.append_assoc]
  exact hg _ _
end
end K

namespace K
open PySem Cw
variable {X : Nat → D → Sto → Prop}
/-- tuples within tuples, of numbers, texts and None -/
def tt : Nat → D → Bool
  | k + 1, .tup ds => decide (ds.length < 100000) && ds.all (tt k)
  | _, .int _ => true
  | _, .str _ => true
  | _, .non => true
  | _, _ => false
theorem pl_tt : ∀ (k : Nat) (d : D), tt k d = true → pl d = true
  | k + 1, .tup ds, h => by
    unfold tt at h
    unfold pl
    rw [plL_iff]
    obtain ⟨_, h⟩ := Bool.and_eq_true_iff.mp h
    exact fun x hx => pl_tt k x (List.all_eq_true.mp h x hx)
  | 0, .tup ds, h => by simp [tt] at h
  | k, .int _, _ => rfl
  | k, .str _, _ => rfl
  | k, .non, _ => rfl
  | k, .lst _, h => by cases k <;> simp [tt] at h
  | k, .bl _, h => by cases k <;> simp [tt] at h
  | k, .scr _, h => by cases k <;> simp [tt] at h
  | k, .obj _ _ _, h => by cases k <;> simp [tt] at h
  | k, .ref _, h => by cases k <;> simp [tt] at h
  | k, .exn _ _, h => by cases k <;> simp [tt] at h
theorem at_ds {ds : List D} {j : Nat} (h : j < ds.length) : L2.atI ds (j : Int) = some ds[j] := by
  rw [at_nat]
  simp [h]
theorem w_same : ∀ (n k : Nat) (d : D) (s : Sto) {X : Nat → D → Sto → Prop} {Q : D → Sto → Prop}, k < n → tt k d = true → Q (.bl true) s → wx X (m__law_same n [d, d] s) Q
  | 0, _, _, _, _, _, h, _, _ => absurd h (Nat.not_lt_zero _)
  | n + 1, k, d, s, X, Q, hn, h, q => by
    show wx X (runF false 3 (mb__law_same (m__law_same n)) [d, d] s) Q
    refine w_run ?_
    show wo (mb__law_same (m__law_same n) [some d, some d, none] s) _ _ _ _
    unfold mb__law_same
    cases d with
    | tup ds =>
      cases k with
      | zero => simp [tt] at h
      | succ k =>
        unfold tt at h
        obtain ⟨h1, h2⟩ := Bool.and_eq_true_iff.mp h
        have h1 := of_decide_eq_true h1
        have h2 := List.all_eq_true.mp h2
        refine o_seq ?_; refine o_if ?_; refine w_T ?_; refine w_m1 ?_; refine w_var rfl ?_; refine w_isiT rfl ?_; refine ex_bl ?_; refine if_T ?_; refine o_seq ?_; refine o_if ?_; refine w_OrT ?_; refine w_NotT ?_; refine w_T ?_; refine w_m1 ?_; refine w_var rfl ?_; refine w_isiT rfl ?_; refine ex_bl ?_; refine if_nT ?_; refine w_T ?_; refine w_bin ?_; refine w_m1 ?_; refine w_var rfl ?_; refine x_lenT rfl ?_; refine w_m1 ?_; refine w_var rfl ?_; refine x_lenT rfl ?_; refine w_neI_f ?_; refine ex_bl ?_; refine if_F ?_; refine o_nil ?_; refine o_seq ?_
        refine o_for ?_
        refine w_iRg1 ?_; refine w_m1 ?_; refine w_var rfl ?_; refine x_lenT rfl ?_; refine ex_nat ?_
        refine ⟨by omega, fun _ e s' => s' = s ∧ ∃ v, e = [some (.tup ds), some (.tup ds), v], ⟨rfl, none, rfl⟩, fun _ _ _ _ => rfl, ?_, ?_⟩
        · rintro j x hx e s' ⟨rfl, v, rfl⟩
          obtain ⟨hj, rfl⟩ := rng_at hx
          have ha := at_ds hj
          refine ⟨_, _, rfl, ?_⟩
          refine o_if ?_; refine w_NotT ?_; refine w_T ?_; refine w_callN ?_; refine w_cons ?_; refine w_bin ?_; refine w_var rfl ?_; refine w_var rfl ?_; refine x_ixT rfl (by assumption) ?_; refine w_cons ?_; refine w_bin ?_; refine w_var rfl ?_; refine w_var rfl ?_; refine x_ixT rfl (by assumption) ?_; refine w_nil ?_; refine And.intro (rfl : List.length _ = _) ?_
          refine w_same n k ds[j] s' (by omega) (h2 _ (List.getElem_mem hj)) ?_
          refine ex_bl ?_; refine if_nT ?_; refine o_nil ?_
          exact ⟨rfl, _, rfl⟩
        · rintro e s' ⟨rfl, v, rfl⟩
          refine o_ret ?_; refine w_c ?_
          exact fin_same rfl q
    | non =>
      refine o_seq ?_; refine o_if ?_; refine w_T ?_; refine w_m1 ?_; refine w_var rfl ?_; refine w_isiF rfl ?_; refine ex_bl ?_; refine if_F ?_; refine o_nil ?_; refine o_seq ?_; refine o_if ?_; refine w_T ?_; refine w_isM ?_; refine w_var rfl ?_; refine nI_nonF ?_; refine ex_bl ?_; refine if_T ?_; refine o_ret ?_; refine w_isM ?_; refine w_var rfl ?_; refine nI_nonF ?_
      exact fin_same rfl q
    | str x =>
      refine o_seq ?_; refine o_if ?_; refine w_T ?_; refine w_m1 ?_; refine w_var rfl ?_; refine w_isiF rfl ?_; refine ex_bl ?_; refine if_F ?_; refine o_nil ?_; refine o_seq ?_; refine o_if ?_; refine w_T ?_; refine w_isM ?_; refine w_var rfl ?_; refine nI_str ?_; refine ex_bl ?_; refine if_F ?_; refine o_nil ?_; refine o_seq ?_; refine o_if ?_; refine w_T ?_; refine w_m1 ?_; refine w_var rfl ?_; refine w_isiT rfl ?_; refine ex_bl ?_; refine if_T ?_; refine o_ret ?_; refine w_And ?_; refine w_m1 ?_; refine w_var rfl ?_; refine w_isiT rfl ?_; refine ex_bl ?_; refine if_T ?_; refine w_bin ?_; refine w_var rfl ?_; refine w_var rfl ?_; refine w_eqS_t ?_
      exact fin_same rfl q
    | int x =>
      refine o_seq ?_; refine o_if ?_; refine w_T ?_; refine w_m1 ?_; refine w_var rfl ?_; refine w_isiF rfl ?_; refine ex_bl ?_; refine if_F ?_; refine o_nil ?_; refine o_seq ?_; refine o_if ?_; refine w_T ?_; refine w_isM ?_; refine w_var rfl ?_; refine nI_int ?_; refine ex_bl ?_; refine if_F ?_; refine o_nil ?_; refine o_seq ?_; refine o_if ?_; refine w_T ?_; refine w_m1 ?_; refine w_var rfl ?_; refine w_isiF rfl ?_; refine ex_bl ?_; refine if_F ?_; refine o_nil ?_; refine o_ret ?_; refine w_And ?_; refine w_m1 ?_; refine w_var rfl ?_; refine w_isiT rfl ?_; refine ex_bl ?_; refine if_T ?_; refine w_And ?_; refine w_Not ?_; refine w_m1 ?_; refine w_var rfl ?_; refine w_isiF rfl ?_; refine ex_bl ?_; refine ex_bl ?_; refine if_nF ?_; refine w_bin ?_; refine w_var rfl ?_; refine w_var rfl ?_; refine w_eqI_t ?_
      exact fin_same rfl q
    | _ => cases k <;> simp [tt] at h
end K

namespace K
open PySem Cw
variable {X : Nat → D → Sto → Prop}
def toldD (x : D) : D := .tup [.str ("told" : Str), x]
def stepD (n : Nat) : D := .tup [.str ("step" : Str), .int n]
theorem pl_told {x : D} (h : pl x = true) : pl (toldD x) = true := by simp [toldD, pl, plL, h]
theorem tt_step (n : Nat) : tt 1 (stepD n) = true := rfl
theorem tt_tup {k : Nat} {ds : List D} (h : ds.length < 100000) (ha : ∀ d ∈ ds, tt k d = true) : tt (k + 1) (.tup ds) = true := by
  unfold tt
  rw [Bool.and_eq_true, decide_eq_true_eq, List.all_eq_true]
  exact ⟨h, ha⟩
theorem tt_map {α : Type} {k : Nat} {f : α → D} {l : List α} (h : l.length < 100000) (ha : ∀ a ∈ l, tt k (f a) = true) : tt (k + 1) (.tup (l.map f)) = true :=
  tt_tup (by rw [List.length_map]; exact h) fun d hd => by
    obtain ⟨a, ha', rfl⟩ := List.mem_map.mp hd
    exact ha a ha'
theorem tt_int (k : Nat) (i : Int) : tt k (.int i) = true := by cases k <;> rfl
theorem tt_str (k : Nat) (i : Str) : tt k (.str i) = true := by cases k <;> rfl
theorem tt_up : ∀ (k : Nat) (d : D), tt k d = true → tt (k + 1) d = true
  | 0, .tup ds, h => by simp [tt] at h
  | k + 1, .tup ds, h => by
    unfold tt at h ⊢
    rw [Bool.and_eq_true, decide_eq_true_eq, List.all_eq_true] at h ⊢
    exact ⟨h.1, fun x hx => tt_up k x (h.2 x hx)⟩
  | k, .int _, _ => rfl
  | k, .str _, _ => rfl
  | k, .non, _ => rfl
  | k, .lst _, h => by cases k <;> simp [tt] at h
  | k, .bl _, h => by cases k <;> simp [tt] at h
  | k, .scr _, h => by cases k <;> simp [tt] at h
  | k, .obj _ _ _, h => by cases k <;> simp [tt] at h
  | k, .ref _, h => by cases k <;> simp [tt] at h
  | k, .exn _ _, h => by cases k <;> simp [tt] at h
theorem tt_le {j k : Nat} {d : D} (h : tt j d = true) (hk : j ≤ k) : tt k d = true := by
  induction hk with
  | refl => exact h
  | step _ ih => exact tt_up _ _ ih
theorem tt_N {l : List Nat} (h : l.length < 100000) : tt 1 (encN true l) = true := tt_map h fun _ _ => tt_int 0 _
theorem tt_W {N : Net} {n : Nat} {w : Wd} (hN : NetOk N) (h : WdOk N n w) (hn : n < 10000) : tt 4 (encW true w) = true := by
  have h5 := hN.p5
  have h8 := hN.c8
  have a1 := h.st
  have a2 := h.se
  have a3 := h.pr
  refine tt_tup (by simp) fun d hd => ?_
  simp only [List.mem_cons, List.not_mem_nil, or_false] at hd
  rcases hd with rfl | rfl | rfl
  · exact tt_le (tt_N (by omega)) (by decide)
  · exact tt_le (tt_N (by omega)) (by decide)
  · refine tt_map (k := 2) (by omega) fun r hr => ?_
    refine tt_map (k := 1) (Nat.lt_of_le_of_lt (h.row r hr) (by omega)) fun m _ => ?_
    exact tt_tup (by simp) fun d hd => by
      simp only [List.mem_cons, List.not_mem_nil, or_false] at hd
      rcases hd with rfl | rfl <;> rfl
section
variable {Q : D → Sto → Prop}
theorem w_dictE {ks : List L2.Key} {g : EM (List D)} {env : En} {st : Sto} (h : wx X (g env (st ++ [.dK [] []])) fun ds s1 => s1 = st ++ [.dK [] []] ∧ ds.length = ks.length ∧ Q (.ref st.length) (st ++ [.dK ks ds])) : wx X (mDict ks g env st) Q :=
  w_dict (w_mono h fun ds s ⟨e, h1, q⟩ => ⟨st, e, rfl, h1, q⟩)
end
section
variable {Q : D → Sto → Prop}
theorem w_pool {ns : List Int} (hn : ns.length ≤ 63) (q : ∀ (cs : List Int) (k kc : Nat) (s : Sto), Px cs k kc s s → Q (.ref k) s) : wx X (m__law_pool [.scr ns] []) Q := by
  unfold m__law_pool
  refine w_runK ?_
  show wo (mb__law_pool [some (.scr ns), none, none, none] []) _ _ _ _
  unfold mb__law_pool
  refine o_seq ?_; refine o_set ?_; refine w_c ?_; refine o_seq ?_
  refine o_for ?_
  refine w_iSeq ?_; refine w_var rfl ?_; refine ex_iter rfl ?_
  refine ⟨fun _ e s' => s' = [] ∧ ∃ (i : Int) (v2 : Option D), e = [some (.scr ns), some (.int i), v2, none], ⟨rfl, _, none, rfl⟩, fun _ _ _ _ => rfl, ?_, ?_⟩
  · rintro j x hx e s' ⟨rfl, i, v2, rfl⟩
    simp only [List.getElem?_map] at hx
    obtain ⟨y, _, rfl⟩ := Option.map_eq_some_iff.mp hx
    refine ⟨_, _, rfl, ?_⟩
    refine o_set ?_; refine w_bin ?_; refine w_m1 ?_; refine w_bin ?_; refine w_bin ?_; refine w_var rfl ?_; refine w_c ?_
    refine mul_big (.inr (by decide)) ?_
    refine w_var rfl ?_; refine w_add ?_; refine w_intI ?_; refine w_c ?_
    refine w_mod (by decide) ?_
    exact ⟨rfl, _, _, rfl⟩
  rintro e s' ⟨rfl, i, v2, rfl⟩
  refine o_seq ?_; refine o_set ?_; refine w_m1 ?_; refine w_var rfl ?_
  refine w_lift (d := .ref 0) (s := [.lst (ns.map D.int)]) rfl ?_
  refine o_cut (fun e s' => ∃ (cs : List Int) (kc : Nat), s'[kc]? = some (.lst (cs.map D.int)) ∧ cs.length ≤ 63 ∧ e = [some (.scr ns), some (.int i), v2, some (.ref kc)]) ?_ ?_
  · have h0 : ([Cell.lst (ns.map D.int)])[0]? = some (.lst (ns.map D.int)) := rfl
    refine o_if ?_; refine w_AndT ?_; refine w_T ?_; refine w_bin ?_; refine w_m1 ?_; refine w_var rfl ?_; refine w_lenR (by assumption) ?_; refine w_c ?_; refine w_gt ?_; refine ex_bl ?_
    rw [List.length_map]
    refine if_d (fun hl => ?_) fun _ => ?_
    · obtain ⟨a, r, rfl⟩ : ∃ a r, ns = a :: r := by
        cases ns with
        | nil => simp at hl
        | cons a r => exact ⟨a, r, rfl⟩
      have hx : L2.atI ((a :: r).map D.int) 0 = some (.int a) := at0 _ _
      refine w_T ?_; refine w_bin ?_; refine w_bin ?_; refine w_m1 ?_; refine w_bin ?_; refine w_var rfl ?_; refine w_c ?_; refine x_ixR (by assumption) (by assumption) ?_; refine w_intI ?_; refine w_c ?_
      refine w_mod (by decide) ?_
      refine w_c ?_; refine w_eqI ?_; refine ex_bl ?_
      refine if_d (fun _ => ?_) fun _ => ?_
      · refine o_set ?_; refine w_lstT ?_; refine w_nil ?_; refine And.intro (Nat.le_of_ble_eq_true rfl) ?_
        exact ⟨[], 1, rfl, by simp, rfl⟩
      · refine o_nil ?_
        exact ⟨_, 0, h0, hn, rfl⟩
    · refine if_F ?_; refine o_nil ?_
      exact ⟨_, 0, h0, hn, rfl⟩
  rintro e s1 ⟨cs, kc, hc, h63, rfl⟩
  refine o_cut (fun e s' => ∃ (cs : List Int) (kc : Nat), s'[kc]? = some (.lst (cs.map D.int)) ∧ e = [some (.scr ns), some (.int i), v2, some (.ref kc)]) ?_ ?_
  · refine o_if ?_; refine w_T ?_; refine w_bin ?_; refine w_m1 ?_; refine w_var rfl ?_; refine w_lenR (by assumption) ?_; refine w_c ?_; refine w_gt ?_; refine ex_bl ?_
    rw [List.length_map]
    refine if_d (fun hl => ?_) fun _ => ?_
    · obtain ⟨a, r, rfl⟩ : ∃ a r, cs = a :: r := by
        cases cs with
        | nil => simp at hl
        | cons a r => exact ⟨a, r, rfl⟩
      have hx : L2.atI ((a :: r).map D.int) 0 = some (.int a) := at0 _ _
      refine o_asg ?_; refine w_bin ?_; refine w_bin ?_; refine w_var rfl ?_; refine w_c ?_; refine x_ixR (by assumption) (by assumption) ?_; refine w_c ?_
      refine w_fdiv ⟨by decide, by decide⟩ ?_
      refine ⟨_, _, g_setR (i := 0) rfl rfl hc (by simp), ?_⟩
      refine ⟨a / 2 :: r, kc, ?_, rfl⟩
      rw [List.getElem?_set_self (List.getElem?_eq_some_iff.mp hc).1]
      rfl
    · refine o_nil ?_
      exact ⟨_, kc, hc, rfl⟩
  clear hc h63
  rintro e s1 ⟨cs, kc, hc, rfl⟩
  have hlt := (List.getElem?_eq_some_iff.mp hc).1
  refine o_ret ?_
  refine w_dictE ?_
  refine w_cons ?_; refine w_var rfl ?_; refine w_cons ?_; refine w_c ?_; refine w_cons ?_; refine w_c ?_; refine w_cons ?_; refine w_c ?_; refine w_cons ?_; refine w_c ?_; refine w_cons ?_; refine w_var rfl ?_; refine w_cons ?_; refine w_c ?_; refine w_nil ?_
  refine ⟨rfl, rfl, ?_⟩
  refine q cs s1.length kc _ ⟨by simp, hlt, by rw [List.getElem?_append_left hlt]; exact hc, 0, 0, 0, true, i, 0, ?_, by decide, by decide⟩
  rw [List.set_append_right _ _ (Nat.le_refl _), Nat.sub_self]
  rfl
end
end K

namespace K
open PySem Cw
variable {X : Nat → D → Sto → Prop}
/-! ### lanes -/
structure Lane (N : Net) : Prop where
  two : N.ps.length = 2
  s0 : ∀ ru ∈ N.rs, ru.s = 0 ∧ ru.s2 = 0
  snd : ∃ ru ∈ N.rs, isTake ru.a = false
def okL (m : Nat) (ru : Rule) : Prop := ∃ c t, c < m ∧ t < 10 ∧ (ru = ⟨0, 0, .send c t, 0⟩ ∨ ru = ⟨1, 0, .take c t, 0⟩)
theorem okL.up {m n : Nat} {ru : Rule} (h : okL m ru) (hm : m ≤ n) : okL n ru := by
  obtain ⟨c, t, h1, h2⟩ := h
  exact ⟨c, t, by omega, h2⟩
section
variable {cs : List Int} {k kc : Nat} {S s : Sto} {Q : D → Sto → Prop}
theorem w_lanes (h : Px cs k kc S s) (q : ∀ (s' : Sto) (N : Net) (nd : Nat) (xt : Sto), Px cs k kc (S ++ xt) s' → NetOk N → NA k N nd (S ++ xt) → Lane N → Q (.ref nd) s') : wx X (m__law_lanes [.ref k] s) Q := by
  have hkS := h.1
  have hkc := h.2.1
  unfold m__law_lanes
  refine w_runK ?_
  show wo (mb__law_lanes [some (.ref k), none, none, none, none, none, none, none, none] s) _ _ _ _
  unfold mb__law_lanes
  refine o_seq ?_; refine o_set ?_; refine w_callN ?_; refine w_cons ?_; refine w_var rfl ?_; refine w_cons ?_; refine w_c ?_; refine w_nil ?_; refine And.intro (rfl : List.length _ = _) ?_
  refine w_names (m := 5) h (by decide) fun s1 ss h1 n1 n2 n3 => ?_
  have hl1 := h1.len
  refine o_seq ?_; refine o_set ?_; refine w_lstT ?_; refine w_nil ?_; refine And.intro (Nat.le_of_ble_eq_true rfl) ?_; refine o_seq ?_; refine o_set ?_; refine w_lstT ?_; refine w_nil ?_; refine And.intro (Nat.le_of_ble_eq_true rfl) ?_; refine o_seq ?_
  rw [List.length_append, hl1, List.append_assoc]
  have h2 : Px cs k kc (S ++ [.lst [], .lst []]) (s1 ++ ([.lst []] ++ [.lst []])) := h1.ext _
  have ga : ∀ a b : List D, (S ++ [Cell.lst a, .lst b])[S.length]? = some (.lst a) := fun a b => by simp
  have gb : ∀ a b : List D, (S ++ [Cell.lst a, .lst b])[S.length + 1]? = some (.lst b) := fun a b => by simp
  have pa : ∀ a b x : List D, (S ++ [Cell.lst a, .lst b]).set S.length (.lst x) = S ++ [.lst x, .lst b] := fun a b x => by simp
  have pb : ∀ a b x : List D, (S ++ [Cell.lst a, .lst b]).set (S.length + 1) (.lst x) = S ++ [.lst a, .lst x] := fun a b x => by simp
  have na : S.length ≠ k := by omega
  have nb : S.length + 1 ≠ k := by omega
  have nac : S.length ≠ kc := by omega
  have nbc : S.length + 1 ≠ kc := by omega
  refine o_for ?_
  refine w_iRg1 ?_; refine w_bin ?_; refine w_c ?_; refine w_callN ?_; refine w_cons ?_; refine w_var rfl ?_; refine w_cons ?_; refine w_c ?_; refine w_nil ?_; refine And.intro (rfl : List.length _ = _) ?_
  refine w_take h2 (by decide) (by decide) fun s2 z h3 hz => ?_
  refine w_add ?_
  refine ⟨1 + z, by rw [Int.natCast_add]; rfl, by omega, fun j e s' => j ≤ 1 + z ∧ ∃ (chs : List Chan) (rs : List Rule) (v4 v6 v7 v8 : Option D), e = [some (.ref k), some (.lst (ss.map D.str)), some (.ref S.length), some (.ref (S.length + 1)), v4, none, v6, v7, v8] ∧ Px cs k kc (S ++ [.lst (chs.map encC), .lst (rs.map encR)]) s' ∧ chs.map (·.nm) = (ss.drop 2).take j ∧ (∀ ch ∈ chs, ch.giver = 0 ∧ ch.taker = 1) ∧ rs.length = 4 * j ∧ (∀ ru ∈ rs, okL chs.length ru) ∧ (1 ≤ j → ∃ ru ∈ rs, isTake ru.a = false), ⟨Nat.zero_le _, [], [], none, none, none, none, rfl, h3, by simp, by simp, rfl, by simp, by omega⟩, fun _ _ _ _ => rfl, ?_, ?_⟩
  · rintro j x hx e s3 ⟨hj, chs, rs, v4, v6, v7, v8, rfl, h4, c1, c2, r1, r2, r3⟩
    obtain ⟨hjl, rfl⟩ := rng_at hx
    have hcl : chs.length = j := by
      have := congrArg List.length c1
      rw [List.length_map, List.length_take, List.length_drop] at this
      omega
    obtain ⟨y, hy⟩ : ∃ y, ss[2 + j]? = some y := ⟨ss[2 + j]'(by omega), by simp⟩
    refine ⟨_, _, rfl, ?_⟩
    refine o_seq ?_; refine o_set ?_; refine w_bin ?_; refine w_lstF ?_; refine w_cons ?_; refine w_c ?_; refine w_cons ?_; refine w_c ?_; refine w_cons ?_; refine w_c ?_; refine w_cons ?_; refine w_c ?_; refine w_nil ?_; refine And.intro (Nat.le_of_ble_eq_true rfl) ?_; refine w_callN ?_; refine w_cons ?_; refine w_var rfl ?_; refine w_cons ?_; refine w_c ?_; refine w_nil ?_; refine And.intro (rfl : List.length _ = _) ?_
    refine w_take h4 (by decide) (by decide) fun s4 u h5 hu => ?_
    refine w_ixL (kinds_at (by omega)) ?_
    have g1 := (h5.get na).trans (ga _ _)
    have g2 := (h5.get nb).trans (gb _ _)
    refine o_seq ?_; refine o_expr ?_; refine w_meth ?_; refine w_var rfl ?_; refine And.intro (tyM_r (by assumption)) ?_; refine w_cons ?_; refine w_tup ?_; refine w_cons ?_; refine w_bin ?_; refine w_var rfl ?_; refine w_bin ?_; refine w_c ?_; refine w_var rfl ?_; refine w_add ?_; refine x_ixL rfl (at_e (by assumption)) ?_; refine w_cons ?_; refine w_c ?_; refine w_cons ?_; refine w_c ?_; refine w_cons ?_; refine w_var rfl ?_; refine w_nil ?_; refine And.intro (Nat.le_of_ble_eq_true rfl) ?_; refine w_nil ?_
    refine w_app g1 (lim_lt (by rw [List.length_map]; omega)) ?_
    have h6 := h5.put (c := .lst ((chs ++ [Chan.mk y 0 1 u]).map encC)) na nac
    rw [pa] at h6
    rw [show chs.map encC ++ [D.tup [.str y, .int 0, .int 1, .str (kindOf u)]] = (chs ++ [Chan.mk y 0 1 u]).map encC by simp [encR, encA, encC, kindOf]]
    refine o_seq ?_; refine o_set ?_; refine w_lstF ?_; refine w_cons ?_; refine w_callN ?_; refine w_cons ?_; refine w_var rfl ?_; refine w_cons ?_; refine w_c ?_; refine w_nil ?_; refine And.intro (rfl : List.length _ = _) ?_
    refine w_take h6 (by decide) (by decide) fun s7 t1 h7 ht1 => ?_
    refine w_cons ?_; refine w_callN ?_; refine w_cons ?_; refine w_var rfl ?_; refine w_cons ?_; refine w_c ?_; refine w_nil ?_; refine And.intro (rfl : List.length _ = _) ?_
    refine w_take h7 (by decide) (by decide) fun s8 t2 h8 ht2 => ?_
    refine w_nil ?_; refine And.intro (Nat.le_of_ble_eq_true rfl) ?_
    refine o_for ?_
    refine w_iSeq ?_; refine w_var rfl ?_; refine ex_iter rfl ?_
    refine ⟨fun i e s' => i ≤ 2 ∧ ∃ (rs' : List Rule) (v8 : Option D), e = [some (.ref k), some (.lst (ss.map D.str)), some (.ref S.length), some (.ref (S.length + 1)), some (.int j), none, some (.str (kindOf u)), some (.lst [.int t1, .int t2]), v8] ∧ Px cs k kc (S ++ [.lst ((chs ++ [Chan.mk y 0 1 u]).map encC), .lst (rs'.map encR)]) s' ∧ rs'.length = 4 * j + 2 * i ∧ (∀ ru ∈ rs', okL (j + 1) ru) ∧ (1 ≤ i → ∃ ru ∈ rs', isTake ru.a = false), ⟨Nat.zero_le _, rs, v8, rfl, h8, r1, fun ru hru => (r2 ru hru).up (by omega), by omega⟩, fun _ _ _ _ => rfl, ?_, ?_⟩
    · rintro i x hx e s9 ⟨hi, rs', v8, rfl, h9, q1, q2, q3⟩
      obtain ⟨t, ht, rfl⟩ : ∃ t : Nat, t < 10 ∧ x = .int t := by
        have := List.mem_of_getElem? hx
        simp only [List.mem_cons, List.not_mem_nil, or_false] at this
        rcases this with rfl | rfl
        · exact ⟨t1, by omega, rfl⟩
        · exact ⟨t2, by omega, rfl⟩
      have hi2 : i < 2 := (List.getElem?_eq_some_iff.mp hx).1
      have g3 := (h9.get nb).trans (gb _ _)
      refine ⟨_, _, rfl, ?_⟩
      refine o_seq ?_; refine o_expr ?_; refine w_meth ?_; refine w_var rfl ?_; refine And.intro (tyM_r (by assumption)) ?_; refine w_cons ?_; refine w_tup ?_; refine w_cons ?_; refine w_c ?_; refine w_cons ?_; refine w_c ?_; refine w_cons ?_; refine w_tup ?_; refine w_cons ?_; refine w_c ?_; refine w_cons ?_; refine w_var rfl ?_; refine w_cons ?_; refine w_var rfl ?_; refine w_nil ?_; refine And.intro (Nat.le_of_ble_eq_true rfl) ?_; refine w_cons ?_; refine w_c ?_; refine w_nil ?_; refine And.intro (Nat.le_of_ble_eq_true rfl) ?_; refine w_nil ?_
      refine w_app g3 (lim_lt (by rw [List.length_map]; omega)) ?_
      have h10 := h9.put (c := .lst ((rs' ++ [Rule.mk 0 0 (.send j t) 0]).map encR)) nb nbc
      rw [pb] at h10
      rw [show rs'.map encR ++ [D.tup [.int 0, .int 0, .tup [.str "send", .int j, .int t], .int 0]] = (rs' ++ [Rule.mk 0 0 (.send j t) 0]).map encR by simp [encR, encA, encC, kindOf]]
      have g4 := (h10.get nb).trans (gb _ _)
      refine o_expr ?_; refine w_meth ?_; refine w_var rfl ?_; refine And.intro (tyM_r (by assumption)) ?_; refine w_cons ?_; refine w_tup ?_; refine w_cons ?_; refine w_c ?_; refine w_cons ?_; refine w_c ?_; refine w_cons ?_; refine w_tup ?_; refine w_cons ?_; refine w_c ?_; refine w_cons ?_; refine w_var rfl ?_; refine w_cons ?_; refine w_var rfl ?_; refine w_nil ?_; refine And.intro (Nat.le_of_ble_eq_true rfl) ?_; refine w_cons ?_; refine w_c ?_; refine w_nil ?_; refine And.intro (Nat.le_of_ble_eq_true rfl) ?_; refine w_nil ?_
      refine w_app g4 (lim_lt (by rw [List.length_map, List.length_append]; simp; omega)) ?_
      have h11 := h10.put (c := .lst ((rs' ++ [Rule.mk 0 0 (.send j t) 0] ++ [Rule.mk 1 0 (.take j t) 0]).map encR)) nb nbc
      rw [pb] at h11
      rw [show (rs' ++ [Rule.mk 0 0 (.send j t) 0]).map encR ++ [D.tup [.int 1, .int 0, .tup [.str "take", .int j, .int t], .int 0]] = (rs' ++ [Rule.mk 0 0 (.send j t) 0] ++ [Rule.mk 1 0 (.take j t) 0]).map encR by simp [encR, encA, encC, kindOf]]
      refine ⟨hi2, _, _, rfl, h11, by simp; omega, fun ru hru => ?_, fun _ => ⟨⟨0, 0, .send j t, 0⟩, by simp, rfl⟩⟩
      simp only [List.mem_append, List.mem_singleton] at hru
      rcases hru with (hru | rfl) | rfl
      · exact q2 ru hru
      · exact ⟨j, t, by omega, ht, .inl rfl⟩
      · exact ⟨j, t, by omega, ht, .inr rfl⟩
    · rintro e s9 ⟨_, rs', v8, rfl, h9, q1, q2, q3⟩
      refine ⟨hjl, _, rs', _, _, _, _, rfl, h9, ?_, fun ch hch => ?_, by rw [q1]; simp; omega, by rw [List.length_append, hcl]; exact q2, fun _ => q3 (by simp)⟩
      · rw [List.map_append, c1, List.take_add_one, List.getElem?_drop, hy]
        rfl
      · rcases List.mem_append.mp hch with hch | hch
        · exact c2 ch hch
        · rw [List.mem_singleton.mp hch]
          exact ⟨rfl, rfl⟩
  · rintro e s3 ⟨_, chs, rs, v4, v6, v7, v8, rfl, h4, c1, c2, r1, r2, r3⟩
    rw [rng_len] at c1 r1 r3
    have hcl : chs.length = 1 + z := by
      have := congrArg List.length c1
      rw [List.length_map, List.length_take, List.length_drop] at this
      omega
    have g1 := (h4.get na).trans (ga _ _)
    have g2 := (h4.get nb).trans (gb _ _)
    refine o_seq ?_; refine o_set ?_; refine w_callN ?_; refine w_cons ?_; refine w_var rfl ?_; refine w_cons ?_; refine w_m1 ?_; refine w_var rfl ?_; refine w_lenR (by assumption) ?_; refine w_nil ?_; refine And.intro (rfl : List.length _ = _) ?_
    rw [List.length_map]
    refine w_take h4 (by omega) (by omega) fun s4 at' h5 hat => ?_
    refine o_ret ?_
    obtain ⟨a0, a1, a2, a3, a4, rfl⟩ : ∃ a0 a1 a2 a3 a4, ss = [a0, a1, a2, a3, a4] := by
      match ss, n1 with
      | [a0, a1, a2, a3, a4], _ => exact ⟨a0, a1, a2, a3, a4, rfl⟩
    have hl4 : s4.length = S.length + 2 := by
      rw [h5.len]
      simp
    have g1' : (s4 ++ [Cell.dK [] []])[S.length]? = some (.lst (chs.map encC)) := by
      rw [List.getElem?_append_left (by omega)]
      exact (h5.get na).trans (ga _ _)
    have g2' : (s4 ++ [Cell.dK [] []])[S.length + 1]? = some (.lst (rs.map encR)) := by
      rw [List.getElem?_append_left (by omega)]
      exact (h5.get nb).trans (gb _ _)
    refine w_dictE ?_
    refine w_cons ?_; refine w_lstF ?_; refine w_cons ?_; refine w_tup ?_; refine w_cons ?_; refine w_bin ?_; refine w_var rfl ?_; refine w_c ?_; refine x_ixL rfl rfl ?_; refine w_cons ?_; refine w_c ?_; refine w_nil ?_; refine And.intro (Nat.le_of_ble_eq_true rfl) ?_; refine w_cons ?_; refine w_tup ?_; refine w_cons ?_; refine w_bin ?_; refine w_var rfl ?_; refine w_c ?_; refine x_ixL rfl rfl ?_; refine w_cons ?_; refine w_c ?_; refine w_nil ?_; refine And.intro (Nat.le_of_ble_eq_true rfl) ?_; refine w_nil ?_; refine And.intro (Nat.le_of_ble_eq_true rfl) ?_; refine w_cons ?_; refine w_var rfl ?_; refine w_cons ?_; refine w_bin ?_; refine w_slice ?_; refine w_var rfl ?_; refine w_part ?_; refine w_var rfl ?_; refine ex_int ?_; refine w_noP ?_; refine y_slF (rw_r (by assumption)) ?_; refine w_slice ?_; refine w_var rfl ?_; refine w_noP ?_; refine w_part ?_; refine w_var rfl ?_; refine ex_int ?_; refine y_slF (rw_r (by assumption)) ?_
    rw [cut_from, cut_to]
    have hrl : (rs.map encR).length ≤ 12 := by rw [List.length_map]; omega
    refine y_addF rw_l rw_l (lim2 (by simp only [List.length_drop, List.length_take]; omega)) ?_
    refine w_nil ?_
    refine ⟨rfl, rfl, ?_⟩
    rw [hl4]
    have h6 := h5.ext [.dK netKs [.lst [.tup [.str a0, .int 1], .tup [.str a1, .int 1]], .ref S.length, .lst (List.drop at' (rs.map encR) ++ List.take at' (rs.map encR))]]
    have es : S ++ [Cell.lst (chs.map encC), .lst (rs.map encR)] ++ [.dK netKs [.lst [.tup [.str a0, .int 1], .tup [.str a1, .int 1]], .ref S.length, .lst (List.drop at' (rs.map encR) ++ List.take at' (rs.map encR))]] = S ++ [Cell.lst (chs.map encC), .lst (rs.map encR), .dK netKs [.lst [.tup [.str a0, .int 1], .tup [.str a1, .int 1]], .ref S.length, .lst (List.drop at' (rs.map encR) ++ List.take at' (rs.map encR))]] := by simp
    rw [es] at h6
    have gd : ∀ a b c : Cell, (S ++ [a, b, c])[S.length + 2]? = some c := fun a b c => by simp
    have hmem : ∀ ru, ru ∈ rs.drop at' ++ rs.take at' → ru ∈ rs := fun ru hru => by
      rcases List.mem_append.mp hru with hru | hru
      · exact List.mem_of_mem_drop hru
      · exact List.mem_of_mem_take hru
    have hmem2 : ∀ ru, ru ∈ rs → ru ∈ rs.drop at' ++ rs.take at' := fun ru hru => by
      have : ru ∈ rs.take at' ++ rs.drop at' := by rw [List.take_append_drop]; exact hru
      rcases List.mem_append.mp this with h | h
      · exact List.mem_append_right _ h
      · exact List.mem_append_left _ h
    have hnd := n2
    simp only [List.nodup_cons, List.mem_cons, List.not_mem_nil, or_false, not_or] at hnd
    refine q _ ⟨[(a0, 1), (a1, 1)], chs, rs.drop at' ++ rs.take at'⟩ (S.length + 2) _ h6 ?_ ⟨by omega, _, _, _, gd _ _ _, .inl rfl, .inr ⟨S.length, rfl, na, by simp⟩, .inl (by simp [List.map_drop, List.map_take])⟩ ⟨rfl, fun ru hru => ?_, ?_⟩
    · exact { p1 := by simp
              p5 := by simp
              pn := fun p hp => by
                simp only [List.mem_cons, List.not_mem_nil, or_false] at hp
                rcases hp with rfl | rfl
                · exact ⟨(n3 a0 (by simp)).1, (n3 a0 (by simp)).2, Nat.le_refl 1, by show 1 ≤ 8; decide⟩
                · exact ⟨(n3 a1 (by simp)).1, (n3 a1 (by simp)).2, Nat.le_refl 1, by show 1 ≤ 8; decide⟩
              pd := by simp; exact hnd.1.1
              c8 := by show chs.length ≤ 8; omega
              cn := fun c hc => by
                have hm : c.nm ∈ chs.map (·.nm) := List.mem_map_of_mem hc
                rw [c1] at hm
                have hm := List.mem_of_mem_drop (List.mem_of_mem_take hm)
                obtain ⟨e1, e2⟩ := c2 c hc
                exact ⟨(n3 _ hm).1, (n3 _ hm).2, by rw [e1]; show 0 < 2; decide, by rw [e2]; show 1 < 2; decide, by rw [e1, e2]; decide⟩
              cd := by
                show (chs.map (·.nm)).Nodup
                rw [c1]
                exact (n2.sublist (List.drop_sublist _ _)).sublist (List.take_sublist _ _)
              r40 := by
                show (rs.drop at' ++ rs.take at').length ≤ 40
                simp only [List.length_append, List.length_drop, List.length_take]
                omega
              rn := fun ru hru => by
                obtain ⟨c, t, h1, h2, h3⟩ := r2 ru (hmem ru hru)
                have hch : chs[c]? = some chs[c] := by simp [h1]
                obtain ⟨e1, e2⟩ := c2 chs[c] (List.getElem_mem h1)
                rcases h3 with rfl | rfl
                · exact ⟨⟨(a0, 1), rfl, Nat.lt_succ_self 0, Nat.lt_succ_self 0⟩, ⟨chs[c], hch, e1⟩, h2⟩
                · exact ⟨⟨(a1, 1), rfl, Nat.lt_succ_self 0, Nat.lt_succ_self 0⟩, ⟨chs[c], hch, e2⟩, h2⟩ }
    · obtain ⟨c, t, h1, h2, h3⟩ := r2 ru (hmem ru hru)
      rcases h3 with rfl | rfl <;> exact ⟨rfl, rfl⟩
    · obtain ⟨ru, h1, h2⟩ := r3 (by omega)
      exact ⟨ru, hmem2 ru h1, h2⟩
end
end K

namespace K
open PySem Cw
variable {X : Nat → D → Sto → Prop}
section
variable {N : Net} {n : Nat} {w : Wd} {b : Bool} {s : Sto} {Q : D → Sto → Prop}
theorem w_possible (hN : NetOk N) (h : WdOk N n w) (hn : n < 10000) (q : Q (.tup ((poss N w).map encD)) s) : wx X (m_possible [netD N, encW b w] s) Q := by
  have hr40 := hN.r40
  have hc8 := hN.c8
  unfold m_possible
  refine w_run ?_
  show wo (mb_possible [some (netD N), some (encW b w), none, none, none, none, none, none, none, none] s) _ _ _ _
  unfold mb_possible
  refine o_seq (o_set (w_lstT (w_nil ⟨Nat.zero_le _, ?_⟩)))
  have hg : ∀ l : List D, (s ++ [Cell.lst l])[s.length]? = some (.lst l) := fun l => by simp
  have hp : ∀ l m : List D, (s ++ [Cell.lst l]).set s.length (.lst m) = s ++ [.lst m] := fun l m => by simp
  refine o_cut (fun e s' => ∃ v3 v4 v5 v6 v7 v8 v9, e = [some (netD N), some (encW b w), some (.ref s.length), v3, v4, v5, v6, v7, v8, v9] ∧ s' = s ++ [.lst ((upto (rD N w) N.rs.length).map encD)]) ?_ ?_
  · refine o_for (w_iEn (w_fld (w_var rfl ⟨_, fld_r N _, _, rfl, ?_⟩)))
    refine ⟨fun j e s' => j ≤ N.rs.length ∧ ∃ v3 v4 v5 v6 v7 v8 v9, e = [some (netD N), some (encW b w), some (.ref s.length), v3, v4, v5, v6, v7, v8, v9] ∧ s' = s ++ [.lst ((upto (rD N w) j).map encD)], ⟨Nat.zero_le _, none, none, none, none, none, none, none, rfl, rfl⟩, fun _ _ _ _ => rfl, ?_, ?_⟩
    · rintro j x hx e s' ⟨hj, v3, v4, v5, v6, v7, v8, v9, rfl, rfl⟩
      obtain ⟨y, hy, rfl⟩ := enumD_get hx
      rw [List.getElem?_map] at hy
      obtain ⟨ru, hru, rfl⟩ := Option.map_eq_some_iff.mp hy
      have hjl := (List.getElem?_eq_some_iff.mp hru).1
      obtain ⟨⟨pp, hpp, _, _⟩, hact⟩ := hN.rn ru (List.mem_of_getElem? hru)
      have hpl := (List.getElem?_eq_some_iff.mp hpp).1
      obtain ⟨x0, hx0⟩ : ∃ x0, w.st[ru.p]? = some x0 := ⟨w.st[ru.p]'(by rw [h.st]; exact hpl), by simp⟩
      have hlen := upto_len (rD_len h) j
      have hlen2 : j * (n + 1) ≤ 40 * 10001 := Nat.mul_le_mul (by omega) (by omega)
      refine ⟨_, _, rfl, ?_⟩
      refine o_if (w_AndT (w_T (w_bin (w_bin (w_bin (w_var rfl (w_c (m_ix rfl (w_bin (w_var rfl (w_c (w_ixT (at0 _ _) (m_ix (at_enc hx0) ?_)))))))))))))
      refine w_bin (w_var rfl (w_c (w_ixT (at1 _ _ _) (w_eqN ⟨_, rfl, ?_, ?_⟩))))
      · intro he
        have he : x0 = ru.s := by simpa using he
        refine w_T (w_bin (w_bin (w_bin (w_var rfl (w_c (w_ixT (at2 _ _ _ _) (w_c (w_first fun z hz => ?_))))))))
        refine w_c (w_neS ⟨_, rfl, ?_, ?_⟩)
        · intro ht
          have ht : ¬ z = "take" := by simpa using ht
          refine o_expr (w_meth (w_var rfl ⟨by simp [tyM], ?_⟩))
          repeat (first | (with_reducible apply w_bin) | (with_reducible apply w_m1) | (with_reducible apply w_un) | (with_reducible apply w_cons) | (with_reducible apply w_nil) | (with_reducible apply w_callN) | ((with_reducible apply w_var); exact rfl) | (with_reducible apply w_c) | (with_reducible apply w_T) | (with_reducible apply w_NotT) | (with_reducible apply w_AndT) | (with_reducible apply w_OrT) | (with_reducible apply w_And) | (with_reducible apply w_Or) | (with_reducible apply w_Not) | (with_reducible apply w_If) | (with_reducible apply w_tup) | (with_reducible apply w_lstF) | (with_reducible apply w_noP) | (with_reducible apply w_part) | (with_reducible apply w_slice) | (with_reducible apply w_isN) | (with_reducible apply w_add) | (with_reducible apply w_sub) | (with_reducible apply w_gt) | (with_reducible apply w_lt) | (with_reducible apply w_ge) | (with_reducible apply w_le) | (with_reducible apply w_eqI) | (with_reducible apply w_neI) | (with_reducible apply w_eqS) | (with_reducible apply w_neS) | ((with_reducible apply x_ixT); exact rfl; exact rfl) | ((with_reducible apply x_ixL); exact rfl; exact rfl) | ((with_reducible apply x_lenT); exact rfl) | ((with_reducible apply x_lenL); exact rfl) | (with_reducible apply w_intI) | (with_reducible apply w_intB) | (with_reducible apply w_tupT) | (with_reducible apply w_tupL) | (with_reducible apply w_slT) | (with_reducible apply w_slL) | (with_reducible apply w_iSeq) | (with_reducible apply w_iRg1) | (with_reducible apply ex_bl) | (with_reducible apply ex_int) | (with_reducible apply ex_neg) | (with_reducible refine And.intro (Nat.le_of_ble_eq_true rfl) ?_) | (with_reducible refine And.intro (rfl : List.length _ = _) ?_))
          refine w_app (hg _) (lim_lt (by rw [List.length_map]; omega)) ?_
          refine ⟨hjl, _, _, _, _, _, _, _, rfl, ?_⟩
          rw [hp, upto_succ, List.map_append]
          have : rD N w j = [.act j] := by
            unfold rD ruD
            rw [hru]
            simp only
            rw [if_pos (by rw [hx0, he])]
            split
            · rename_i c t ea
              rw [ea] at hz
              exact absurd (hz.mpr rfl) ht
            · rfl
          rw [this]
          rfl
        · intro ht
          have ht : z = "take" := by simpa using ht
          have hz := hz.mp ht
          cases ea : ru.a with
          | go => rw [ea] at hz; cases hz
          | send c t => rw [ea] at hz; cases hz
          | take c t =>
            rw [ea] at hact
            obtain ⟨⟨ch, hch, _⟩, _⟩ := hact
            have hcl := (List.getElem?_eq_some_iff.mp hch).1
            refine o_if (w_T (w_bin (w_bin (w_bin (w_var rfl (w_c (m_ix rfl (w_bin (w_var rfl (w_c (w_ixT (at0 _ _) (m_ix (at_enc hx0) ?_))))))))))))
            refine w_bin (w_var rfl (w_c (w_ixT (at1 _ _ _) (w_eqN ⟨_, rfl, fun _ => ?_, fun h => ?_⟩))))
            · refine o_seq (o_set (w_callN (w_cons (w_var rfl (w_cons (w_var rfl (w_cons (w_bin (w_bin (w_var rfl (w_c (w_ixT (at2 _ _ _ _) ?_))))))))))))
              rw [ea]
              refine w_c (w_ixT (at1 _ _ _) (w_nil ⟨rfl, ?_⟩))
              refine w_open h (by omega) hcl ?_
              have hol := opn_le h c
              refine o_expr (w_meth (w_var rfl ⟨by simp [tyM], w_cons ?_⟩))
              refine w_compF (opn N w c) (encM true) (fun m => decide (m.2 = t)) (fun m => encD (.take j m.1)) (w_iSeq (w_var rfl ⟨_, rfl, rfl, rfl⟩)) (by omega) ?_ (fun m _ => pl_D _) ?_
              · rintro ⟨k, tk⟩ _
                refine ⟨_, rfl, fun s' => ?_⟩
                refine w_T (w_bin (w_var rfl (w_bin (w_bin (w_var rfl (w_c (w_ixT (at2 _ _ _ _) ?_)))))))
                rw [ea]
                refine w_c (w_ixT (at2 _ _ _ _) (w_eqN ⟨_, rfl, rfl, rfl, fun _ => ?_⟩))
                repeat (first | (with_reducible apply w_bin) | (with_reducible apply w_m1) | (with_reducible apply w_un) | (with_reducible apply w_cons) | (with_reducible apply w_nil) | (with_reducible apply w_callN) | ((with_reducible apply w_var); exact rfl) | (with_reducible apply w_c) | (with_reducible apply w_T) | (with_reducible apply w_NotT) | (with_reducible apply w_AndT) | (with_reducible apply w_OrT) | (with_reducible apply w_And) | (with_reducible apply w_Or) | (with_reducible apply w_Not) | (with_reducible apply w_If) | (with_reducible apply w_tup) | (with_reducible apply w_lstF) | (with_reducible apply w_noP) | (with_reducible apply w_part) | (with_reducible apply w_slice) | (with_reducible apply w_isN) | (with_reducible apply w_add) | (with_reducible apply w_sub) | (with_reducible apply w_gt) | (with_reducible apply w_lt) | (with_reducible apply w_ge) | (with_reducible apply w_le) | (with_reducible apply w_eqI) | (with_reducible apply w_neI) | (with_reducible apply w_eqS) | (with_reducible apply w_neS) | ((with_reducible apply x_ixT); exact rfl; exact rfl) | ((with_reducible apply x_ixL); exact rfl; exact rfl) | ((with_reducible apply x_lenT); exact rfl) | ((with_reducible apply x_lenL); exact rfl) | (with_reducible apply w_intI) | (with_reducible apply w_intB) | (with_reducible apply w_tupT) | (with_reducible apply w_tupL) | (with_reducible apply w_slT) | (with_reducible apply w_slL) | (with_reducible apply w_iSeq) | (with_reducible apply w_iRg1) | (with_reducible apply ex_bl) | (with_reducible apply ex_int) | (with_reducible apply ex_neg) | (with_reducible refine And.intro (Nat.le_of_ble_eq_true rfl) ?_) | (with_reducible refine And.intro (rfl : List.length _ = _) ?_))
                exact ⟨rfl, rfl⟩
              · have hfl := List.length_filter_le (fun m : Nat × Nat => decide (m.2 = t)) (opn N w c)
                refine w_nil (w_ext (hg _) (lim_of (by simp only [List.length_map]; omega)) ?_)
                refine ⟨hjl, _, _, _, _, _, _, _, rfl, ?_⟩
                rw [hp, upto_succ, List.map_append]
                have : rD N w j = ((opn N w c).filter fun m => decide (m.2 = t)).map fun m => Deed.take j m.1 := by
                  unfold rD ruD
                  rw [hru]
                  simp only
                  rw [if_pos (by rw [hx0, he]), ea]
                rw [this, List.map_map]
                rfl
            · simp at h
              exact absurd he h
      · intro he
        have he : ¬ x0 = ru.s := by simpa using he
        refine ⟨fun h => (by cases h), fun _ => ?_⟩
        refine o_if (w_T (w_bin (w_bin (w_bin (w_var rfl (w_c (m_ix rfl (w_bin (w_var rfl (w_c (w_ixT (at0 _ _) (m_ix (at_enc hx0) ?_))))))))))))
        refine w_bin (w_var rfl (w_c (w_ixT (at1 _ _ _) (w_eqN ⟨_, rfl, fun h => ?_, fun _ => o_nil ?_⟩))))
        · simp at h
          exact absurd h he
        · refine ⟨hjl, _, _, _, _, _, _, _, rfl, ?_⟩
          have : rD N w j = [] := by
            unfold rD ruD
            rw [hru]
            simp only
            rw [if_neg (by rw [hx0]; simpa using he)]
          rw [upto_succ, this, List.append_nil]
    · rintro e s' ⟨_, v3, v4, v5, v6, v7, v8, v9, rfl, rfl⟩
      refine ⟨v3, v4, v5, v6, v7, v8, v9, rfl, ?_⟩
      simp only [enumD_len, List.length_map]
  rintro e s' ⟨v3, v4, v5, v6, v7, v8, v9, rfl, rfl⟩
  refine o_cut (fun e s' => ∃ v3 v4 v5 v6 v7 v8 v9, e = [some (netD N), some (encW b w), some (.ref s.length), v3, v4, v5, v6, v7, v8, v9] ∧ s' = s ++ [.lst ((poss N w).map encD)]) ?_ ?_
  · refine o_for (w_iRg1 (w_m1 (w_fld (w_var rfl ⟨_, fld_c N _, w_lenT ⟨_, rfl, by rw [List.length_map]; omega, ?_⟩⟩))))
    refine ⟨fun j e s' => j ≤ N.cs.length ∧ ∃ v3 v4 v5 v6 v7 v8 v9, e = [some (netD N), some (encW b w), some (.ref s.length), v3, v4, v5, v6, v7, v8, v9] ∧ s' = s ++ [.lst ((upto (rD N w) N.rs.length ++ upto (lD N w) j).map encD)], ⟨Nat.zero_le _, v3, v4, v5, v6, v7, v8, v9, rfl, ?_⟩, fun _ _ _ _ => rfl, ?_, ?_⟩
    · simp [upto]
    · rintro j x hx e s' ⟨hj, v3, v4, v5, v6, v7, v8, v9, rfl, rfl⟩
      rw [List.length_map] at hx
      have hjl : j < N.cs.length := by
        have := (List.getElem?_eq_some_iff.mp hx).1
        simpa [rngD] using this
      have hxx : x = .int j := by
        simp [rngD, hjl] at hx
        exact hx.symm
      subst hxx
      have hlen := upto_len (rD_len h) N.rs.length
      have hlen2 : N.rs.length * (n + 1) ≤ 40 * 10001 := Nat.mul_le_mul (by omega) (by omega)
      have hlen3 := upto_len (lD_len h) j
      have hlen4 : j * (n + 1) ≤ 8 * 10001 := Nat.mul_le_mul (by omega) (by omega)
      refine ⟨_, _, rfl, ?_⟩
      refine o_if (w_T ?_)
      repeat (first | (with_reducible apply w_bin) | (with_reducible apply w_m1) | (with_reducible apply w_un) | (with_reducible apply w_cons) | (with_reducible apply w_nil) | (with_reducible apply w_callN) | ((with_reducible apply w_var); exact rfl) | (with_reducible apply w_c) | (with_reducible apply w_T) | (with_reducible apply w_NotT) | (with_reducible apply w_AndT) | (with_reducible apply w_OrT) | (with_reducible apply w_And) | (with_reducible apply w_Or) | (with_reducible apply w_Not) | (with_reducible apply w_If) | (with_reducible apply w_tup) | (with_reducible apply w_lstF) | (with_reducible apply w_noP) | (with_reducible apply w_part) | (with_reducible apply w_slice) | (with_reducible apply w_isN) | (with_reducible apply w_add) | (with_reducible apply w_sub) | (with_reducible apply w_gt) | (with_reducible apply w_lt) | (with_reducible apply w_ge) | (with_reducible apply w_le) | (with_reducible apply w_eqI) | (with_reducible apply w_neI) | (with_reducible apply w_eqS) | (with_reducible apply w_neS) | ((with_reducible apply x_ixT); exact rfl; exact rfl) | ((with_reducible apply x_ixL); exact rfl; exact rfl) | ((with_reducible apply x_lenT); exact rfl) | ((with_reducible apply x_lenL); exact rfl) | (with_reducible apply w_intI) | (with_reducible apply w_intB) | (with_reducible apply w_tupT) | (with_reducible apply w_tupL) | (with_reducible apply w_slT) | (with_reducible apply w_slL) | (with_reducible apply w_iSeq) | (with_reducible apply w_iRg1) | (with_reducible apply ex_bl) | (with_reducible apply ex_int) | (with_reducible apply ex_neg) | (with_reducible refine And.intro (Nat.le_of_ble_eq_true rfl) ?_) | (with_reducible refine And.intro (rfl : List.length _ = _) ?_))
      refine w_lossy hjl (ex_bl ⟨fun hl => ?_, fun hl => ?_⟩)
      · refine o_expr (w_meth (w_var rfl ⟨by simp [tyM], w_cons ?_⟩))
        have hol := opn_le h j
        refine w_compA (opn N w j) (encM true) (fun m => encD (.lose j m.1)) ?_ (by omega) ?_ (fun m _ => pl_D _) ?_
        · refine w_iSeq ?_
          repeat (first | (with_reducible apply w_bin) | (with_reducible apply w_m1) | (with_reducible apply w_un) | (with_reducible apply w_cons) | (with_reducible apply w_nil) | (with_reducible apply w_callN) | ((with_reducible apply w_var); exact rfl) | (with_reducible apply w_c) | (with_reducible apply w_T) | (with_reducible apply w_NotT) | (with_reducible apply w_AndT) | (with_reducible apply w_OrT) | (with_reducible apply w_And) | (with_reducible apply w_Or) | (with_reducible apply w_Not) | (with_reducible apply w_If) | (with_reducible apply w_tup) | (with_reducible apply w_lstF) | (with_reducible apply w_noP) | (with_reducible apply w_part) | (with_reducible apply w_slice) | (with_reducible apply w_isN) | (with_reducible apply w_add) | (with_reducible apply w_sub) | (with_reducible apply w_gt) | (with_reducible apply w_lt) | (with_reducible apply w_ge) | (with_reducible apply w_le) | (with_reducible apply w_eqI) | (with_reducible apply w_neI) | (with_reducible apply w_eqS) | (with_reducible apply w_neS) | ((with_reducible apply x_ixT); exact rfl; exact rfl) | ((with_reducible apply x_ixL); exact rfl; exact rfl) | ((with_reducible apply x_lenT); exact rfl) | ((with_reducible apply x_lenL); exact rfl) | (with_reducible apply w_intI) | (with_reducible apply w_intB) | (with_reducible apply w_tupT) | (with_reducible apply w_tupL) | (with_reducible apply w_slT) | (with_reducible apply w_slL) | (with_reducible apply w_iSeq) | (with_reducible apply w_iRg1) | (with_reducible apply ex_bl) | (with_reducible apply ex_int) | (with_reducible apply ex_neg) | (with_reducible refine And.intro (Nat.le_of_ble_eq_true rfl) ?_) | (with_reducible refine And.intro (rfl : List.length _ = _) ?_))
          exact w_open h (by omega) hjl ⟨_, rfl, rfl, rfl⟩
        · rintro ⟨k, tk⟩ _
          refine ⟨_, rfl, fun s' => ?_⟩
          repeat (first | (with_reducible apply w_bin) | (with_reducible apply w_m1) | (with_reducible apply w_un) | (with_reducible apply w_cons) | (with_reducible apply w_nil) | (with_reducible apply w_callN) | ((with_reducible apply w_var); exact rfl) | (with_reducible apply w_c) | (with_reducible apply w_T) | (with_reducible apply w_NotT) | (with_reducible apply w_AndT) | (with_reducible apply w_OrT) | (with_reducible apply w_And) | (with_reducible apply w_Or) | (with_reducible apply w_Not) | (with_reducible apply w_If) | (with_reducible apply w_tup) | (with_reducible apply w_lstF) | (with_reducible apply w_noP) | (with_reducible apply w_part) | (with_reducible apply w_slice) | (with_reducible apply w_isN) | (with_reducible apply w_add) | (with_reducible apply w_sub) | (with_reducible apply w_gt) | (with_reducible apply w_lt) | (with_reducible apply w_ge) | (with_reducible apply w_le) | (with_reducible apply w_eqI) | (with_reducible apply w_neI) | (with_reducible apply w_eqS) | (with_reducible apply w_neS) | ((with_reducible apply x_ixT); exact rfl; exact rfl) | ((with_reducible apply x_ixL); exact rfl; exact rfl) | ((with_reducible apply x_lenT); exact rfl) | ((with_reducible apply x_lenL); exact rfl) | (with_reducible apply w_intI) | (with_reducible apply w_intB) | (with_reducible apply w_tupT) | (with_reducible apply w_tupL) | (with_reducible apply w_slT) | (with_reducible apply w_slL) | (with_reducible apply w_iSeq) | (with_reducible apply w_iRg1) | (with_reducible apply ex_bl) | (with_reducible apply ex_int) | (with_reducible apply ex_neg) | (with_reducible refine And.intro (Nat.le_of_ble_eq_true rfl) ?_) | (with_reducible refine And.intro (rfl : List.length _ = _) ?_))
          exact ⟨rfl, rfl⟩
        · refine w_nil (w_ext (hg _) (lim_of (by simp only [List.length_map, List.length_append]; omega)) ?_)
          refine ⟨hjl, _, _, _, _, _, _, _, rfl, ?_⟩
          rw [hp, upto_succ]
          have : lD N w j = (opn N w j).map fun m => Deed.lose j m.1 := by
            unfold lD
            rw [if_pos hl]
          rw [this]
          simp only [List.map_append, List.map_map, List.append_assoc]
          rfl
      · refine o_nil ⟨hjl, _, _, _, _, _, _, _, rfl, ?_⟩
        have : lD N w j = [] := by
          unfold lD
          rw [if_neg (by rw [hl]; simp)]
        rw [upto_succ, this, List.append_nil]
    · rintro e s' ⟨_, v3, v4, v5, v6, v7, v8, v9, rfl, rfl⟩
      refine ⟨v3, v4, v5, v6, v7, v8, v9, rfl, ?_⟩
      simp [rngD, poss]
  rintro e s' ⟨v3, v4, v5, v6, v7, v8, v9, rfl, rfl⟩
  refine o_ret (w_m1 (w_var rfl (w_tupR (hg _) ?_)))
  exact fin_app (by unfold pl; exact plL_map pl_D _) q
end
end K

namespace K
open PySem Cw
variable {X : Nat → D → Sto → Prop}
def AsD (N : Net) (v : D) (d : Deed) : Prop := DeedOk N d ∧ ∀ st, m_as_deed [netD N, v] st = .ok (encD d) st
theorem atD_len (d : Deed) : (atD d).length ≤ 10 := by cases d <;> simp [atD]
theorem as_mk {N : Net} {d : Deed} (h : DeedOk N d) (b : Bool) : AsD N (mk b ((atD d).map encAt)) d := by
  refine ⟨h, fun st => ?_⟩
  rcases as_gen N (atD d) (atD_len d) b st with ⟨d', e, _, ha⟩ | ⟨hno, _⟩
  · rw [← atD_inj e] at ha
    exact ha
  · exact absurd h (hno d rfl)
theorem as_enc {N : Net} {d : Deed} (h : DeedOk N d) : AsD N (encD d) d := by
  have := as_mk h true
  rwa [show mk true ((atD d).map encAt) = encD d from (encD_at d).symm] at this
theorem nI_D {neg : Bool} {d : Deed} {s : Sto} {Q : D → Sto → Prop} (q : Q (.bl neg) s) : nIs neg (encD d) Q s := by cases d <;> exact q
theorem w_listD {d : Deed} {s : Sto} {Q : D → Sto → Prop} (q : Q (mk false ((atD d).map encAt)) s) : wx X (lift (oList false (encD d) s)) Q := by cases d <;> exact q
end K

namespace K
open PySem Cw
variable {X : Nat → D → Sto → Prop}
section
variable {N : Net} {n : Nat} {w : Wd} {b : Bool} {s : Sto} {Q : D → Sto → Prop}
theorem w_doneV {v : D} {d : Deed} (hN : NetOk N) (h : WdOk N n w) (hn : n < 10000) (hv : AsD N v d) (hc : canD N w d = true) (q : Q (encW true (beh N w d)) s) : wx X (m_done [netD N, encW b w, v] s) Q := by
  unfold m_done
  refine w_run ?_
  show wo (mb_done [some (netD N), some (encW b w), some v, none] s) _ _ _ _
  unfold mb_done
  refine o_seq ?_; refine o_set ?_; refine w_callN ?_; refine w_cons ?_; refine w_var rfl ?_; refine w_cons ?_; refine w_var rfl ?_; refine w_nil ?_; refine And.intro (rfl : List.length _ = _) ?_
  refine w_eq (hv.2 s) ?_
  refine o_seq ?_; refine o_if ?_; refine w_OrT ?_; refine w_T ?_; refine w_isM ?_; refine w_var rfl ?_
  refine nI_D ?_
  refine ex_bl ?_; refine if_F ?_; refine w_NotT ?_; refine w_T ?_; refine w_callN ?_; refine w_cons ?_; refine w_var rfl ?_; refine w_cons ?_; refine w_var rfl ?_; refine w_cons ?_; refine w_var rfl ?_; refine w_nil ?_; refine And.intro (rfl : List.length _ = _) ?_
  refine w_can hN h hn hv.1 ?_
  rw [hc]
  refine ex_bl ?_; refine if_nT ?_; refine o_nil ?_; refine o_ret ?_; refine w_callN ?_; refine w_cons ?_; refine w_var rfl ?_; refine w_cons ?_; refine w_var rfl ?_; refine w_cons ?_; refine w_var rfl ?_; refine w_nil ?_; refine And.intro (rfl : List.length _ = _) ?_
  refine w_behind hN h hn hv.1 ?_
  exact fin_same (pl_W true _) q
/-- no deed that can be done -/
def NoDo (N : Net) (w : Wd) (v : D) : Prop := ∀ st, ∃ x, m_as_deed [netD N, v] st = .ok x st ∧ (x = .non ∨ ∃ d, x = encD d ∧ DeedOk N d ∧ canD N w d = false)
theorem x_done {v : D} (hN : NetOk N) (h : WdOk N n w) (hn : n < 10000) (hv : NoDo N w v) (q : X 3 (.int 0) s) : wx X (m_done [netD N, encW b w, v] s) Q := by
  obtain ⟨x, h1, h2⟩ := hv s
  unfold m_done
  refine w_runX ?_
  show wox _ (mb_done [some (netD N), some (encW b w), some v, none] s) _ _ _ _
  unfold mb_done
  have fx : finX s X 3 (.int 0) s := ⟨rfl, popB_refl s, by rw [List.take_of_length_le (Nat.le_refl _)]; exact q⟩
  refine o_seq ?_; refine o_set ?_; refine w_callN ?_; refine w_cons ?_; refine w_var rfl ?_; refine w_cons ?_; refine w_var rfl ?_; refine w_nil ?_; refine And.intro (rfl : List.length _ = _) ?_
  refine w_eq h1 ?_
  rcases h2 with rfl | ⟨d, rfl, hd1, hd2⟩
  · refine o_seq ?_; refine o_if ?_; refine w_OrT ?_; refine w_T ?_; refine w_isM ?_; refine w_var rfl ?_; refine nI_nonF ?_; refine ex_bl ?_; refine if_T ?_; refine if_T ?_; refine o_raise ?_; refine w_c ?_
    exact fx
  · refine o_seq ?_; refine o_if ?_; refine w_OrT ?_; refine w_T ?_; refine w_isM ?_; refine w_var rfl ?_
    refine nI_D ?_
    refine ex_bl ?_; refine if_F ?_; refine w_NotT ?_; refine w_T ?_; refine w_callN ?_; refine w_cons ?_; refine w_var rfl ?_; refine w_cons ?_; refine w_var rfl ?_; refine w_cons ?_; refine w_var rfl ?_; refine w_nil ?_; refine And.intro (rfl : List.length _ = _) ?_
    refine w_can hN h hn hd1 ?_
    rw [hd2]
    refine ex_bl ?_; refine if_nF ?_; refine o_raise ?_; refine w_c ?_
    exact fx
end
end K

namespace K
open PySem Cw
variable {X : Nat → D → Sto → Prop}
theorem tt_D (d : Deed) : tt 1 (encD d) = true := by cases d <;> rfl
theorem ok_act {N : Net} {w : Wd} {n : Nat} (hN : NetOk N) (hL : Lane N) (h : WdOk N n w) (hz : ∀ x ∈ w.st, x = 0) : ∃ r, Deed.act r ∈ poss N w := by
  obtain ⟨ru, h1, h2⟩ := hL.snd
  obtain ⟨r, hr⟩ := List.mem_iff_getElem?.mp h1
  refine ⟨r, ok_poss ⟨ru, hr, h2⟩ ?_⟩
  have hp : ru.p < w.st.length := by
    rw [h.st]
    exact (ru_ok hN hr).1
  unfold canD
  simp only [hr, decide_eq_true_eq]
  have e : w.st[ru.p] = 0 := hz _ (List.getElem_mem hp)
  rw [(hL.s0 ru h1).1]
  simp [hp, e]
theorem beh_zero {N : Net} {w : Wd} (hL : Lane N) (hz : ∀ x ∈ w.st, x = 0) (d : Deed) : ∀ x ∈ (beh N w d).st, x = 0 := by
  have set0 : ∀ (p : Nat) (ru : Rule), ru ∈ N.rs → ∀ x ∈ w.st.set p ru.s2, x = 0 := fun p ru hr x hx => by
    rcases List.mem_or_eq_of_mem_set hx with h | h
    · exact hz x h
    · rw [h]
      exact (hL.s0 ru hr).2
  intro x hx
  cases d with
  | act r =>
    cases e : N.rs[r]? with
    | none =>
      simp only [beh, e] at hx
      exact hz x hx
    | some ru =>
      have hm := List.mem_of_getElem? e
      cases ea : ru.a <;> simp only [beh, e, ea] at hx <;> exact set0 _ _ hm x hx
  | take r k =>
    cases e : N.rs[r]? with
    | none =>
      simp only [beh, e] at hx
      exact hz x hx
    | some ru =>
      have hm := List.mem_of_getElem? e
      cases ea : ru.a <;> simp only [beh, e, ea] at hx
      · exact hz x hx
      · exact hz x hx
      · exact set0 _ _ hm x hx
  | lose c k => exact hz x hx
section
variable {cs : List Int} {k kc nd n : Nat} {S s : Sto} {Q : D → Sto → Prop} {N : Net} {w : Wd}
theorem w_sameH {X : Nat → D → Sto → Prop} {i j : Int} (e : i = j) (q : Q (.bl true) s) : wx X (mH__law_same [.int i, .int j] s) Q := by
  unfold mH__law_same runQ mbH__law_same
  subst e
  simp [bodyR, sRet, sRetN, sSeq, sIf, sNil, sExpr, sSet, sRaise, mAnd, mOr, mNot, mIf, mAndT, mOrT, mNotT, mT, mIsN, mChain, m1, mVar, mC, mBin, mUn, mCallN, mCons, mNil, mTup, mSlice, mPart, mNoP, oIsi, oIsi2, tyOf, oLen, oInt, oLe, oLt, oGt, oGe, oCmp, oIx, oSub, oFdiv, oMod, oEq, eqD, oSl, pu, Res.bind, Res.toS, lift, subT, mYes, oIsi, tyOf]
  exact q
theorem w_refused {v : D} (hN : NetOk N) (h : WdOk N n w) (hn : n < 10000) (hv : NoDo N w v) (q : Q (.bl true) s) : wx X (m__law_refused [netD N, encW true w, v] s) Q := by
  unfold m__law_refused
  refine w_run ?_
  show wo (mb__law_refused [some (netD N), some (encW true w), some v, none] s) _ _ _ _
  unfold mb__law_refused
  refine o_seq ?_
  refine o_try ?_
  refine o_expr ?_; refine w_callN ?_; refine w_cons ?_; refine w_var rfl ?_; refine w_cons ?_; refine w_var rfl ?_; refine w_cons ?_; refine w_var rfl ?_; refine w_nil ?_; refine And.intro (rfl : List.length _ = _) ?_
  refine x_done hN h hn hv ⟨true, rfl, fun h => (by cases h), fun _ => ?_⟩
  refine o_ret ?_; refine w_callN ?_; refine w_cons ?_; refine w_at ?_; refine w_var rfl ?_; refine ex_exn1 ?_; refine w_cons ?_; refine w_c ?_; refine w_nil ?_; refine And.intro (rfl : List.length _ = _) ?_
  exact w_sameH rfl ⟨rfl, rfl, fin_same rfl q⟩
theorem noDo_bad {v : Dv} (hb : BadV N w v) (hv : vOk v) : NoDo N w (encDv v) := fun st => as_bad hb hv st
theorem w_agrees (h : Px cs k kc S s) (hN : NetOk N) (hA : NA k N nd S) (hw : WdOk N n w) (hn : n ≤ 50) (hne : ∃ r, Deed.act r ∈ poss N w) (q : ∀ s', Px cs k kc S s' → Q (.bl true) s') : wx X (m__law_agrees [.ref k, .ref nd, netD N, encL w] s) Q := by
  have hp5 := hN.p5
  have hc8 := hN.c8
  have hst := hw.st
  have hse := hw.se
  have hpr := hw.pr
  have hlen := poss_len hN hw
  obtain ⟨ra, hra⟩ := hne
  have hpos : 0 < (poss N w).length := List.length_pos_of_mem hra
  have ttp : tt 2 (.tup ((poss N w).map encD)) = true := tt_map (by omega) fun d _ => tt_D d
  unfold m__law_agrees
  refine w_run ?_
  show wo (mb__law_agrees [some (.ref k), some (.ref nd), some (netD N), some (encL w), none, none, none, none, none, none, none, none] s) _ _ _ _
  unfold mb__law_agrees
  refine o_seq ?_; refine o_set ?_; refine w_callN ?_; refine w_cons ?_; refine w_var rfl ?_; refine w_nil ?_; refine And.intro (rfl : List.length _ = _) ?_
  refine w_told hN hw (by omega) ?_
  refine o_seq ?_; refine o_set ?_; refine w_lstF ?_; refine w_cons ?_; refine w_m1 ?_; refine w_bin ?_; refine w_var rfl ?_; refine w_c ?_; refine x_ixT rfl rfl ?_; refine y_listF rw_l ?_; refine w_cons ?_; refine w_m1 ?_; refine w_bin ?_; refine w_var rfl ?_; refine w_c ?_; refine x_ixT rfl rfl ?_; refine y_listF rw_l ?_; refine w_cons ?_
  refine w_compA w.pr encRowL (encRow false) ?_ (by omega) ?_ (fun r _ => pl_Row false r) ?_
  · refine w_iSeq ?_; refine w_bin ?_; refine w_var rfl ?_; refine w_c ?_; refine x_ixT rfl rfl ?_; refine ex_iter rfl ?_
    exact ⟨rfl, rfl⟩
  · intro r hr
    have hrl := hw.row r hr
    refine ⟨_, rfl, fun s' => ?_⟩
    refine w_compA r (encM true) (encM false) ?_ (by omega) ?_ (fun m _ => pl_M1 false m) ?_
    · refine w_iSeq ?_; refine w_var rfl ?_; refine ex_iter rfl ?_
      exact ⟨rfl, rfl⟩
    · intro m hm
      refine ⟨_, rfl, fun s'' => ?_⟩
      refine w_m1 ?_; refine w_var rfl ?_
      exact ⟨rfl, rfl⟩
    · exact ⟨rfl, rfl⟩
  refine w_nil ?_; refine And.intro (Nat.le_of_ble_eq_true rfl) ?_; refine o_seq ?_
  refine o_for ?_
  refine w_iSeq ?_; refine w_lstF ?_; refine w_cons ?_; refine w_var rfl ?_; refine w_cons ?_; refine w_var rfl ?_; refine w_nil ?_; refine And.intro (Nat.le_of_ble_eq_true rfl) ?_; refine ex_iter rfl ?_
  refine ⟨fun _ e s' => s' = s ∧ ∃ v6, e = [some (.ref k), some (.ref nd), some (netD N), some (encL w), some (encW true w), some (encW false w), v6, none, none, none, none, none], ⟨rfl, none, rfl⟩, fun _ _ _ _ => rfl, ?_, ?_⟩
  · rintro j x hx e s' ⟨rfl, v6, rfl⟩
    obtain ⟨b, rfl⟩ : ∃ b, x = encW b w := by
      have := List.mem_of_getElem? hx
      simp only [List.mem_cons, List.not_mem_nil, or_false] at this
      rcases this with rfl | rfl
      · exact ⟨true, rfl⟩
      · exact ⟨false, rfl⟩
    refine ⟨_, _, rfl, ?_⟩
    refine o_if ?_; refine w_NotT ?_; refine w_T ?_; refine w_callN ?_; refine w_cons ?_; refine w_callN ?_; refine w_cons ?_; refine w_var rfl ?_; refine w_cons ?_; refine w_var rfl ?_; refine w_nil ?_; refine And.intro (rfl : List.length _ = _) ?_
    refine w_possible hN hw (by omega) ?_
    refine w_cons ?_; refine w_m1 ?_; refine w_callN ?_; refine w_cons ?_; refine w_var rfl ?_; refine w_cons ?_; refine w_var rfl ?_; refine w_nil ?_; refine And.intro (rfl : List.length _ = _) ?_
    refine w_lpossible hN (hA.px h) hw (by omega) ?_
    refine w_tupL ?_; refine w_nil ?_; refine And.intro (rfl : List.length _ = _) ?_
    refine w_same 8 2 _ _ (by decide) ttp ?_
    refine ex_bl ?_; refine if_nT ?_; refine o_nil ?_
    exact ⟨rfl, _, rfl⟩
  rintro e s' ⟨rfl, v6, rfl⟩
  refine o_seq ?_; refine o_set ?_; refine w_callN ?_; refine w_cons ?_; refine w_var rfl ?_; refine w_cons ?_; refine w_var rfl ?_; refine w_nil ?_; refine And.intro (rfl : List.length _ = _) ?_
  refine w_lpossible hN (hA.px h) hw (by omega) ?_
  refine o_seq ?_; refine o_set ?_; refine w_bin ?_; refine w_var rfl ?_; refine w_callN ?_; refine w_cons ?_; refine w_var rfl ?_; refine w_cons ?_; refine w_m1 ?_; refine w_var rfl ?_; refine x_lenL rfl ?_; refine w_nil ?_; refine And.intro (rfl : List.length _ = _) ?_
  rw [List.length_map]
  refine w_take h (by omega) (by omega) fun s1 r h1 hr => ?_
  obtain ⟨d, hd⟩ : ∃ d, (poss N w)[r]? = some d := ⟨(poss N w)[r]'(by omega), by simp⟩
  have hmem := List.mem_of_getElem? hd
  obtain ⟨hok, hcan⟩ := poss_ok hmem
  have hw' := beh_ok hN hw d hok
  refine x_ixL rfl (at_e (by assumption)) ?_; refine o_seq ?_; refine o_if ?_; refine w_NotT ?_; refine w_T ?_; refine w_callN ?_; refine w_cons ?_; refine w_callK3 ?_; refine w_cons ?_; refine w_var rfl ?_; refine w_cons ?_; refine w_var rfl ?_; refine w_cons ?_; refine w_m1 ?_; refine w_var rfl ?_
  refine w_listD ?_
  refine w_nil ?_; refine ex_three ?_
  refine w_doneV (b := false) hN hw (by omega) (as_mk hok false) hcan ?_
  refine w_cons ?_; refine w_callN ?_; refine w_cons ?_; refine w_callN ?_; refine w_cons ?_; refine w_var rfl ?_; refine w_cons ?_; refine w_var rfl ?_; refine w_cons ?_; refine w_var rfl ?_; refine w_nil ?_; refine And.intro (rfl : List.length _ = _) ?_
  refine w_ldone hN (hA.px h1) hw (by omega) hok ?_
  refine w_nil ?_; refine And.intro (rfl : List.length _ = _) ?_
  refine w_told hN hw' (by omega) ?_
  refine w_nil ?_; refine And.intro (rfl : List.length _ = _) ?_
  refine w_same 8 4 _ _ (by decide) (tt_W hN hw' (by omega)) ?_
  refine ex_bl ?_; refine if_nT ?_; refine o_nil ?_; refine o_seq ?_
  refine o_for ?_
  refine w_iRg1 ?_; refine w_c ?_
  refine ⟨3, rfl, by decide, fun _ e s' => Px cs k kc S s' ∧ ∃ v9, e = [some (.ref k), some (.ref nd), some (netD N), some (encL w), some (encW true w), some (encW false w), v6, some (.lst ((poss N w).map encD)), some (encD d), v9, none, none], ⟨h1, none, rfl⟩, fun _ _ _ _ => rfl, ?_, ?_⟩
  · rintro j x hx e s2 ⟨h2, v9, rfl⟩
    refine ⟨_, _, rfl, ?_⟩
    refine o_if ?_; refine w_NotT ?_; refine w_T ?_; refine w_callN ?_; refine w_cons ?_; refine w_var rfl ?_; refine w_cons ?_; refine w_var rfl ?_; refine w_cons ?_; refine w_callN ?_; refine w_cons ?_; refine w_var rfl ?_; refine w_cons ?_; refine w_var rfl ?_; refine w_cons ?_; refine w_var rfl ?_; refine w_nil ?_; refine And.intro (rfl : List.length _ = _) ?_
    refine w_lnear h2 hN hA hw (by omega) fun s3 v h3 hv hb => ?_
    refine w_nil ?_; refine And.intro (rfl : List.length _ = _) ?_
    refine w_refused hN hw (by omega) (noDo_bad hb hv) ?_
    refine ex_bl ?_; refine if_nT ?_; refine o_nil ?_
    exact ⟨h3, _, rfl⟩
  · rintro e s2 ⟨h2, v9, rfl⟩
    refine o_ret ?_; refine w_c ?_
    exact fin_px0 h h2 rfl q
end
end K

namespace K
open PySem Cw
variable {X : Nat → D → Sto → Prop}
theorem pstart {N : Net} {s : Sto} {Q : D → Sto → Prop} (hN : NetOk N) (q : Q (encW true (w0 N)) s) : wx X (m_start [netD N] s) Q := by
  have h5 := hN.p5
  have h8 := hN.c8
  unfold m_start
  refine w_run ?_
  show wo (mb_start [some (netD N), none] s) _ _ _ _
  unfold mb_start
  refine o_seq ?_; refine o_set ?_; refine w_m1 ?_; refine w_fld ?_; refine w_var rfl ?_; refine ex_fld rfl ?_; refine x_lenT rfl ?_; refine o_ret ?_; refine w_tup ?_; refine w_cons ?_; refine w_bin ?_; refine w_tup ?_; refine w_cons ?_; refine w_c ?_; refine w_nil ?_; refine And.intro (Nat.le_of_ble_eq_true rfl) ?_; refine w_m1 ?_; refine w_fld ?_; refine w_var rfl ?_; refine ex_fld rfl ?_; refine x_lenT rfl ?_
  rw [List.length_map]
  skip
  refine w_repT (by omega) ?_
  refine w_cons ?_; refine w_bin ?_; refine w_tup ?_; refine w_cons ?_; refine w_c ?_; refine w_nil ?_; refine And.intro (Nat.le_of_ble_eq_true rfl) ?_; refine w_var rfl ?_
  rw [List.length_map]
  refine w_repT (by omega) ?_
  refine w_cons ?_; refine w_bin ?_; refine w_tup ?_; refine w_cons ?_; refine w_tup ?_; refine w_nil ?_; refine And.intro (Nat.le_of_ble_eq_true rfl) ?_; refine w_nil ?_; refine And.intro (Nat.le_of_ble_eq_true rfl) ?_; refine w_var rfl ?_
  refine w_repT (by omega) ?_
  refine w_nil ?_; refine And.intro (Nat.le_of_ble_eq_true rfl) ?_
  rw [← start_enc] at q
  exact fin_same (pl_start N) q
def isAct : Deed → Bool
  | .act _ => true
  | _ => false
theorem w_isAct {d : Deed} {s : Sto} {Q : D → Sto → Prop} (q : ∀ z : Str, (z = "act" ↔ isAct d = true) → Q (.str z) s) : wx X (lift (oIx (encD d) (.int 0) s)) Q := by
  cases d with
  | act r => exact w_ixT (at0 _ _) (q "act" ⟨fun _ => rfl, fun _ => rfl⟩)
  | take r k => exact w_ixT (at0 _ _) (q "take" ⟨fun h => absurd h (by decide), fun h => (by cases h)⟩)
  | lose r k => exact w_ixT (at0 _ _) (q "lose" ⟨fun h => absurd h (by decide), fun h => (by cases h)⟩)
theorem law_true : ∀ ns : List Int, ns.length ≤ 63 → ∃ st', m_law [.scr ns] [] = .ok (.bl true) st' := fun ns hns => by
  suffices hw : wp (m_law [.scr ns] []) fun d _ => d = .bl true by
    obtain ⟨d, st', e, rfl⟩ := w_out hw
    exact ⟨st', e⟩
  have hf : ∀ s : Sto, fin [] (fun d _ => d = .bl true) (.bl true) s := fun s => ⟨.bl true, rfl, by simp [popB], rfl⟩
  unfold m_law
  refine w_run ?_
  show wo (mb_law [some (.scr ns), none, none, none, none, none, none, none, none, none] []) _ _ _ _
  unfold mb_law
  refine o_seq ?_; refine o_set ?_; refine w_callN ?_; refine w_cons ?_; refine w_var rfl ?_; refine w_nil ?_; refine And.intro (rfl : List.length _ = _) ?_
  refine w_pool hns fun cs k kc s h => ?_
  refine o_seq ?_; refine o_set ?_; refine w_callN ?_; refine w_cons ?_; refine w_var rfl ?_; refine w_nil ?_; refine And.intro (rfl : List.length _ = _) ?_
  refine w_lanes h fun s1 N nd xt h1 hN hA hL => ?_
  refine o_seq ?_; refine o_set ?_; refine w_callN ?_; refine w_cons ?_; refine w_var rfl ?_; refine w_cons ?_; refine w_var rfl ?_; refine w_nil ?_; refine And.intro (rfl : List.length _ = _) ?_
  refine w_made h1 hN hA fun s2 h2 => ?_
  refine o_seq ?_; refine o_set ?_; refine w_callN ?_; refine w_cons ?_; refine w_var rfl ?_; refine w_nil ?_; refine And.intro (rfl : List.length _ = _) ?_
  refine w_start hN (hA.px h2) ?_
  refine o_seq ?_; refine o_if ?_; refine w_NotT ?_; refine w_T ?_; refine w_callN ?_; refine w_cons ?_; refine w_callN ?_; refine w_cons ?_; refine w_var rfl ?_; refine w_nil ?_; refine And.intro (rfl : List.length _ = _) ?_
  refine pstart hN ?_
  refine w_cons ?_; refine w_callN ?_; refine w_cons ?_; refine w_var rfl ?_; refine w_nil ?_; refine And.intro (rfl : List.length _ = _) ?_
  refine w_told hN (w0_ok N) (by decide) ?_
  refine w_nil ?_; refine And.intro (rfl : List.length _ = _) ?_
  refine w_same 8 4 _ _ (by decide) (tt_W hN (w0_ok N) (by decide)) ?_
  refine ex_bl ?_; refine if_nT ?_; refine o_nil ?_; refine o_seq ?_; refine o_set ?_; refine w_callN ?_; refine w_cons ?_; refine w_var rfl ?_; refine w_cons ?_; refine w_c ?_; refine w_nil ?_; refine And.intro (rfl : List.length _ = _) ?_
  refine w_take h2 (by decide) (by decide) fun s3 snd h3 hsnd => ?_
  refine o_seq ?_
  refine o_for ?_
  refine w_iRg1 ?_; refine w_bin ?_; refine w_var rfl ?_; refine w_callN ?_; refine w_cons ?_; refine w_var rfl ?_; refine w_cons ?_; refine w_c ?_; refine w_nil ?_; refine And.intro (rfl : List.length _ = _) ?_
  refine w_take h3 (by decide) (by decide) fun s4 z h4 hz => ?_
  refine w_add ?_
  refine ⟨snd + z, by rw [Int.natCast_add], by omega, fun j e s' => j ≤ snd + z ∧ Px cs k kc (s ++ xt) s' ∧ ∃ (w : Wd) (v6 v7 v8 v9 : Option D), e = [some (.scr ns), some (.ref k), some (.ref nd), some (netD N), some (encL w), some (.int snd), v6, v7, v8, v9] ∧ WdOk N j w ∧ ∀ x ∈ w.st, x = 0, ⟨Nat.zero_le _, h4, w0 N, none, none, none, none, rfl, w0_ok N, fun x hx => List.eq_of_mem_replicate hx⟩, fun _ _ _ _ => rfl, ?_, ?_⟩
  · rintro j x hx e s5 ⟨_, h5, w, v6, v7, v8, v9, rfl, hw, hz0⟩
    obtain ⟨hj, rfl⟩ := rng_at hx
    have hlen := poss_len hN hw
    obtain ⟨ra, hra⟩ := ok_act hN hL hw hz0
    refine ⟨_, _, rfl, ?_⟩
    refine o_seq ?_; refine o_set ?_; refine w_callN ?_; refine w_cons ?_; refine w_var rfl ?_; refine w_cons ?_; refine w_var rfl ?_; refine w_nil ?_; refine And.intro (rfl : List.length _ = _) ?_
    refine w_lpossible hN (hA.px h5) hw (by omega) ?_
    refine o_seq ?_
    refine o_mid (fun e s' => s' = s5 ∧ ∃ (l : List Deed) (v8 : Option D), e = [some (.scr ns), some (.ref k), some (.ref nd), some (netD N), some (encL w), some (.int snd), some (.int j), some (.lst (l.map encD)), v8, v9] ∧ (∀ d ∈ l, d ∈ poss N w) ∧ 0 < l.length ∧ l.length ≤ 10000) ?_ ?_
    · refine o_if ?_; refine w_T ?_; refine w_bin ?_; refine w_var rfl ?_; refine w_var rfl ?_; refine w_lt ?_; refine ex_bl ?_
      refine if_d (fun _ => ?_) fun _ => ?_
      · refine o_set ?_
        refine w_compG (poss N w) encD isAct encD ?_ (by omega) ?_ (fun d _ => pl_D d) ?_
        · refine w_iSeq ?_; refine w_var rfl ?_; refine ex_iter rfl ?_
          exact ⟨rfl, rfl⟩
        · intro d hd
          refine ⟨_, rfl, fun acc => ?_⟩
          refine w_T ?_; refine w_bin ?_; refine w_bin ?_; refine w_var rfl ?_; refine w_c ?_
          refine w_isAct fun z hz => ?_
          refine w_c ?_; refine w_eqS ?_; refine ex_bl ?_
          refine ⟨?_, rfl, fun _ => ?_⟩
          · rw [Bool.eq_iff_iff, decide_eq_true_eq]
            exact hz
          · refine w_var rfl ?_
            exact ⟨rfl, rfl⟩
        · have := List.length_filter_le isAct (poss N w)
          exact ⟨rfl, (poss N w).filter isAct, _, rfl, fun d hd => (List.mem_filter.mp hd).1, List.length_pos_of_mem (List.mem_filter.mpr ⟨hra, rfl⟩), by omega⟩
      · refine o_nil ?_
        exact ⟨rfl, poss N w, _, rfl, fun d hd => hd, List.length_pos_of_mem hra, by omega⟩
    rintro e s6 ⟨rfl, l, v8, rfl, hl, hl0, hl1⟩
    refine o_seq ?_; refine o_set ?_; refine w_bin ?_; refine w_var rfl ?_; refine w_callN ?_; refine w_cons ?_; refine w_var rfl ?_; refine w_cons ?_; refine w_m1 ?_; refine w_var rfl ?_; refine x_lenL rfl ?_; refine w_nil ?_; refine And.intro (rfl : List.length _ = _) ?_
    rw [List.length_map]
    refine w_take h5 (by omega) (by omega) fun s7 r h7 hr => ?_
    obtain ⟨d, hd⟩ : ∃ d, l[r]? = some d := ⟨l[r]'(by omega), by simp⟩
    obtain ⟨hok, hcan⟩ := poss_ok (hl d (List.mem_of_getElem? hd))
    have hw' := beh_ok hN hw d hok
    have hz' := beh_zero hL hz0 d
    refine x_ixL rfl (at_e (by assumption)) ?_; refine o_seq ?_; refine o_set ?_; refine w_callN ?_; refine w_cons ?_; refine w_var rfl ?_; refine w_cons ?_; refine w_var rfl ?_; refine w_cons ?_; refine w_var rfl ?_; refine w_nil ?_; refine And.intro (rfl : List.length _ = _) ?_
    refine w_ldone hN (hA.px h7) hw (by omega) hok ?_
    refine o_seq ?_; refine o_if ?_; refine w_NotT ?_; refine w_T ?_; refine w_callN ?_; refine w_cons ?_; refine w_callN ?_; refine w_cons ?_; refine w_var rfl ?_; refine w_cons ?_; refine w_callN ?_; refine w_cons ?_; refine w_var rfl ?_; refine w_nil ?_; refine And.intro (rfl : List.length _ = _) ?_
    refine w_told hN hw (by omega) ?_
    refine w_cons ?_; refine w_var rfl ?_; refine w_nil ?_; refine And.intro (rfl : List.length _ = _) ?_
    refine w_doneV (b := true) hN hw (by omega) (as_enc hok) hcan ?_
    refine w_cons ?_; refine w_callN ?_; refine w_cons ?_; refine w_var rfl ?_; refine w_nil ?_; refine And.intro (rfl : List.length _ = _) ?_
    refine w_told hN hw' (by omega) ?_
    refine w_nil ?_; refine And.intro (rfl : List.length _ = _) ?_
    refine w_same 8 4 _ _ (by decide) (tt_W hN hw' (by omega)) ?_
    refine ex_bl ?_; refine if_nT ?_; refine o_nil ?_; refine o_seq ?_; refine o_set ?_; refine w_var rfl ?_; refine o_if ?_; refine w_AndT ?_; refine w_T ?_; refine w_bin ?_; refine w_var rfl ?_; refine w_bin ?_; refine w_var rfl ?_; refine w_c ?_; refine w_sub ?_; refine w_ge ?_; refine ex_bl ?_
    refine if_d (fun _ => ?_) fun _ => ?_
    · refine w_NotT ?_; refine w_T ?_; refine w_callN ?_; refine w_cons ?_; refine w_var rfl ?_; refine w_cons ?_; refine w_var rfl ?_; refine w_cons ?_; refine w_var rfl ?_; refine w_cons ?_; refine w_var rfl ?_; refine w_nil ?_; refine And.intro (rfl : List.length _ = _) ?_
      refine w_agrees h7 hN hA hw' (by omega) (ok_act hN hL hw' hz') fun s8 h8 => ?_
      refine ex_bl ?_; refine if_nT ?_; refine o_nil ?_
      exact ⟨hj, h8, beh N w d, _, _, _, _, rfl, hw', hz'⟩
    · refine if_F ?_; refine o_nil ?_
      exact ⟨hj, h7, beh N w d, _, _, _, _, rfl, hw', hz'⟩
  · rintro e s5 ⟨_, h5, w, v6, v7, v8, v9, rfl, hw, hz0⟩
    rw [rng_len] at hw
    refine o_ret ?_; refine w_callN ?_; refine w_cons ?_; refine w_var rfl ?_; refine w_cons ?_; refine w_var rfl ?_; refine w_cons ?_; refine w_var rfl ?_; refine w_cons ?_; refine w_var rfl ?_; refine w_nil ?_; refine And.intro (rfl : List.length _ = _) ?_
    exact w_agrees h5 hN hA hw (by omega) (ok_act hN hL hw hz0) fun s8 h8 => hf _
end K

namespace K
open PySem L2 PyProof.Rows Cw
def mkTx {P : Program} {K : PySem.W.Frag} {h : Heap} {mg : Str → Option Value} {C_CutError N_CutError : Addr} {n_CutError q_CutError : Str} {bs_CutError sub_CutError : List Value} {sn_CutError : List Str} {ab_CutError : Bool} {col_CutError : Option Bool} {dd_CutError : Option Addr} {m0_CutError m1_CutError m2_CutError m3_CutError m5_CutError : Option Value} {C_BadValue N_BadValue I_BadValue cda_BadValue cc_BadValue : Addr} {n_BadValue q_BadValue ql_BadValue tx_BadValue fl_BadValue : Str} {bs_BadValue sub_BadValue : List Value} {sn_BadValue : List Str} {ab_BadValue : Bool} {col_BadValue : Option Bool} {dd_BadValue od_BadValue an_BadValue cdd_BadValue cld_BadValue : Option Addr} {m0_BadValue m1_BadValue m2_BadValue m3_BadValue m5_BadValue : Option Value} {oc_BadValue dc_BadValue pm_BadValue ct_BadValue ccl_BadValue cl_BadValue : Value} {osl_BadValue ccs_BadValue csl_BadValue : Array (Option Value)} {vs_BadValue : Array Value} {tf_BadValue : Tok} {k_BadValue : Nat} {a1_BadValue a2_BadValue p1_BadValue p2_BadValue p3_BadValue p4_BadValue p5_BadValue p6_BadValue q1_BadValue q2_BadValue q3_BadValue q4_BadValue : Pos} {C_BadStep N_BadStep I_BadStep cda_BadStep cc_BadStep : Addr} {n_BadStep q_BadStep ql_BadStep tx_BadStep fl_BadStep : Str} {bs_BadStep sub_BadStep : List Value} {sn_BadStep : List Str} {ab_BadStep : Bool} {col_BadStep : Option Bool} {dd_BadStep od_BadStep an_BadStep cdd_BadStep cld_BadStep : Option Addr} {m0_BadStep m1_BadStep m2_BadStep m3_BadStep m5_BadStep : Option Value} {oc_BadStep dc_BadStep pm_BadStep ct_BadStep ccl_BadStep cl_BadStep : Value} {osl_BadStep ccs_BadStep csl_BadStep : Array (Option Value)} {vs_BadStep : Array Value} {tf_BadStep : Tok} {k_BadStep : Nat} {a1_BadStep a2_BadStep p1_BadStep p2_BadStep p3_BadStep p4_BadStep p5_BadStep p6_BadStep q1_BadStep q2_BadStep q3_BadStep q4_BadStep : Pos} {C_Net : Addr} {f_is_whole : Addr} {od_is_whole an_is_whole : Option Addr} {sl_is_whole : Array (Option Value)} {oc_is_whole kV_is_whole dc_is_whole pm_is_whole cd_is_whole ct_is_whole : Value} {f_is_below : Addr} {od_is_below an_is_below : Option Addr} {sl_is_below : Array (Option Value)} {oc_is_below kV_is_below dc_is_below pm_is_below cd_is_below ct_is_below : Value} {f_is_name : Addr} {od_is_name an_is_name : Option Addr} {sl_is_name : Array (Option Value)} {oc_is_name kV_is_name dc_is_name pm_is_name cd_is_name ct_is_name : Value} {f_is_process : Addr} {od_is_process an_is_process : Option Addr} {sl_is_process : Array (Option Value)} {oc_is_process kV_is_process dc_is_process pm_is_process cd_is_process ct_is_process : Value} {f_is_channel : Addr} {od_is_channel an_is_channel : Option Addr} {sl_is_channel : Array (Option Value)} {oc_is_channel kV_is_channel dc_is_channel pm_is_channel cd_is_channel ct_is_channel : Value} {f_is_act : Addr} {od_is_act an_is_act : Option Addr} {sl_is_act : Array (Option Value)} {oc_is_act kV_is_act dc_is_act pm_is_act cd_is_act ct_is_act : Value} {f_is_rule : Addr} {od_is_rule an_is_rule : Option Addr} {sl_is_rule : Array (Option Value)} {oc_is_rule kV_is_rule dc_is_rule pm_is_rule cd_is_rule ct_is_rule : Value} {f__frozen : Addr} {od__frozen an__frozen : Option Addr} {sl__frozen : Array (Option Value)} {oc__frozen kV__frozen dc__frozen pm__frozen cd__frozen ct__frozen : Value} {f__rows : Addr} {od__rows an__rows : Option Addr} {sl__rows : Array (Option Value)} {oc__rows kV__rows dc__rows pm__rows cd__rows ct__rows : Value} {f_Net_init : Addr} {od_Net_init an_Net_init : Option Addr} {sl_Net_init : Array (Option Value)} {oc_Net_init kV_Net_init dc_Net_init pm_Net_init cd_Net_init ct_Net_init : Value} {f_start : Addr} {od_start an_start : Option Addr} {sl_start : Array (Option Value)} {oc_start kV_start dc_start pm_start cd_start ct_start : Value} {f_is_lossy : Addr} {od_is_lossy an_is_lossy : Option Addr} {sl_is_lossy : Array (Option Value)} {oc_is_lossy kV_is_lossy dc_is_lossy pm_is_lossy cd_is_lossy ct_is_lossy : Value} {f_is_ordered : Addr} {od_is_ordered an_is_ordered : Option Addr} {sl_is_ordered : Array (Option Value)} {oc_is_ordered kV_is_ordered dc_is_ordered pm_is_ordered cd_is_ordered ct_is_ordered : Value} {f_as_deed : Addr} {od_as_deed an_as_deed : Option Addr} {sl_as_deed : Array (Option Value)} {oc_as_deed kV_as_deed dc_as_deed pm_as_deed cd_as_deed ct_as_deed : Value} {f_open_messages_of : Addr} {od_open_messages_of an_open_messages_of : Option Addr} {sl_open_messages_of : Array (Option Value)} {oc_open_messages_of kV_open_messages_of dc_open_messages_of pm_open_messages_of cd_open_messages_of ct_open_messages_of : Value} {f_can_do : Addr} {od_can_do an_can_do : Option Addr} {sl_can_do : Array (Option Value)} {oc_can_do kV_can_do dc_can_do pm_can_do cd_can_do ct_can_do : Value} {f_possible : Addr} {od_possible an_possible : Option Addr} {sl_possible : Array (Option Value)} {oc_possible kV_possible dc_possible pm_possible cd_possible ct_possible : Value} {f__with_part : Addr} {od__with_part an__with_part : Option Addr} {sl__with_part : Array (Option Value)} {oc__with_part kV__with_part dc__with_part pm__with_part cd__with_part ct__with_part : Value} {f__without_message : Addr} {od__without_message an__without_message : Option Addr} {sl__without_message : Array (Option Value)} {oc__without_message kV__without_message dc__without_message pm__without_message cd__without_message ct__without_message : Value} {f_behind : Addr} {od_behind an_behind : Option Addr} {sl_behind : Array (Option Value)} {oc_behind kV_behind dc_behind pm_behind cd_behind ct_behind : Value} {f_done : Addr} {od_done an_done : Option Addr} {sl_done : Array (Option Value)} {oc_done kV_done dc_done pm_done cd_done ct_done : Value} {f__law_mixed : Addr} {od__law_mixed an__law_mixed : Option Addr} {sl__law_mixed : Array (Option Value)} {oc__law_mixed kV__law_mixed dc__law_mixed pm__law_mixed cd__law_mixed ct__law_mixed : Value} {f__law_pool : Addr} {od__law_pool an__law_pool : Option Addr} {sl__law_pool : Array (Option Value)} {oc__law_pool kV__law_pool dc__law_pool pm__law_pool cd__law_pool ct__law_pool : Value} {f__law_take : Addr} {od__law_take an__law_take : Option Addr} {sl__law_take : Array (Option Value)} {oc__law_take kV__law_take dc__law_take pm__law_take cd__law_take ct__law_take : Value} {f__law_names : Addr} {od__law_names an__law_names : Option Addr} {sl__law_names : Array (Option Value)} {oc__law_names kV__law_names dc__law_names pm__law_names cd__law_names ct__law_names : Value} {f__law_made : Addr} {od__law_made an__law_made : Option Addr} {sl__law_made : Array (Option Value)} {oc__law_made kV__law_made dc__law_made pm__law_made cd__law_made ct__law_made : Value} {f__law_start : Addr} {od__law_start an__law_start : Option Addr} {sl__law_start : Array (Option Value)} {oc__law_start kV__law_start dc__law_start pm__law_start cd__law_start ct__law_start : Value} {f__law_told : Addr} {od__law_told an__law_told : Option Addr} {sl__law_told : Array (Option Value)} {oc__law_told kV__law_told dc__law_told pm__law_told cd__law_told ct__law_told : Value} {f__law_first : Addr} {od__law_first an__law_first : Option Addr} {sl__law_first : Array (Option Value)} {oc__law_first kV__law_first dc__law_first pm__law_first cd__law_first ct__law_first : Value} {f__law_possible : Addr} {od__law_possible an__law_possible : Option Addr} {sl__law_possible : Array (Option Value)} {oc__law_possible kV__law_possible dc__law_possible pm__law_possible cd__law_possible ct__law_possible : Value} {f__law_done : Addr} {od__law_done an__law_done : Option Addr} {sl__law_done : Array (Option Value)} {oc__law_done kV__law_done dc__law_done pm__law_done cd__law_done ct__law_done : Value} {f__law_near : Addr} {od__law_near an__law_near : Option Addr} {sl__law_near : Array (Option Value)} {oc__law_near kV__law_near dc__law_near pm__law_near cd__law_near ct__law_near : Value} {f__law_same : Addr} {od__law_same an__law_same : Option Addr} {sl__law_same : Array (Option Value)} {oc__law_same kV__law_same dc__law_same pm__law_same cd__law_same ct__law_same : Value} {f__law_lanes : Addr} {od__law_lanes an__law_lanes : Option Addr} {sl__law_lanes : Array (Option Value)} {oc__law_lanes kV__law_lanes dc__law_lanes pm__law_lanes cd__law_lanes ct__law_lanes : Value} {f__law_refused : Addr} {od__law_refused an__law_refused : Option Addr} {sl__law_refused : Array (Option Value)} {oc__law_refused kV__law_refused dc__law_refused pm__law_refused cd__law_refused ct__law_refused : Value} {f__law_agrees : Addr} {od__law_agrees an__law_agrees : Option Addr} {sl__law_agrees : Array (Option Value)} {oc__law_agrees kV__law_agrees dc__law_agrees pm__law_agrees cd__law_agrees ct__law_agrees : Value} {f_law : Addr} {od_law an_law : Option Addr} {sl_law : Array (Option Value)} {oc_law kV_law dc_law pm_law cd_law ct_law : Value} {ga_KINDS : Addr} {gd_KINDS : Option Addr} {gi_KINDS : Array Value} {gn_KINDS : Nat} {gs_KINDS : Array (Option Value)} {t_LETTERS : Tok} {t_MOST_CHANNELS : Tok} {t_MOST_LETTERS : Tok} {t_MOST_PROCESSES : Tok} {t_MOST_RULES : Tok} {t_MOST_STATES : Tok} {t_TOKENS : Tok} (X : K.In h) (G : h.Ns mainGlobals mg)
    (aC_CutError : PySem.W.nsIn K mainGlobals "CutError" = some (some (.ref C_CutError)))
    (xC_CutError : K.lookup C_CutError = some (excClassObj n_CutError q_CutError C_CutError N_CutError bs_CutError ESX.exTail true sn_CutError sub_CutError ab_CutError col_CutError dd_CutError m0_CutError m1_CutError m2_CutError m3_CutError m5_CutError "Exception.__new__"))
    (bi_CutError : PySem.W.findIn K (.ref C_CutError) "__init__" = some (some (.builtin "Exception.__init__")))
    (eC_CutError : PySem.W.subIn K (.ref C_CutError) (.type "BaseException") = some true)
    (hd_CutError : PySem.W.hasDictIn K C_CutError = true)
    (ty_CutError : PySem.W.typeIn K (.ref C_CutError) = some (.type "type"))
    (opq : PySem.W.nsIn K cStatics "thirdparty.any" = some none)
    (sup : PySem.W.nsIn K mainGlobals "super" = some none)
    (htop : (P.main.scope.names.lookup ("super" : Str)).isSome = false)
    (aC_BadValue : PySem.W.nsIn K mainGlobals "BadValue" = some (some (.ref C_BadValue)))
    (xC_BadValue : K.lookup C_BadValue = some (excClassObj n_BadValue q_BadValue C_BadValue N_BadValue bs_BadValue (.ref C_CutError :: ESX.exTail) true sn_BadValue sub_BadValue ab_BadValue col_BadValue dd_BadValue m0_BadValue m1_BadValue m2_BadValue m3_BadValue m5_BadValue "Exception.__new__"))
    (sa_BadValue : PySem.W.findIn K (.ref C_BadValue) "__setattr__" = some (some (.builtin "object.__setattr__")))
    (ga_BadValue : PySem.W.findIn K (.ref C_BadValue) "__getattribute__" = some (some (.builtin "BaseException.__getattribute__")))
    (gg_BadValue : PySem.W.findIn K (.ref C_BadValue) "__getattr__" = some none)
    (no_BadValue : PySem.W.findIn K (.ref C_BadValue) ("at" : Str) = some none)
    (iC_BadValue : PySem.W.findIn K (.ref C_BadValue) "__init__" = some (some (.ref I_BadValue)))
    (tI_BadValue : PySem.W.typeIn K (.ref I_BadValue) = some (.type "function"))
    (kC_BadValue : PySem.W.keepIn K (.ref C_BadValue) = true)
    (eC_BadValue : PySem.W.subIn K (.ref C_BadValue) (.type "BaseException") = some true)
    (ty_BadValue : PySem.W.typeIn K (.ref C_BadValue) = some (.type "type"))
    (hd_BadValue : PySem.W.hasDictIn K C_BadValue = true)
    (lI_BadValue : K.lookup I_BadValue = some ⟨oc_BadValue, od_BadValue, .func (PySem.W.ksFn "__init__" ql_BadValue (E_at.iA a1_BadValue a2_BadValue) (E_at.iB tx_BadValue k_BadValue p1_BadValue p2_BadValue p3_BadValue p4_BadValue p5_BadValue p6_BadValue q1_BadValue q2_BadValue q3_BadValue q4_BadValue) E_at.iS .none .none dc_BadValue pm_BadValue an_BadValue (.ref cda_BadValue) ct_BadValue cc_BadValue), osl_BadValue⟩)
    (cI_BadValue : PySem.W.codeIn K (.ref cda_BadValue) ql_BadValue = true)
    (lc_BadValue : K.lookup cda_BadValue = some ⟨ccl_BadValue, cdd_BadValue, .fields vs_BadValue, ccs_BadValue⟩)
    (v2_BadValue : vs_BadValue[2]? = some (.str fl_BadValue tf_BadValue))
    (fi_BadValue : ((P.main.file : Str) == fl_BadValue) = true)
    (le_BadValue : K.lookup cc_BadValue = some ⟨cl_BadValue, cld_BadValue, .cell (some (.ref C_BadValue)), csl_BadValue⟩)
    (hl_BadValue : (p3_BadValue.endLine == p5_BadValue.line) = true)
    (aC_BadStep : PySem.W.nsIn K mainGlobals "BadStep" = some (some (.ref C_BadStep)))
    (xC_BadStep : K.lookup C_BadStep = some (excClassObj n_BadStep q_BadStep C_BadStep N_BadStep bs_BadStep (.ref C_CutError :: ESX.exTail) true sn_BadStep sub_BadStep ab_BadStep col_BadStep dd_BadStep m0_BadStep m1_BadStep m2_BadStep m3_BadStep m5_BadStep "Exception.__new__"))
    (sa_BadStep : PySem.W.findIn K (.ref C_BadStep) "__setattr__" = some (some (.builtin "object.__setattr__")))
    (ga_BadStep : PySem.W.findIn K (.ref C_BadStep) "__getattribute__" = some (some (.builtin "BaseException.__getattribute__")))
    (gg_BadStep : PySem.W.findIn K (.ref C_BadStep) "__getattr__" = some none)
    (no_BadStep : PySem.W.findIn K (.ref C_BadStep) ("at" : Str) = some none)
    (iC_BadStep : PySem.W.findIn K (.ref C_BadStep) "__init__" = some (some (.ref I_BadStep)))
    (tI_BadStep : PySem.W.typeIn K (.ref I_BadStep) = some (.type "function"))
    (kC_BadStep : PySem.W.keepIn K (.ref C_BadStep) = true)
    (eC_BadStep : PySem.W.subIn K (.ref C_BadStep) (.type "BaseException") = some true)
    (ty_BadStep : PySem.W.typeIn K (.ref C_BadStep) = some (.type "type"))
    (hd_BadStep : PySem.W.hasDictIn K C_BadStep = true)
    (lI_BadStep : K.lookup I_BadStep = some ⟨oc_BadStep, od_BadStep, .func (PySem.W.ksFn "__init__" ql_BadStep (E_at.iA a1_BadStep a2_BadStep) (E_at.iB tx_BadStep k_BadStep p1_BadStep p2_BadStep p3_BadStep p4_BadStep p5_BadStep p6_BadStep q1_BadStep q2_BadStep q3_BadStep q4_BadStep) E_at.iS .none .none dc_BadStep pm_BadStep an_BadStep (.ref cda_BadStep) ct_BadStep cc_BadStep), osl_BadStep⟩)
    (cI_BadStep : PySem.W.codeIn K (.ref cda_BadStep) ql_BadStep = true)
    (lc_BadStep : K.lookup cda_BadStep = some ⟨ccl_BadStep, cdd_BadStep, .fields vs_BadStep, ccs_BadStep⟩)
    (v2_BadStep : vs_BadStep[2]? = some (.str fl_BadStep tf_BadStep))
    (fi_BadStep : ((P.main.file : Str) == fl_BadStep) = true)
    (le_BadStep : K.lookup cc_BadStep = some ⟨cl_BadStep, cld_BadStep, .cell (some (.ref C_BadStep)), csl_BadStep⟩)
    (hl_BadStep : (p3_BadStep.endLine == p5_BadStep.line) = true)
    (sb_BadStep_CutError : PySem.W.subIn K (.ref C_CutError) (.ref C_BadStep) = some false)
    (sb_BadStep_BadValue : PySem.W.subIn K (.ref C_BadValue) (.ref C_BadStep) = some false)
    (sb_BadStep_BadStep : PySem.W.subIn K (.ref C_BadStep) (.ref C_BadStep) = some true)
    (aC_Net : PySem.W.nsIn K mainGlobals "Net" = some (some (.ref C_Net)))
    (pg_Net : PySem.W.plainGet K C_Net Str.empty = true)
    (hd_Net : PySem.W.hasDictIn K C_Net = true)
    (po_Net : PySem.W.plainOver K C_Net = true)
    (sa_Net : PySem.W.findIn K (.ref C_Net) "__setattr__" = some (some (.builtin "object.__setattr__")))
    (mk_Net : PySem.W.makesIn K C_Net = true)
    (kc_Net : PySem.W.keepIn K (.ref C_Net) = true)
    (na_Net_channels : PySem.W.findIn K (.ref C_Net) ("channels" : Str) = some none)
    (na_Net_processes : PySem.W.findIn K (.ref C_Net) ("processes" : Str) = some none)
    (na_Net_rules : PySem.W.findIn K (.ref C_Net) ("rules" : Str) = some none)
    (a_is_whole : PySem.W.nsIn K mainGlobals "is_whole" = some (some (.ref f_is_whole)))
    (l_is_whole : K.lookup f_is_whole = some ⟨oc_is_whole, od_is_whole, .func (PySem.W.fnOf "is_whole" "is_whole" (defArgs s_is_whole) (defBody s_is_whole) (defScope s_is_whole) .none kV_is_whole dc_is_whole pm_is_whole an_is_whole cd_is_whole ct_is_whole), sl_is_whole⟩)
    (c_is_whole : PySem.W.codeIn K cd_is_whole "is_whole" = true)
    (k_is_whole : PySem.W.keepIn K (.ref f_is_whole) = true)
    (a_is_below : PySem.W.nsIn K mainGlobals "is_below" = some (some (.ref f_is_below)))
    (l_is_below : K.lookup f_is_below = some ⟨oc_is_below, od_is_below, .func (PySem.W.fnOf "is_below" "is_below" (defArgs s_is_below) (defBody s_is_below) (defScope s_is_below) .none kV_is_below dc_is_below pm_is_below an_is_below cd_is_below ct_is_below), sl_is_below⟩)
    (c_is_below : PySem.W.codeIn K cd_is_below "is_below" = true)
    (k_is_below : PySem.W.keepIn K (.ref f_is_below) = true)
    (a_is_name : PySem.W.nsIn K mainGlobals "is_name" = some (some (.ref f_is_name)))
    (l_is_name : K.lookup f_is_name = some ⟨oc_is_name, od_is_name, .func (PySem.W.fnOf "is_name" "is_name" (defArgs s_is_name) (defBody s_is_name) (defScope s_is_name) .none kV_is_name dc_is_name pm_is_name an_is_name cd_is_name ct_is_name), sl_is_name⟩)
    (c_is_name : PySem.W.codeIn K cd_is_name "is_name" = true)
    (k_is_name : PySem.W.keepIn K (.ref f_is_name) = true)
    (a_is_process : PySem.W.nsIn K mainGlobals "is_process" = some (some (.ref f_is_process)))
    (l_is_process : K.lookup f_is_process = some ⟨oc_is_process, od_is_process, .func (PySem.W.fnOf "is_process" "is_process" (defArgs s_is_process) (defBody s_is_process) (defScope s_is_process) .none kV_is_process dc_is_process pm_is_process an_is_process cd_is_process ct_is_process), sl_is_process⟩)
    (c_is_process : PySem.W.codeIn K cd_is_process "is_process" = true)
    (k_is_process : PySem.W.keepIn K (.ref f_is_process) = true)
    (a_is_channel : PySem.W.nsIn K mainGlobals "is_channel" = some (some (.ref f_is_channel)))
    (l_is_channel : K.lookup f_is_channel = some ⟨oc_is_channel, od_is_channel, .func (PySem.W.fnOf "is_channel" "is_channel" (defArgs s_is_channel) (defBody s_is_channel) (defScope s_is_channel) .none kV_is_channel dc_is_channel pm_is_channel an_is_channel cd_is_channel ct_is_channel), sl_is_channel⟩)
    (c_is_channel : PySem.W.codeIn K cd_is_channel "is_channel" = true)
    (k_is_channel : PySem.W.keepIn K (.ref f_is_channel) = true)
    (a_is_act : PySem.W.nsIn K mainGlobals "is_act" = some (some (.ref f_is_act)))
    (l_is_act : K.lookup f_is_act = some ⟨oc_is_act, od_is_act, .func (PySem.W.fnOf "is_act" "is_act" (defArgs s_is_act) (defBody s_is_act) (defScope s_is_act) .none kV_is_act dc_is_act pm_is_act an_is_act cd_is_act ct_is_act), sl_is_act⟩)
    (c_is_act : PySem.W.codeIn K cd_is_act "is_act" = true)
    (k_is_act : PySem.W.keepIn K (.ref f_is_act) = true)
    (a_is_rule : PySem.W.nsIn K mainGlobals "is_rule" = some (some (.ref f_is_rule)))
    (l_is_rule : K.lookup f_is_rule = some ⟨oc_is_rule, od_is_rule, .func (PySem.W.fnOf "is_rule" "is_rule" (defArgs s_is_rule) (defBody s_is_rule) (defScope s_is_rule) .none kV_is_rule dc_is_rule pm_is_rule an_is_rule cd_is_rule ct_is_rule), sl_is_rule⟩)
    (c_is_rule : PySem.W.codeIn K cd_is_rule "is_rule" = true)
    (k_is_rule : PySem.W.keepIn K (.ref f_is_rule) = true)
    (a__frozen : PySem.W.nsIn K mainGlobals "_frozen" = some (some (.ref f__frozen)))
    (l__frozen : K.lookup f__frozen = some ⟨oc__frozen, od__frozen, .func (PySem.W.fnOf "_frozen" "_frozen" (defArgs s__frozen) (defBody s__frozen) (defScope s__frozen) .none kV__frozen dc__frozen pm__frozen an__frozen cd__frozen ct__frozen), sl__frozen⟩)
    (c__frozen : PySem.W.codeIn K cd__frozen "_frozen" = true)
    (k__frozen : PySem.W.keepIn K (.ref f__frozen) = true)
    (a__rows : PySem.W.nsIn K mainGlobals "_rows" = some (some (.ref f__rows)))
    (l__rows : K.lookup f__rows = some ⟨oc__rows, od__rows, .func (PySem.W.fnOf "_rows" "_rows" (defArgs s__rows) (defBody s__rows) (defScope s__rows) .none kV__rows dc__rows pm__rows an__rows cd__rows ct__rows), sl__rows⟩)
    (c__rows : PySem.W.codeIn K cd__rows "_rows" = true)
    (k__rows : PySem.W.keepIn K (.ref f__rows) = true)
    (a_Net_init : PySem.W.findIn K (.ref C_Net) "__init__" = some (some (.ref f_Net_init)))
    (if_Net_init : PySem.W.isFn K (.ref f_Net_init) = true)
    (l_Net_init : K.lookup f_Net_init = some ⟨oc_Net_init, od_Net_init, .func (PySem.W.fnOf "__init__" "Net.__init__" (defArgs s_Net_init) (defBody s_Net_init) (defScope s_Net_init) .none kV_Net_init dc_Net_init pm_Net_init an_Net_init cd_Net_init ct_Net_init), sl_Net_init⟩)
    (c_Net_init : PySem.W.codeIn K cd_Net_init "Net.__init__" = true)
    (k_Net_init : PySem.W.keepIn K (.ref f_Net_init) = true)
    (a_start : PySem.W.nsIn K mainGlobals "start" = some (some (.ref f_start)))
    (l_start : K.lookup f_start = some ⟨oc_start, od_start, .func (PySem.W.fnOf "start" "start" (defArgs s_start) (defBody s_start) (defScope s_start) .none kV_start dc_start pm_start an_start cd_start ct_start), sl_start⟩)
    (c_start : PySem.W.codeIn K cd_start "start" = true)
    (k_start : PySem.W.keepIn K (.ref f_start) = true)
    (a_is_lossy : PySem.W.nsIn K mainGlobals "is_lossy" = some (some (.ref f_is_lossy)))
    (l_is_lossy : K.lookup f_is_lossy = some ⟨oc_is_lossy, od_is_lossy, .func (PySem.W.fnOf "is_lossy" "is_lossy" (defArgs s_is_lossy) (defBody s_is_lossy) (defScope s_is_lossy) .none kV_is_lossy dc_is_lossy pm_is_lossy an_is_lossy cd_is_lossy ct_is_lossy), sl_is_lossy⟩)
    (c_is_lossy : PySem.W.codeIn K cd_is_lossy "is_lossy" = true)
    (k_is_lossy : PySem.W.keepIn K (.ref f_is_lossy) = true)
    (a_is_ordered : PySem.W.nsIn K mainGlobals "is_ordered" = some (some (.ref f_is_ordered)))
    (l_is_ordered : K.lookup f_is_ordered = some ⟨oc_is_ordered, od_is_ordered, .func (PySem.W.fnOf "is_ordered" "is_ordered" (defArgs s_is_ordered) (defBody s_is_ordered) (defScope s_is_ordered) .none kV_is_ordered dc_is_ordered pm_is_ordered an_is_ordered cd_is_ordered ct_is_ordered), sl_is_ordered⟩)
    (c_is_ordered : PySem.W.codeIn K cd_is_ordered "is_ordered" = true)
    (k_is_ordered : PySem.W.keepIn K (.ref f_is_ordered) = true)
    (a_as_deed : PySem.W.nsIn K mainGlobals "as_deed" = some (some (.ref f_as_deed)))
    (l_as_deed : K.lookup f_as_deed = some ⟨oc_as_deed, od_as_deed, .func (PySem.W.fnOf "as_deed" "as_deed" (defArgs s_as_deed) (defBody s_as_deed) (defScope s_as_deed) .none kV_as_deed dc_as_deed pm_as_deed an_as_deed cd_as_deed ct_as_deed), sl_as_deed⟩)
    (c_as_deed : PySem.W.codeIn K cd_as_deed "as_deed" = true)
    (k_as_deed : PySem.W.keepIn K (.ref f_as_deed) = true)
    (a_open_messages_of : PySem.W.nsIn K mainGlobals "open_messages_of" = some (some (.ref f_open_messages_of)))
    (l_open_messages_of : K.lookup f_open_messages_of = some ⟨oc_open_messages_of, od_open_messages_of, .func (PySem.W.fnOf "open_messages_of" "open_messages_of" (defArgs s_open_messages_of) (defBody s_open_messages_of) (defScope s_open_messages_of) .none kV_open_messages_of dc_open_messages_of pm_open_messages_of an_open_messages_of cd_open_messages_of ct_open_messages_of), sl_open_messages_of⟩)
    (c_open_messages_of : PySem.W.codeIn K cd_open_messages_of "open_messages_of" = true)
    (k_open_messages_of : PySem.W.keepIn K (.ref f_open_messages_of) = true)
    (a_can_do : PySem.W.nsIn K mainGlobals "can_do" = some (some (.ref f_can_do)))
    (l_can_do : K.lookup f_can_do = some ⟨oc_can_do, od_can_do, .func (PySem.W.fnOf "can_do" "can_do" (defArgs s_can_do) (defBody s_can_do) (defScope s_can_do) .none kV_can_do dc_can_do pm_can_do an_can_do cd_can_do ct_can_do), sl_can_do⟩)
    (c_can_do : PySem.W.codeIn K cd_can_do "can_do" = true)
    (k_can_do : PySem.W.keepIn K (.ref f_can_do) = true)
    (a_possible : PySem.W.nsIn K mainGlobals "possible" = some (some (.ref f_possible)))
    (l_possible : K.lookup f_possible = some ⟨oc_possible, od_possible, .func (PySem.W.fnOf "possible" "possible" (defArgs s_possible) (defBody s_possible) (defScope s_possible) .none kV_possible dc_possible pm_possible an_possible cd_possible ct_possible), sl_possible⟩)
    (c_possible : PySem.W.codeIn K cd_possible "possible" = true)
    (k_possible : PySem.W.keepIn K (.ref f_possible) = true)
    (a__with_part : PySem.W.nsIn K mainGlobals "_with_part" = some (some (.ref f__with_part)))
    (l__with_part : K.lookup f__with_part = some ⟨oc__with_part, od__with_part, .func (PySem.W.fnOf "_with_part" "_with_part" (defArgs s__with_part) (defBody s__with_part) (defScope s__with_part) .none kV__with_part dc__with_part pm__with_part an__with_part cd__with_part ct__with_part), sl__with_part⟩)
    (c__with_part : PySem.W.codeIn K cd__with_part "_with_part" = true)
    (k__with_part : PySem.W.keepIn K (.ref f__with_part) = true)
    (a__without_message : PySem.W.nsIn K mainGlobals "_without_message" = some (some (.ref f__without_message)))
    (l__without_message : K.lookup f__without_message = some ⟨oc__without_message, od__without_message, .func (PySem.W.fnOf "_without_message" "_without_message" (defArgs s__without_message) (defBody s__without_message) (defScope s__without_message) .none kV__without_message dc__without_message pm__without_message an__without_message cd__without_message ct__without_message), sl__without_message⟩)
    (c__without_message : PySem.W.codeIn K cd__without_message "_without_message" = true)
    (k__without_message : PySem.W.keepIn K (.ref f__without_message) = true)
    (a_behind : PySem.W.nsIn K mainGlobals "behind" = some (some (.ref f_behind)))
    (l_behind : K.lookup f_behind = some ⟨oc_behind, od_behind, .func (PySem.W.fnOf "behind" "behind" (defArgs s_behind) (defBody s_behind) (defScope s_behind) .none kV_behind dc_behind pm_behind an_behind cd_behind ct_behind), sl_behind⟩)
    (c_behind : PySem.W.codeIn K cd_behind "behind" = true)
    (k_behind : PySem.W.keepIn K (.ref f_behind) = true)
    (a_done : PySem.W.nsIn K mainGlobals "done" = some (some (.ref f_done)))
    (l_done : K.lookup f_done = some ⟨oc_done, od_done, .func (PySem.W.fnOf "done" "done" (defArgs s_done) (defBody s_done) (defScope s_done) .none kV_done dc_done pm_done an_done cd_done ct_done), sl_done⟩)
    (c_done : PySem.W.codeIn K cd_done "done" = true)
    (k_done : PySem.W.keepIn K (.ref f_done) = true)
    (a__law_mixed : PySem.W.nsIn K mainGlobals "_law_mixed" = some (some (.ref f__law_mixed)))
    (l__law_mixed : K.lookup f__law_mixed = some ⟨oc__law_mixed, od__law_mixed, .func (PySem.W.fnOf "_law_mixed" "_law_mixed" (defArgs s__law_mixed) (defBody s__law_mixed) (defScope s__law_mixed) .none kV__law_mixed dc__law_mixed pm__law_mixed an__law_mixed cd__law_mixed ct__law_mixed), sl__law_mixed⟩)
    (c__law_mixed : PySem.W.codeIn K cd__law_mixed "_law_mixed" = true)
    (k__law_mixed : PySem.W.keepIn K (.ref f__law_mixed) = true)
    (a__law_pool : PySem.W.nsIn K mainGlobals "_law_pool" = some (some (.ref f__law_pool)))
    (l__law_pool : K.lookup f__law_pool = some ⟨oc__law_pool, od__law_pool, .func (PySem.W.fnOf "_law_pool" "_law_pool" (defArgs s__law_pool) (defBody s__law_pool) (defScope s__law_pool) .none kV__law_pool dc__law_pool pm__law_pool an__law_pool cd__law_pool ct__law_pool), sl__law_pool⟩)
    (c__law_pool : PySem.W.codeIn K cd__law_pool "_law_pool" = true)
    (k__law_pool : PySem.W.keepIn K (.ref f__law_pool) = true)
    (a__law_take : PySem.W.nsIn K mainGlobals "_law_take" = some (some (.ref f__law_take)))
    (l__law_take : K.lookup f__law_take = some ⟨oc__law_take, od__law_take, .func (PySem.W.fnOf "_law_take" "_law_take" (defArgs s__law_take) (defBody s__law_take) (defScope s__law_take) .none kV__law_take dc__law_take pm__law_take an__law_take cd__law_take ct__law_take), sl__law_take⟩)
    (c__law_take : PySem.W.codeIn K cd__law_take "_law_take" = true)
    (k__law_take : PySem.W.keepIn K (.ref f__law_take) = true)
    (a__law_names : PySem.W.nsIn K mainGlobals "_law_names" = some (some (.ref f__law_names)))
    (l__law_names : K.lookup f__law_names = some ⟨oc__law_names, od__law_names, .func (PySem.W.fnOf "_law_names" "_law_names" (defArgs s__law_names) (defBody s__law_names) (defScope s__law_names) .none kV__law_names dc__law_names pm__law_names an__law_names cd__law_names ct__law_names), sl__law_names⟩)
    (c__law_names : PySem.W.codeIn K cd__law_names "_law_names" = true)
    (k__law_names : PySem.W.keepIn K (.ref f__law_names) = true)
    (a__law_made : PySem.W.nsIn K mainGlobals "_law_made" = some (some (.ref f__law_made)))
    (l__law_made : K.lookup f__law_made = some ⟨oc__law_made, od__law_made, .func (PySem.W.fnOf "_law_made" "_law_made" (defArgs s__law_made) (defBody s__law_made) (defScope s__law_made) .none kV__law_made dc__law_made pm__law_made an__law_made cd__law_made ct__law_made), sl__law_made⟩)
    (c__law_made : PySem.W.codeIn K cd__law_made "_law_made" = true)
    (k__law_made : PySem.W.keepIn K (.ref f__law_made) = true)
    (a__law_start : PySem.W.nsIn K mainGlobals "_law_start" = some (some (.ref f__law_start)))
    (l__law_start : K.lookup f__law_start = some ⟨oc__law_start, od__law_start, .func (PySem.W.fnOf "_law_start" "_law_start" (defArgs s__law_start) (defBody s__law_start) (defScope s__law_start) .none kV__law_start dc__law_start pm__law_start an__law_start cd__law_start ct__law_start), sl__law_start⟩)
    (c__law_start : PySem.W.codeIn K cd__law_start "_law_start" = true)
    (k__law_start : PySem.W.keepIn K (.ref f__law_start) = true)
    (a__law_told : PySem.W.nsIn K mainGlobals "_law_told" = some (some (.ref f__law_told)))
    (l__law_told : K.lookup f__law_told = some ⟨oc__law_told, od__law_told, .func (PySem.W.fnOf "_law_told" "_law_told" (defArgs s__law_told) (defBody s__law_told) (defScope s__law_told) .none kV__law_told dc__law_told pm__law_told an__law_told cd__law_told ct__law_told), sl__law_told⟩)
    (c__law_told : PySem.W.codeIn K cd__law_told "_law_told" = true)
    (k__law_told : PySem.W.keepIn K (.ref f__law_told) = true)
    (a__law_first : PySem.W.nsIn K mainGlobals "_law_first" = some (some (.ref f__law_first)))
    (l__law_first : K.lookup f__law_first = some ⟨oc__law_first, od__law_first, .func (PySem.W.fnOf "_law_first" "_law_first" (defArgs s__law_first) (defBody s__law_first) (defScope s__law_first) .none kV__law_first dc__law_first pm__law_first an__law_first cd__law_first ct__law_first), sl__law_first⟩)
    (c__law_first : PySem.W.codeIn K cd__law_first "_law_first" = true)
    (k__law_first : PySem.W.keepIn K (.ref f__law_first) = true)
    (a__law_possible : PySem.W.nsIn K mainGlobals "_law_possible" = some (some (.ref f__law_possible)))
    (l__law_possible : K.lookup f__law_possible = some ⟨oc__law_possible, od__law_possible, .func (PySem.W.fnOf "_law_possible" "_law_possible" (defArgs s__law_possible) (defBody s__law_possible) (defScope s__law_possible) .none kV__law_possible dc__law_possible pm__law_possible an__law_possible cd__law_possible ct__law_possible), sl__law_possible⟩)
    (c__law_possible : PySem.W.codeIn K cd__law_possible "_law_possible" = true)
    (k__law_possible : PySem.W.keepIn K (.ref f__law_possible) = true)
    (a__law_done : PySem.W.nsIn K mainGlobals "_law_done" = some (some (.ref f__law_done)))
    (l__law_done : K.lookup f__law_done = some ⟨oc__law_done, od__law_done, .func (PySem.W.fnOf "_law_done" "_law_done" (defArgs s__law_done) (defBody s__law_done) (defScope s__law_done) .none kV__law_done dc__law_done pm__law_done an__law_done cd__law_done ct__law_done), sl__law_done⟩)
    (c__law_done : PySem.W.codeIn K cd__law_done "_law_done" = true)
    (k__law_done : PySem.W.keepIn K (.ref f__law_done) = true)
    (a__law_near : PySem.W.nsIn K mainGlobals "_law_near" = some (some (.ref f__law_near)))
    (l__law_near : K.lookup f__law_near = some ⟨oc__law_near, od__law_near, .func (PySem.W.fnOf "_law_near" "_law_near" (defArgs s__law_near) (defBody s__law_near) (defScope s__law_near) .none kV__law_near dc__law_near pm__law_near an__law_near cd__law_near ct__law_near), sl__law_near⟩)
    (c__law_near : PySem.W.codeIn K cd__law_near "_law_near" = true)
    (k__law_near : PySem.W.keepIn K (.ref f__law_near) = true)
    (a__law_same : PySem.W.nsIn K mainGlobals "_law_same" = some (some (.ref f__law_same)))
    (l__law_same : K.lookup f__law_same = some ⟨oc__law_same, od__law_same, .func (PySem.W.fnOf "_law_same" "_law_same" (defArgs s__law_same) (defBody s__law_same) (defScope s__law_same) .none kV__law_same dc__law_same pm__law_same an__law_same cd__law_same ct__law_same), sl__law_same⟩)
    (c__law_same : PySem.W.codeIn K cd__law_same "_law_same" = true)
    (k__law_same : PySem.W.keepIn K (.ref f__law_same) = true)
    (a__law_lanes : PySem.W.nsIn K mainGlobals "_law_lanes" = some (some (.ref f__law_lanes)))
    (l__law_lanes : K.lookup f__law_lanes = some ⟨oc__law_lanes, od__law_lanes, .func (PySem.W.fnOf "_law_lanes" "_law_lanes" (defArgs s__law_lanes) (defBody s__law_lanes) (defScope s__law_lanes) .none kV__law_lanes dc__law_lanes pm__law_lanes an__law_lanes cd__law_lanes ct__law_lanes), sl__law_lanes⟩)
    (c__law_lanes : PySem.W.codeIn K cd__law_lanes "_law_lanes" = true)
    (k__law_lanes : PySem.W.keepIn K (.ref f__law_lanes) = true)
    (a__law_refused : PySem.W.nsIn K mainGlobals "_law_refused" = some (some (.ref f__law_refused)))
    (l__law_refused : K.lookup f__law_refused = some ⟨oc__law_refused, od__law_refused, .func (PySem.W.fnOf "_law_refused" "_law_refused" (defArgs s__law_refused) (defBody s__law_refused) (defScope s__law_refused) .none kV__law_refused dc__law_refused pm__law_refused an__law_refused cd__law_refused ct__law_refused), sl__law_refused⟩)
    (c__law_refused : PySem.W.codeIn K cd__law_refused "_law_refused" = true)
    (k__law_refused : PySem.W.keepIn K (.ref f__law_refused) = true)
    (a__law_agrees : PySem.W.nsIn K mainGlobals "_law_agrees" = some (some (.ref f__law_agrees)))
    (l__law_agrees : K.lookup f__law_agrees = some ⟨oc__law_agrees, od__law_agrees, .func (PySem.W.fnOf "_law_agrees" "_law_agrees" (defArgs s__law_agrees) (defBody s__law_agrees) (defScope s__law_agrees) .none kV__law_agrees dc__law_agrees pm__law_agrees an__law_agrees cd__law_agrees ct__law_agrees), sl__law_agrees⟩)
    (c__law_agrees : PySem.W.codeIn K cd__law_agrees "_law_agrees" = true)
    (k__law_agrees : PySem.W.keepIn K (.ref f__law_agrees) = true)
    (a_law : PySem.W.nsIn K mainGlobals "law" = some (some (.ref f_law)))
    (l_law : K.lookup f_law = some ⟨oc_law, od_law, .func (PySem.W.fnOf "law" "law" (defArgs s_law) (defBody s_law) (defScope s_law) .none kV_law dc_law pm_law an_law cd_law ct_law), sl_law⟩)
    (c_law : PySem.W.codeIn K cd_law "law" = true)
    (k_law : PySem.W.keepIn K (.ref f_law) = true)
    (z_all : PySem.W.nsIn K mainGlobals "all" = some none)
    (z_bool : PySem.W.nsIn K mainGlobals "bool" = some none)
    (z_enumerate : PySem.W.nsIn K mainGlobals "enumerate" = some none)
    (z_int : PySem.W.nsIn K mainGlobals "int" = some none)
    (z_isinstance : PySem.W.nsIn K mainGlobals "isinstance" = some none)
    (z_len : PySem.W.nsIn K mainGlobals "len" = some none)
    (z_list : PySem.W.nsIn K mainGlobals "list" = some none)
    (z_range : PySem.W.nsIn K mainGlobals "range" = some none)
    (z_str : PySem.W.nsIn K mainGlobals "str" = some none)
    (z_tuple : PySem.W.nsIn K mainGlobals "tuple" = some none)
    (gv_KINDS : PySem.W.nsIn K mainGlobals "KINDS" = some (some (.ref ga_KINDS)))
    (gl_KINDS : K.lookup ga_KINDS = some ⟨.type "tuple", gd_KINDS, .seq gi_KINDS gn_KINDS, gs_KINDS⟩)
    (gt_KINDS : atomB g_KINDS gi_KINDS.toList = true)
    (gv_LETTERS : PySem.W.nsIn K mainGlobals "LETTERS" = some (some (.str ("abcdefghijklmnopqrstuvwxyz" : Str) t_LETTERS)))
    (gv_MOST_CHANNELS : PySem.W.nsIn K mainGlobals "MOST_CHANNELS" = some (some (.int 8 t_MOST_CHANNELS)))
    (gv_MOST_LETTERS : PySem.W.nsIn K mainGlobals "MOST_LETTERS" = some (some (.int 6 t_MOST_LETTERS)))
    (gv_MOST_PROCESSES : PySem.W.nsIn K mainGlobals "MOST_PROCESSES" = some (some (.int 5 t_MOST_PROCESSES)))
    (gv_MOST_RULES : PySem.W.nsIn K mainGlobals "MOST_RULES" = some (some (.int 40 t_MOST_RULES)))
    (gv_MOST_STATES : PySem.W.nsIn K mainGlobals "MOST_STATES" = some (some (.int 8 t_MOST_STATES)))
    (gv_TOKENS : PySem.W.nsIn K mainGlobals "TOKENS" = some (some (.int 10 t_TOKENS))) : Tx P K mg where
  c_CutError := C_CutError
  c_BadValue := C_BadValue
  c_BadStep := C_BadStep
  i_BadValue := I_BadValue
  i_BadStep := I_BadStep
  ca_Net := C_Net
  a_is_whole := f_is_whole
  d_is_whole := PySem.W.fnOf "is_whole" "is_whole" (defArgs s_is_whole) (defBody s_is_whole) (defScope s_is_whole) .none kV_is_whole dc_is_whole pm_is_whole an_is_whole cd_is_whole ct_is_whole
  F_is_whole := fun_mk (st := s_is_whole) l_is_whole c_is_whole k_is_whole
  b_is_whole := L2.Fun.binds (ps := [("value" : Str)]) (fun_mk (st := s_is_whole) l_is_whole c_is_whole k_is_whole) fun _ _ _ _ _ _ us hl => match us, hl with | [_], _ => rfl
  g_is_whole := PySem.W.mg_of X G a_is_whole
  k_is_whole := k_is_whole
  a_is_below := f_is_below
  d_is_below := PySem.W.fnOf "is_below" "is_below" (defArgs s_is_below) (defBody s_is_below) (defScope s_is_below) .none kV_is_below dc_is_below pm_is_below an_is_below cd_is_below ct_is_below
  F_is_below := fun_mk (st := s_is_below) l_is_below c_is_below k_is_below
  b_is_below := L2.Fun.binds (ps := [("value" : Str), ("top" : Str)]) (fun_mk (st := s_is_below) l_is_below c_is_below k_is_below) fun _ _ _ _ _ _ us hl => match us, hl with | [_, _], _ => rfl
  g_is_below := PySem.W.mg_of X G a_is_below
  k_is_below := k_is_below
  a_is_name := f_is_name
  d_is_name := PySem.W.fnOf "is_name" "is_name" (defArgs s_is_name) (defBody s_is_name) (defScope s_is_name) .none kV_is_name dc_is_name pm_is_name an_is_name cd_is_name ct_is_name
  F_is_name := fun_mk (st := s_is_name) l_is_name c_is_name k_is_name
  b_is_name := L2.Fun.binds (ps := [("value" : Str)]) (fun_mk (st := s_is_name) l_is_name c_is_name k_is_name) fun _ _ _ _ _ _ us hl => match us, hl with | [_], _ => rfl
  g_is_name := PySem.W.mg_of X G a_is_name
  k_is_name := k_is_name
  a_is_process := f_is_process
  d_is_process := PySem.W.fnOf "is_process" "is_process" (defArgs s_is_process) (defBody s_is_process) (defScope s_is_process) .none kV_is_process dc_is_process pm_is_process an_is_process cd_is_process ct_is_process
  F_is_process := fun_mk (st := s_is_process) l_is_process c_is_process k_is_process
  b_is_process := L2.Fun.binds (ps := [("value" : Str), ("elder" : Str)]) (fun_mk (st := s_is_process) l_is_process c_is_process k_is_process) fun _ _ _ _ _ _ us hl => match us, hl with | [_, _], _ => rfl
  g_is_process := PySem.W.mg_of X G a_is_process
  k_is_process := k_is_process
  a_is_channel := f_is_channel
  d_is_channel := PySem.W.fnOf "is_channel" "is_channel" (defArgs s_is_channel) (defBody s_is_channel) (defScope s_is_channel) .none kV_is_channel dc_is_channel pm_is_channel an_is_channel cd_is_channel ct_is_channel
  F_is_channel := fun_mk (st := s_is_channel) l_is_channel c_is_channel k_is_channel
  b_is_channel := L2.Fun.binds (ps := [("value" : Str), ("processes" : Str), ("elder" : Str)]) (fun_mk (st := s_is_channel) l_is_channel c_is_channel k_is_channel) fun _ _ _ _ _ _ us hl => match us, hl with | [_, _, _], _ => rfl
  g_is_channel := PySem.W.mg_of X G a_is_channel
  k_is_channel := k_is_channel
  a_is_act := f_is_act
  d_is_act := PySem.W.fnOf "is_act" "is_act" (defArgs s_is_act) (defBody s_is_act) (defScope s_is_act) .none kV_is_act dc_is_act pm_is_act an_is_act cd_is_act ct_is_act
  F_is_act := fun_mk (st := s_is_act) l_is_act c_is_act k_is_act
  b_is_act := L2.Fun.binds (ps := [("act" : Str), ("process" : Str), ("channels" : Str)]) (fun_mk (st := s_is_act) l_is_act c_is_act k_is_act) fun _ _ _ _ _ _ us hl => match us, hl with | [_, _, _], _ => rfl
  g_is_act := PySem.W.mg_of X G a_is_act
  k_is_act := k_is_act
  a_is_rule := f_is_rule
  d_is_rule := PySem.W.fnOf "is_rule" "is_rule" (defArgs s_is_rule) (defBody s_is_rule) (defScope s_is_rule) .none kV_is_rule dc_is_rule pm_is_rule an_is_rule cd_is_rule ct_is_rule
  F_is_rule := fun_mk (st := s_is_rule) l_is_rule c_is_rule k_is_rule
  b_is_rule := L2.Fun.binds (ps := [("value" : Str), ("processes" : Str), ("channels" : Str)]) (fun_mk (st := s_is_rule) l_is_rule c_is_rule k_is_rule) fun _ _ _ _ _ _ us hl => match us, hl with | [_, _, _], _ => rfl
  g_is_rule := PySem.W.mg_of X G a_is_rule
  k_is_rule := k_is_rule
  a__frozen := f__frozen
  d__frozen := PySem.W.fnOf "_frozen" "_frozen" (defArgs s__frozen) (defBody s__frozen) (defScope s__frozen) .none kV__frozen dc__frozen pm__frozen an__frozen cd__frozen ct__frozen
  F__frozen := fun_mk (st := s__frozen) l__frozen c__frozen k__frozen
  b__frozen := L2.Fun.binds (ps := [("value" : Str), ("depth" : Str)]) (fun_mk (st := s__frozen) l__frozen c__frozen k__frozen) fun _ _ _ _ _ _ us hl => match us, hl with | [_, _], _ => rfl
  g__frozen := PySem.W.mg_of X G a__frozen
  k__frozen := k__frozen
  a__rows := f__rows
  d__rows := PySem.W.fnOf "_rows" "_rows" (defArgs s__rows) (defBody s__rows) (defScope s__rows) .none kV__rows dc__rows pm__rows an__rows cd__rows ct__rows
  F__rows := fun_mk (st := s__rows) l__rows c__rows k__rows
  b__rows := L2.Fun.binds (ps := [("value" : Str), ("least" : Str), ("most" : Str)]) (fun_mk (st := s__rows) l__rows c__rows k__rows) fun _ _ _ _ _ _ us hl => match us, hl with | [_, _, _], _ => rfl
  g__rows := PySem.W.mg_of X G a__rows
  k__rows := k__rows
  a_Net_init := f_Net_init
  d_Net_init := PySem.W.fnOf "__init__" "Net.__init__" (defArgs s_Net_init) (defBody s_Net_init) (defScope s_Net_init) .none kV_Net_init dc_Net_init pm_Net_init an_Net_init cd_Net_init ct_Net_init
  F_Net_init := fun_mk (st := s_Net_init) l_Net_init c_Net_init k_Net_init
  b_Net_init := L2.Fun.binds (ps := [("self" : Str), ("processes" : Str), ("channels" : Str), ("rules" : Str)]) (fun_mk (st := s_Net_init) l_Net_init c_Net_init k_Net_init) fun _ _ _ _ _ _ us hl => match us, hl with | [_, _, _, _], _ => rfl
  a_start := f_start
  d_start := PySem.W.fnOf "start" "start" (defArgs s_start) (defBody s_start) (defScope s_start) .none kV_start dc_start pm_start an_start cd_start ct_start
  F_start := fun_mk (st := s_start) l_start c_start k_start
  b_start := L2.Fun.binds (ps := [("net" : Str)]) (fun_mk (st := s_start) l_start c_start k_start) fun _ _ _ _ _ _ us hl => match us, hl with | [_], _ => rfl
  g_start := PySem.W.mg_of X G a_start
  k_start := k_start
  a_is_lossy := f_is_lossy
  d_is_lossy := PySem.W.fnOf "is_lossy" "is_lossy" (defArgs s_is_lossy) (defBody s_is_lossy) (defScope s_is_lossy) .none kV_is_lossy dc_is_lossy pm_is_lossy an_is_lossy cd_is_lossy ct_is_lossy
  F_is_lossy := fun_mk (st := s_is_lossy) l_is_lossy c_is_lossy k_is_lossy
  b_is_lossy := L2.Fun.binds (ps := [("net" : Str), ("channel" : Str)]) (fun_mk (st := s_is_lossy) l_is_lossy c_is_lossy k_is_lossy) fun _ _ _ _ _ _ us hl => match us, hl with | [_, _], _ => rfl
  g_is_lossy := PySem.W.mg_of X G a_is_lossy
  k_is_lossy := k_is_lossy
  a_is_ordered := f_is_ordered
  d_is_ordered := PySem.W.fnOf "is_ordered" "is_ordered" (defArgs s_is_ordered) (defBody s_is_ordered) (defScope s_is_ordered) .none kV_is_ordered dc_is_ordered pm_is_ordered an_is_ordered cd_is_ordered ct_is_ordered
  F_is_ordered := fun_mk (st := s_is_ordered) l_is_ordered c_is_ordered k_is_ordered
  b_is_ordered := L2.Fun.binds (ps := [("net" : Str), ("channel" : Str)]) (fun_mk (st := s_is_ordered) l_is_ordered c_is_ordered k_is_ordered) fun _ _ _ _ _ _ us hl => match us, hl with | [_, _], _ => rfl
  g_is_ordered := PySem.W.mg_of X G a_is_ordered
  k_is_ordered := k_is_ordered
  a_as_deed := f_as_deed
  d_as_deed := PySem.W.fnOf "as_deed" "as_deed" (defArgs s_as_deed) (defBody s_as_deed) (defScope s_as_deed) .none kV_as_deed dc_as_deed pm_as_deed an_as_deed cd_as_deed ct_as_deed
  F_as_deed := fun_mk (st := s_as_deed) l_as_deed c_as_deed k_as_deed
  b_as_deed := L2.Fun.binds (ps := [("net" : Str), ("deed" : Str)]) (fun_mk (st := s_as_deed) l_as_deed c_as_deed k_as_deed) fun _ _ _ _ _ _ us hl => match us, hl with | [_, _], _ => rfl
  g_as_deed := PySem.W.mg_of X G a_as_deed
  k_as_deed := k_as_deed
  a_open_messages_of := f_open_messages_of
  d_open_messages_of := PySem.W.fnOf "open_messages_of" "open_messages_of" (defArgs s_open_messages_of) (defBody s_open_messages_of) (defScope s_open_messages_of) .none kV_open_messages_of dc_open_messages_of pm_open_messages_of an_open_messages_of cd_open_messages_of ct_open_messages_of
  F_open_messages_of := fun_mk (st := s_open_messages_of) l_open_messages_of c_open_messages_of k_open_messages_of
  b_open_messages_of := L2.Fun.binds (ps := [("net" : Str), ("world" : Str), ("channel" : Str)]) (fun_mk (st := s_open_messages_of) l_open_messages_of c_open_messages_of k_open_messages_of) fun _ _ _ _ _ _ us hl => match us, hl with | [_, _, _], _ => rfl
  g_open_messages_of := PySem.W.mg_of X G a_open_messages_of
  k_open_messages_of := k_open_messages_of
  a_can_do := f_can_do
  d_can_do := PySem.W.fnOf "can_do" "can_do" (defArgs s_can_do) (defBody s_can_do) (defScope s_can_do) .none kV_can_do dc_can_do pm_can_do an_can_do cd_can_do ct_can_do
  F_can_do := fun_mk (st := s_can_do) l_can_do c_can_do k_can_do
  b_can_do := L2.Fun.binds (ps := [("net" : Str), ("world" : Str), ("deed" : Str)]) (fun_mk (st := s_can_do) l_can_do c_can_do k_can_do) fun _ _ _ _ _ _ us hl => match us, hl with | [_, _, _], _ => rfl
  g_can_do := PySem.W.mg_of X G a_can_do
  k_can_do := k_can_do
  a_possible := f_possible
  d_possible := PySem.W.fnOf "possible" "possible" (defArgs s_possible) (defBody s_possible) (defScope s_possible) .none kV_possible dc_possible pm_possible an_possible cd_possible ct_possible
  F_possible := fun_mk (st := s_possible) l_possible c_possible k_possible
  b_possible := L2.Fun.binds (ps := [("net" : Str), ("world" : Str)]) (fun_mk (st := s_possible) l_possible c_possible k_possible) fun _ _ _ _ _ _ us hl => match us, hl with | [_, _], _ => rfl
  g_possible := PySem.W.mg_of X G a_possible
  k_possible := k_possible
  a__with_part := f__with_part
  d__with_part := PySem.W.fnOf "_with_part" "_with_part" (defArgs s__with_part) (defBody s__with_part) (defScope s__with_part) .none kV__with_part dc__with_part pm__with_part an__with_part cd__with_part ct__with_part
  F__with_part := fun_mk (st := s__with_part) l__with_part c__with_part k__with_part
  b__with_part := L2.Fun.binds (ps := [("row" : Str), ("at" : Str), ("part" : Str)]) (fun_mk (st := s__with_part) l__with_part c__with_part k__with_part) fun _ _ _ _ _ _ us hl => match us, hl with | [_, _, _], _ => rfl
  g__with_part := PySem.W.mg_of X G a__with_part
  k__with_part := k__with_part
  a__without_message := f__without_message
  d__without_message := PySem.W.fnOf "_without_message" "_without_message" (defArgs s__without_message) (defBody s__without_message) (defScope s__without_message) .none kV__without_message dc__without_message pm__without_message an__without_message cd__without_message ct__without_message
  F__without_message := fun_mk (st := s__without_message) l__without_message c__without_message k__without_message
  b__without_message := L2.Fun.binds (ps := [("present" : Str), ("channel" : Str), ("k" : Str)]) (fun_mk (st := s__without_message) l__without_message c__without_message k__without_message) fun _ _ _ _ _ _ us hl => match us, hl with | [_, _, _], _ => rfl
  g__without_message := PySem.W.mg_of X G a__without_message
  k__without_message := k__without_message
  a_behind := f_behind
  d_behind := PySem.W.fnOf "behind" "behind" (defArgs s_behind) (defBody s_behind) (defScope s_behind) .none kV_behind dc_behind pm_behind an_behind cd_behind ct_behind
  F_behind := fun_mk (st := s_behind) l_behind c_behind k_behind
  b_behind := L2.Fun.binds (ps := [("net" : Str), ("world" : Str), ("deed" : Str)]) (fun_mk (st := s_behind) l_behind c_behind k_behind) fun _ _ _ _ _ _ us hl => match us, hl with | [_, _, _], _ => rfl
  g_behind := PySem.W.mg_of X G a_behind
  k_behind := k_behind
  a_done := f_done
  d_done := PySem.W.fnOf "done" "done" (defArgs s_done) (defBody s_done) (defScope s_done) .none kV_done dc_done pm_done an_done cd_done ct_done
  F_done := fun_mk (st := s_done) l_done c_done k_done
  b_done := L2.Fun.binds (ps := [("net" : Str), ("world" : Str), ("deed" : Str)]) (fun_mk (st := s_done) l_done c_done k_done) fun _ _ _ _ _ _ us hl => match us, hl with | [_, _, _], _ => rfl
  g_done := PySem.W.mg_of X G a_done
  k_done := k_done
  a__law_mixed := f__law_mixed
  d__law_mixed := PySem.W.fnOf "_law_mixed" "_law_mixed" (defArgs s__law_mixed) (defBody s__law_mixed) (defScope s__law_mixed) .none kV__law_mixed dc__law_mixed pm__law_mixed an__law_mixed cd__law_mixed ct__law_mixed
  F__law_mixed := fun_mk (st := s__law_mixed) l__law_mixed c__law_mixed k__law_mixed
  b__law_mixed := L2.Fun.binds (ps := [("_law_number" : Str), ("_law_turn" : Str), ("_law_many" : Str)]) (fun_mk (st := s__law_mixed) l__law_mixed c__law_mixed k__law_mixed) fun _ _ _ _ _ _ us hl => match us, hl with | [_, _, _], _ => rfl
  g__law_mixed := PySem.W.mg_of X G a__law_mixed
  k__law_mixed := k__law_mixed
  a__law_pool := f__law_pool
  d__law_pool := PySem.W.fnOf "_law_pool" "_law_pool" (defArgs s__law_pool) (defBody s__law_pool) (defScope s__law_pool) .none kV__law_pool dc__law_pool pm__law_pool an__law_pool cd__law_pool ct__law_pool
  F__law_pool := fun_mk (st := s__law_pool) l__law_pool c__law_pool k__law_pool
  b__law_pool := L2.Fun.binds (ps := [("_law_script" : Str)]) (fun_mk (st := s__law_pool) l__law_pool c__law_pool k__law_pool) fun _ _ _ _ _ _ us hl => match us, hl with | [_], _ => rfl
  g__law_pool := PySem.W.mg_of X G a__law_pool
  k__law_pool := k__law_pool
  a__law_take := f__law_take
  d__law_take := PySem.W.fnOf "_law_take" "_law_take" (defArgs s__law_take) (defBody s__law_take) (defScope s__law_take) .none kV__law_take dc__law_take pm__law_take an__law_take cd__law_take ct__law_take
  F__law_take := fun_mk (st := s__law_take) l__law_take c__law_take k__law_take
  b__law_take := L2.Fun.binds (ps := [("_law_pool_here" : Str), ("_law_many" : Str)]) (fun_mk (st := s__law_take) l__law_take c__law_take k__law_take) fun _ _ _ _ _ _ us hl => match us, hl with | [_, _], _ => rfl
  g__law_take := PySem.W.mg_of X G a__law_take
  k__law_take := k__law_take
  a__law_names := f__law_names
  d__law_names := PySem.W.fnOf "_law_names" "_law_names" (defArgs s__law_names) (defBody s__law_names) (defScope s__law_names) .none kV__law_names dc__law_names pm__law_names an__law_names cd__law_names ct__law_names
  F__law_names := fun_mk (st := s__law_names) l__law_names c__law_names k__law_names
  b__law_names := L2.Fun.binds (ps := [("_law_pool_here" : Str), ("_law_many" : Str)]) (fun_mk (st := s__law_names) l__law_names c__law_names k__law_names) fun _ _ _ _ _ _ us hl => match us, hl with | [_, _], _ => rfl
  g__law_names := PySem.W.mg_of X G a__law_names
  k__law_names := k__law_names
  a__law_made := f__law_made
  d__law_made := PySem.W.fnOf "_law_made" "_law_made" (defArgs s__law_made) (defBody s__law_made) (defScope s__law_made) .none kV__law_made dc__law_made pm__law_made an__law_made cd__law_made ct__law_made
  F__law_made := fun_mk (st := s__law_made) l__law_made c__law_made k__law_made
  b__law_made := L2.Fun.binds (ps := [("_law_pool_here" : Str), ("_law_net" : Str)]) (fun_mk (st := s__law_made) l__law_made c__law_made k__law_made) fun _ _ _ _ _ _ us hl => match us, hl with | [_, _], _ => rfl
  g__law_made := PySem.W.mg_of X G a__law_made
  k__law_made := k__law_made
  a__law_start := f__law_start
  d__law_start := PySem.W.fnOf "_law_start" "_law_start" (defArgs s__law_start) (defBody s__law_start) (defScope s__law_start) .none kV__law_start dc__law_start pm__law_start an__law_start cd__law_start ct__law_start
  F__law_start := fun_mk (st := s__law_start) l__law_start c__law_start k__law_start
  b__law_start := L2.Fun.binds (ps := [("_law_net" : Str)]) (fun_mk (st := s__law_start) l__law_start c__law_start k__law_start) fun _ _ _ _ _ _ us hl => match us, hl with | [_], _ => rfl
  g__law_start := PySem.W.mg_of X G a__law_start
  k__law_start := k__law_start
  a__law_told := f__law_told
  d__law_told := PySem.W.fnOf "_law_told" "_law_told" (defArgs s__law_told) (defBody s__law_told) (defScope s__law_told) .none kV__law_told dc__law_told pm__law_told an__law_told cd__law_told ct__law_told
  F__law_told := fun_mk (st := s__law_told) l__law_told c__law_told k__law_told
  b__law_told := L2.Fun.binds (ps := [("_law_world" : Str)]) (fun_mk (st := s__law_told) l__law_told c__law_told k__law_told) fun _ _ _ _ _ _ us hl => match us, hl with | [_], _ => rfl
  g__law_told := PySem.W.mg_of X G a__law_told
  k__law_told := k__law_told
  a__law_first := f__law_first
  d__law_first := PySem.W.fnOf "_law_first" "_law_first" (defArgs s__law_first) (defBody s__law_first) (defScope s__law_first) .none kV__law_first dc__law_first pm__law_first an__law_first cd__law_first ct__law_first
  F__law_first := fun_mk (st := s__law_first) l__law_first c__law_first k__law_first
  b__law_first := L2.Fun.binds (ps := [("_law_net" : Str), ("_law_world" : Str), ("_law_c" : Str)]) (fun_mk (st := s__law_first) l__law_first c__law_first k__law_first) fun _ _ _ _ _ _ us hl => match us, hl with | [_, _, _], _ => rfl
  g__law_first := PySem.W.mg_of X G a__law_first
  k__law_first := k__law_first
  a__law_possible := f__law_possible
  d__law_possible := PySem.W.fnOf "_law_possible" "_law_possible" (defArgs s__law_possible) (defBody s__law_possible) (defScope s__law_possible) .none kV__law_possible dc__law_possible pm__law_possible an__law_possible cd__law_possible ct__law_possible
  F__law_possible := fun_mk (st := s__law_possible) l__law_possible c__law_possible k__law_possible
  b__law_possible := L2.Fun.binds (ps := [("_law_net" : Str), ("_law_world" : Str)]) (fun_mk (st := s__law_possible) l__law_possible c__law_possible k__law_possible) fun _ _ _ _ _ _ us hl => match us, hl with | [_, _], _ => rfl
  g__law_possible := PySem.W.mg_of X G a__law_possible
  k__law_possible := k__law_possible
  a__law_done := f__law_done
  d__law_done := PySem.W.fnOf "_law_done" "_law_done" (defArgs s__law_done) (defBody s__law_done) (defScope s__law_done) .none kV__law_done dc__law_done pm__law_done an__law_done cd__law_done ct__law_done
  F__law_done := fun_mk (st := s__law_done) l__law_done c__law_done k__law_done
  b__law_done := L2.Fun.binds (ps := [("_law_net" : Str), ("_law_world" : Str), ("_law_deed" : Str)]) (fun_mk (st := s__law_done) l__law_done c__law_done k__law_done) fun _ _ _ _ _ _ us hl => match us, hl with | [_, _, _], _ => rfl
  g__law_done := PySem.W.mg_of X G a__law_done
  k__law_done := k__law_done
  a__law_near := f__law_near
  d__law_near := PySem.W.fnOf "_law_near" "_law_near" (defArgs s__law_near) (defBody s__law_near) (defScope s__law_near) .none kV__law_near dc__law_near pm__law_near an__law_near cd__law_near ct__law_near
  F__law_near := fun_mk (st := s__law_near) l__law_near c__law_near k__law_near
  b__law_near := L2.Fun.binds (ps := [("_law_pool_here" : Str), ("_law_net" : Str), ("_law_world" : Str)]) (fun_mk (st := s__law_near) l__law_near c__law_near k__law_near) fun _ _ _ _ _ _ us hl => match us, hl with | [_, _, _], _ => rfl
  g__law_near := PySem.W.mg_of X G a__law_near
  k__law_near := k__law_near
  a__law_same := f__law_same
  d__law_same := PySem.W.fnOf "_law_same" "_law_same" (defArgs s__law_same) (defBody s__law_same) (defScope s__law_same) .none kV__law_same dc__law_same pm__law_same an__law_same cd__law_same ct__law_same
  F__law_same := fun_mk (st := s__law_same) l__law_same c__law_same k__law_same
  b__law_same := L2.Fun.binds (ps := [("_law_actual" : Str), ("_law_due" : Str)]) (fun_mk (st := s__law_same) l__law_same c__law_same k__law_same) fun _ _ _ _ _ _ us hl => match us, hl with | [_, _], _ => rfl
  g__law_same := PySem.W.mg_of X G a__law_same
  k__law_same := k__law_same
  a__law_lanes := f__law_lanes
  d__law_lanes := PySem.W.fnOf "_law_lanes" "_law_lanes" (defArgs s__law_lanes) (defBody s__law_lanes) (defScope s__law_lanes) .none kV__law_lanes dc__law_lanes pm__law_lanes an__law_lanes cd__law_lanes ct__law_lanes
  F__law_lanes := fun_mk (st := s__law_lanes) l__law_lanes c__law_lanes k__law_lanes
  b__law_lanes := L2.Fun.binds (ps := [("_law_pool_here" : Str)]) (fun_mk (st := s__law_lanes) l__law_lanes c__law_lanes k__law_lanes) fun _ _ _ _ _ _ us hl => match us, hl with | [_], _ => rfl
  g__law_lanes := PySem.W.mg_of X G a__law_lanes
  k__law_lanes := k__law_lanes
  a__law_refused := f__law_refused
  d__law_refused := PySem.W.fnOf "_law_refused" "_law_refused" (defArgs s__law_refused) (defBody s__law_refused) (defScope s__law_refused) .none kV__law_refused dc__law_refused pm__law_refused an__law_refused cd__law_refused ct__law_refused
  F__law_refused := fun_mk (st := s__law_refused) l__law_refused c__law_refused k__law_refused
  b__law_refused := L2.Fun.binds (ps := [("_law_made_here" : Str), ("_law_world" : Str), ("_law_deed" : Str)]) (fun_mk (st := s__law_refused) l__law_refused c__law_refused k__law_refused) fun _ _ _ _ _ _ us hl => match us, hl with | [_, _, _], _ => rfl
  g__law_refused := PySem.W.mg_of X G a__law_refused
  k__law_refused := k__law_refused
  a__law_agrees := f__law_agrees
  d__law_agrees := PySem.W.fnOf "_law_agrees" "_law_agrees" (defArgs s__law_agrees) (defBody s__law_agrees) (defScope s__law_agrees) .none kV__law_agrees dc__law_agrees pm__law_agrees an__law_agrees cd__law_agrees ct__law_agrees
  F__law_agrees := fun_mk (st := s__law_agrees) l__law_agrees c__law_agrees k__law_agrees
  b__law_agrees := L2.Fun.binds (ps := [("_law_pool_here" : Str), ("_law_net" : Str), ("_law_made_here" : Str), ("_law_world" : Str)]) (fun_mk (st := s__law_agrees) l__law_agrees c__law_agrees k__law_agrees) fun _ _ _ _ _ _ us hl => match us, hl with | [_, _, _, _], _ => rfl
  g__law_agrees := PySem.W.mg_of X G a__law_agrees
  k__law_agrees := k__law_agrees
  a_law := f_law
  d_law := PySem.W.fnOf "law" "law" (defArgs s_law) (defBody s_law) (defScope s_law) .none kV_law dc_law pm_law an_law cd_law ct_law
  F_law := fun_mk (st := s_law) l_law c_law k_law
  b_law := L2.Fun.binds (ps := [("_law_script" : Str)]) (fun_mk (st := s_law) l_law c_law k_law) fun _ _ _ _ _ _ us hl => match us, hl with | [_], _ => rfl
  g_law := PySem.W.mg_of X G a_law
  k_law := k_law
  n_all := PySem.W.mg_none_of X G z_all
  n_bool := PySem.W.mg_none_of X G z_bool
  n_enumerate := PySem.W.mg_none_of X G z_enumerate
  n_int := PySem.W.mg_none_of X G z_int
  n_isinstance := PySem.W.mg_none_of X G z_isinstance
  n_len := PySem.W.mg_none_of X G z_len
  n_list := PySem.W.mg_none_of X G z_list
  n_range := PySem.W.mg_none_of X G z_range
  n_str := PySem.W.mg_none_of X G z_str
  n_tuple := PySem.W.mg_none_of X G z_tuple
  g_KINDS := ⟨_, _, _, _, _, PySem.W.mg_of X G gv_KINDS, gl_KINDS, atomB_ok gt_KINDS⟩
  g_LETTERS := ⟨_, PySem.W.mg_of X G gv_LETTERS⟩
  g_MOST_CHANNELS := ⟨_, PySem.W.mg_of X G gv_MOST_CHANNELS⟩
  g_MOST_LETTERS := ⟨_, PySem.W.mg_of X G gv_MOST_LETTERS⟩
  g_MOST_PROCESSES := ⟨_, PySem.W.mg_of X G gv_MOST_PROCESSES⟩
  g_MOST_RULES := ⟨_, PySem.W.mg_of X G gv_MOST_RULES⟩
  g_MOST_STATES := ⟨_, PySem.W.mg_of X G gv_MOST_STATES⟩
  g_TOKENS := ⟨_, PySem.W.mg_of X G gv_TOKENS⟩
  e_BadValue := { gC := PySem.W.mg_of X G aC_BadValue, cls := ⟨_, _, _, _, _, _, _, _, _, _, _, _, _, _, _, xC_BadValue, bi_CutError, ⟨_, _, _, _, _, _, _, _, _, _, _, _, _, _, xC_CutError⟩⟩, sa := sa_BadValue, ga := ga_BadValue, gg := gg_BadValue, noN := no_BadValue, iC := iC_BadValue, tC := tI_BadValue, kC := kC_BadValue, exC := eC_BadValue, tyC := ty_BadValue, hdC := hd_BadValue, opq := opq, sup := PySem.W.mg_none_of X G sup, htop := htop, fn := ⟨_, _, _, _, _, _, _, _, _, _, _, _, _, _, _, _, _, _, _, _, _, _, _, _, _, _, _, _, _, _, _, _, _, lI_BadValue, cI_BadValue, lc_BadValue, v2_BadValue, fi_BadValue, le_BadValue, hl_BadValue⟩ }
  x_BadValue := ⟨ga_BadValue, gg_BadValue, eC_BadValue, hd_BadValue⟩
  e_BadStep := { gC := PySem.W.mg_of X G aC_BadStep, cls := ⟨_, _, _, _, _, _, _, _, _, _, _, _, _, _, _, xC_BadStep, bi_CutError, ⟨_, _, _, _, _, _, _, _, _, _, _, _, _, _, xC_CutError⟩⟩, sa := sa_BadStep, ga := ga_BadStep, gg := gg_BadStep, noN := no_BadStep, iC := iC_BadStep, tC := tI_BadStep, kC := kC_BadStep, exC := eC_BadStep, tyC := ty_BadStep, hdC := hd_BadStep, opq := opq, sup := PySem.W.mg_none_of X G sup, htop := htop, fn := ⟨_, _, _, _, _, _, _, _, _, _, _, _, _, _, _, _, _, _, _, _, _, _, _, _, _, _, _, _, _, _, _, _, _, lI_BadStep, cI_BadStep, lc_BadStep, v2_BadStep, fi_BadStep, le_BadStep, hl_BadStep⟩ }
  x_BadStep := ⟨ga_BadStep, gg_BadStep, eC_BadStep, hd_BadStep⟩
  c_Net := PySem.W.mg_of X G aC_Net
  mk_Net := ⟨mk_Net, a_Net_init, if_Net_init, kc_Net⟩
  cl_Net := ⟨pg_Net, hd_Net, po_Net, sa_Net⟩
  na_Net_channels := na_Net_channels
  na_Net_processes := na_Net_processes
  na_Net_rules := na_Net_rules
  xm_BadStep_CutError := PySem.W.exm_ref eC_BadStep hd_BadStep ty_BadStep sb_BadStep_CutError
  xm_BadStep_BadValue := PySem.W.exm_ref eC_BadStep hd_BadStep ty_BadStep sb_BadStep_BadValue
  xm_BadStep_BadStep := PySem.W.exm_ref eC_BadStep hd_BadStep ty_BadStep sb_BadStep_BadStep
def spL (K : PySem.W.Frag) : Sp := fun vs H Q E => ∃ (a : Addr) (ns : List Int), vs = [.ref a] ∧ ns.length ≤ 63 ∧ Only H ∧ SqL K H a (ns.map V.int) ∧ ∀ H', Q (.bl true) H'
theorem law_end {P : Program} {w : World} {K : PySem.W.Frag} {mg : Str → Option Value} {base : Heap} (T : Tx P K mg) : FnOk P w K mg base (L2.CX P w) 14 T.a_law T.d_law [("_law_script" : Str)] (spL K) :=
  (ok_law T).imp fun vs H Q E ⟨a, ns, e, hl, hO, hS, q⟩ => by
    subst e
    obtain ⟨st', e'⟩ := law_true ns hl
    refine ⟨rfl, fun _ => 0, [], [.scr ns], ⟨fun j k hj => absurd hj (Nat.not_lt_zero _), fun k c e => by simp at e⟩, RepL.cons (by unfold Rep; exact ⟨a, rfl, ScrAt.of hS hO⟩) RepL.nil, ?_⟩
    rw [e']
    intro r' H' v _ _ hv
    unfold Rep at hv
    subst hv
    exact q H'
theorem walk {l : PySem.W.OpenLaw} {q : Program} {loose : List Str} {XP : (Str → Option Value) → Heap → Prop} {YP : World → Heap → Prop} {d : DefRec} {Kf : Params → PySem.W.Frag} (hn : l.most = some 63) (hdf : d.params.defaults = []) (hdn : d.name = "law")
    (hY : ∀ (w : World) (h : Heap), YP w h → (Kf w.params).In h)
    (F : ∀ (w : World) (mg : Str → Option Value) (h : Heap), (Kf w.params).In h → h.Ns mainGlobals mg → Nonempty (Tx l.prog (Kf w.params) mg)) :
    PySem.W.WalkO q loose XP YP l.row.toRowW d [] (fun f vs => PySem.call f vs) :=
  L2.walk_of (n := 63) (k := 14) (x := ("_law_script" : Str)) (CX := fun w => L2.CX l.prog w) (sp := fun w => spL (Kf w.params)) hn (by decide) hdf ⟨rfl, by decide, by decide⟩ hY (fun w mg fa h KX G hm => by
    obtain ⟨T⟩ := F w mg h KX G
    rw [hdn] at hm
    have e := hm.symm.trans T.g_law
    cases e
    refine ⟨T.d_law, fun s v => ?_, fun base _ _ => law_end T⟩
    have b := T.b_law
    obtain ⟨oc, od, kV, doc, pm, an, cdv, ct, osl, e, lk, hcd⟩ := T.F_law.ex
    rw [e]
    exact .of_eq rfl) (fun _ _ a ns hl hO hS => ⟨a, ns, rfl, hl, hO, hS, fun _ => rfl⟩) fun _ _ _ _ _ ⟨_, _, _, _, _, _, _, _, _, _, _, _, z⟩ => z

end K
open PySem PySem.W PyProof.Rows
set_option maxRecDepth 100000 in
set_option maxHeartbeats 0 in
theorem PySem.Challenge.cw_cutweave_k07_channels_in_order_and_loose_holds : PySem.Challenge.rw_cutweave_k07_channels_in_order_and_loose.Holds := by
  w_on; o_law; k_head; (case hw => w_witness2)
  k_fill
  refine K.walk (l := PySem.Challenge.rw_cutweave_k07_channels_in_order_and_loose) rfl rfl rfl (fun w h Y => PySem.W.kIn_of Y) ?F
  case F =>
    intro w mg h KX G
    refine' ⟨K.mkTx KX G ?aC_CutError ?xC_CutError ?bi_CutError ?eC_CutError ?hd_CutError ?ty_CutError ?opq ?sup ?htop ?aC_BadValue ?xC_BadValue ?sa_BadValue ?ga_BadValue ?gg_BadValue ?no_BadValue ?iC_BadValue ?tI_BadValue ?kC_BadValue ?eC_BadValue ?ty_BadValue ?hd_BadValue ?lI_BadValue ?cI_BadValue ?lc_BadValue ?v2_BadValue ?fi_BadValue ?le_BadValue ?hl_BadValue ?aC_BadStep ?xC_BadStep ?sa_BadStep ?ga_BadStep ?gg_BadStep ?no_BadStep ?iC_BadStep ?tI_BadStep ?kC_BadStep ?eC_BadStep ?ty_BadStep ?hd_BadStep ?lI_BadStep ?cI_BadStep ?lc_BadStep ?v2_BadStep ?fi_BadStep ?le_BadStep ?hl_BadStep ?sb_BadStep_CutError ?sb_BadStep_BadValue ?sb_BadStep_BadStep ?aC_Net ?pg_Net ?hd_Net ?po_Net ?sa_Net ?mk_Net ?kc_Net ?na_Net_channels ?na_Net_processes ?na_Net_rules ?a_is_whole ?l_is_whole ?c_is_whole ?k_is_whole ?a_is_below ?l_is_below ?c_is_below ?k_is_below ?a_is_name ?l_is_name ?c_is_name ?k_is_name ?a_is_process ?l_is_process ?c_is_process ?k_is_process ?a_is_channel ?l_is_channel ?c_is_channel ?k_is_channel ?a_is_act ?l_is_act ?c_is_act ?k_is_act ?a_is_rule ?l_is_rule ?c_is_rule ?k_is_rule ?a__frozen ?l__frozen ?c__frozen ?k__frozen ?a__rows ?l__rows ?c__rows ?k__rows ?a_Net_init ?if_Net_init ?l_Net_init ?c_Net_init ?k_Net_init ?a_start ?l_start ?c_start ?k_start ?a_is_lossy ?l_is_lossy ?c_is_lossy ?k_is_lossy ?a_is_ordered ?l_is_ordered ?c_is_ordered ?k_is_ordered ?a_as_deed ?l_as_deed ?c_as_deed ?k_as_deed ?a_open_messages_of ?l_open_messages_of ?c_open_messages_of ?k_open_messages_of ?a_can_do ?l_can_do ?c_can_do ?k_can_do ?a_possible ?l_possible ?c_possible ?k_possible ?a__with_part ?l__with_part ?c__with_part ?k__with_part ?a__without_message ?l__without_message ?c__without_message ?k__without_message ?a_behind ?l_behind ?c_behind ?k_behind ?a_done ?l_done ?c_done ?k_done ?a__law_mixed ?l__law_mixed ?c__law_mixed ?k__law_mixed ?a__law_pool ?l__law_pool ?c__law_pool ?k__law_pool ?a__law_take ?l__law_take ?c__law_take ?k__law_take ?a__law_names ?l__law_names ?c__law_names ?k__law_names ?a__law_made ?l__law_made ?c__law_made ?k__law_made ?a__law_start ?l__law_start ?c__law_start ?k__law_start ?a__law_told ?l__law_told ?c__law_told ?k__law_told ?a__law_first ?l__law_first ?c__law_first ?k__law_first ?a__law_possible ?l__law_possible ?c__law_possible ?k__law_possible ?a__law_done ?l__law_done ?c__law_done ?k__law_done ?a__law_near ?l__law_near ?c__law_near ?k__law_near ?a__law_same ?l__law_same ?c__law_same ?k__law_same ?a__law_lanes ?l__law_lanes ?c__law_lanes ?k__law_lanes ?a__law_refused ?l__law_refused ?c__law_refused ?k__law_refused ?a__law_agrees ?l__law_agrees ?c__law_agrees ?k__law_agrees ?a_law ?l_law ?c_law ?k_law ?z_all ?z_bool ?z_enumerate ?z_int ?z_isinstance ?z_len ?z_list ?z_range ?z_str ?z_tuple ?gv_KINDS ?gl_KINDS ?gt_KINDS ?gv_LETTERS ?gv_MOST_CHANNELS ?gv_MOST_LETTERS ?gv_MOST_PROCESSES ?gv_MOST_RULES ?gv_MOST_STATES ?gv_TOKENS⟩
    (case aC_CutError => k_is)
    (case xC_CutError => k_is)
    (case bi_CutError => k_is)
    (case eC_CutError => k_is)
    (case hd_CutError => k_is)
    (case ty_CutError => k_is)
    (case opq => k_is)
    (case sup => k_is)
    (case htop => first | rfl | decide +kernel)
    (case aC_BadValue => k_is)
    (case xC_BadValue => k_is)
    (case sa_BadValue => k_is)
    (case ga_BadValue => k_is)
    (case gg_BadValue => k_is)
    (case no_BadValue => k_is)
    (case iC_BadValue => k_is)
    (case tI_BadValue => k_is)
    (case kC_BadValue => k_is)
    (case eC_BadValue => k_is)
    (case ty_BadValue => k_is)
    (case hd_BadValue => k_is)
    (case lI_BadValue => k_is)
    (case cI_BadValue => k_is)
    (case lc_BadValue => k_is)
    (case v2_BadValue => rfl)
    (case fi_BadValue => first | rfl | decide +kernel)
    (case le_BadValue => k_is)
    (case hl_BadValue => rfl)
    (case aC_BadStep => k_is)
    (case xC_BadStep => k_is)
    (case sa_BadStep => k_is)
    (case ga_BadStep => k_is)
    (case gg_BadStep => k_is)
    (case no_BadStep => k_is)
    (case iC_BadStep => k_is)
    (case tI_BadStep => k_is)
    (case kC_BadStep => k_is)
    (case eC_BadStep => k_is)
    (case ty_BadStep => k_is)
    (case hd_BadStep => k_is)
    (case lI_BadStep => k_is)
    (case cI_BadStep => k_is)
    (case lc_BadStep => k_is)
    (case v2_BadStep => rfl)
    (case fi_BadStep => first | rfl | decide +kernel)
    (case le_BadStep => k_is)
    (case hl_BadStep => rfl)
    (case sb_BadStep_CutError => first | rfl | k_is | decide +kernel)
    (case sb_BadStep_BadValue => first | rfl | k_is | decide +kernel)
    (case sb_BadStep_BadStep => first | rfl | k_is | decide +kernel)
    (case aC_Net => k_is)
    (case pg_Net => k_is)
    (case hd_Net => k_is)
    (case po_Net => k_is)
    (case sa_Net => k_is)
    (case mk_Net => k_is)
    (case kc_Net => k_is)
    (case na_Net_channels => k_is)
    (case na_Net_processes => k_is)
    (case na_Net_rules => k_is)
    (case a_is_whole => k_is)
    (case l_is_whole => k_is)
    (case c_is_whole => k_is)
    (case k_is_whole => k_is)
    (case a_is_below => k_is)
    (case l_is_below => k_is)
    (case c_is_below => k_is)
    (case k_is_below => k_is)
    (case a_is_name => k_is)
    (case l_is_name => k_is)
    (case c_is_name => k_is)
    (case k_is_name => k_is)
    (case a_is_process => k_is)
    (case l_is_process => k_is)
    (case c_is_process => k_is)
    (case k_is_process => k_is)
    (case a_is_channel => k_is)
    (case l_is_channel => k_is)
    (case c_is_channel => k_is)
    (case k_is_channel => k_is)
    (case a_is_act => k_is)
    (case l_is_act => k_is)
    (case c_is_act => k_is)
    (case k_is_act => k_is)
    (case a_is_rule => k_is)
    (case l_is_rule => k_is)
    (case c_is_rule => k_is)
    (case k_is_rule => k_is)
    (case a__frozen => k_is)
    (case l__frozen => k_is)
    (case c__frozen => k_is)
    (case k__frozen => k_is)
    (case a__rows => k_is)
    (case l__rows => k_is)
    (case c__rows => k_is)
    (case k__rows => k_is)
    (case a_Net_init => k_is)
    (case if_Net_init => k_is)
    (case l_Net_init => k_is)
    (case c_Net_init => k_is)
    (case k_Net_init => k_is)
    (case a_start => k_is)
    (case l_start => k_is)
    (case c_start => k_is)
    (case k_start => k_is)
    (case a_is_lossy => k_is)
    (case l_is_lossy => k_is)
    (case c_is_lossy => k_is)
    (case k_is_lossy => k_is)
    (case a_is_ordered => k_is)
    (case l_is_ordered => k_is)
    (case c_is_ordered => k_is)
    (case k_is_ordered => k_is)
    (case a_as_deed => k_is)
    (case l_as_deed => k_is)
    (case c_as_deed => k_is)
    (case k_as_deed => k_is)
    (case a_open_messages_of => k_is)
    (case l_open_messages_of => k_is)
    (case c_open_messages_of => k_is)
    (case k_open_messages_of => k_is)
    (case a_can_do => k_is)
    (case l_can_do => k_is)
    (case c_can_do => k_is)
    (case k_can_do => k_is)
    (case a_possible => k_is)
    (case l_possible => k_is)
    (case c_possible => k_is)
    (case k_possible => k_is)
    (case a__with_part => k_is)
    (case l__with_part => k_is)
    (case c__with_part => k_is)
    (case k__with_part => k_is)
    (case a__without_message => k_is)
    (case l__without_message => k_is)
    (case c__without_message => k_is)
    (case k__without_message => k_is)
    (case a_behind => k_is)
    (case l_behind => k_is)
    (case c_behind => k_is)
    (case k_behind => k_is)
    (case a_done => k_is)
    (case l_done => k_is)
    (case c_done => k_is)
    (case k_done => k_is)
    (case a__law_mixed => k_is)
    (case l__law_mixed => k_is)
    (case c__law_mixed => k_is)
    (case k__law_mixed => k_is)
    (case a__law_pool => k_is)
    (case l__law_pool => k_is)
    (case c__law_pool => k_is)
    (case k__law_pool => k_is)
    (case a__law_take => k_is)
    (case l__law_take => k_is)
    (case c__law_take => k_is)
    (case k__law_take => k_is)
    (case a__law_names => k_is)
    (case l__law_names => k_is)
    (case c__law_names => k_is)
    (case k__law_names => k_is)
    (case a__law_made => k_is)
    (case l__law_made => k_is)
    (case c__law_made => k_is)
    (case k__law_made => k_is)
    (case a__law_start => k_is)
    (case l__law_start => k_is)
    (case c__law_start => k_is)
    (case k__law_start => k_is)
    (case a__law_told => k_is)
    (case l__law_told => k_is)
    (case c__law_told => k_is)
    (case k__law_told => k_is)
    (case a__law_first => k_is)
    (case l__law_first => k_is)
    (case c__law_first => k_is)
    (case k__law_first => k_is)
    (case a__law_possible => k_is)
    (case l__law_possible => k_is)
    (case c__law_possible => k_is)
    (case k__law_possible => k_is)
    (case a__law_done => k_is)
    (case l__law_done => k_is)
    (case c__law_done => k_is)
    (case k__law_done => k_is)
    (case a__law_near => k_is)
    (case l__law_near => k_is)
    (case c__law_near => k_is)
    (case k__law_near => k_is)
    (case a__law_same => k_is)
    (case l__law_same => k_is)
    (case c__law_same => k_is)
    (case k__law_same => k_is)
    (case a__law_lanes => k_is)
    (case l__law_lanes => k_is)
    (case c__law_lanes => k_is)
    (case k__law_lanes => k_is)
    (case a__law_refused => k_is)
    (case l__law_refused => k_is)
    (case c__law_refused => k_is)
    (case k__law_refused => k_is)
    (case a__law_agrees => k_is)
    (case l__law_agrees => k_is)
    (case c__law_agrees => k_is)
    (case k__law_agrees => k_is)
    (case a_law => k_is)
    (case l_law => k_is)
    (case c_law => k_is)
    (case k_law => k_is)
    (case z_all => k_is)
    (case z_bool => k_is)
    (case z_enumerate => k_is)
    (case z_int => k_is)
    (case z_isinstance => k_is)
    (case z_len => k_is)
    (case z_list => k_is)
    (case z_range => k_is)
    (case z_str => k_is)
    (case z_tuple => k_is)
    (case gv_KINDS => k_is)
    (case gl_KINDS => k_is)
    (case gt_KINDS => rfl)
    (case gv_LETTERS => k_is)
    (case gv_MOST_CHANNELS => k_is)
    (case gv_MOST_LETTERS => k_is)
    (case gv_MOST_PROCESSES => k_is)
    (case gv_MOST_RULES => k_is)
    (case gv_MOST_STATES => k_is)
    (case gv_TOKENS => k_is)

