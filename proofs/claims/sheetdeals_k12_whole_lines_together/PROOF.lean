import PyProof.Rows.All
import Wide.All
import OpenK.AllK
import Wide.FinOn
import KE.KStateDown
import HandS.ForMost
import HandS.ForExc
import HandS.Defaults
import HandS.Evl
import HandS.Property
import HandS.IsInst
import HandS.Conv
import HandS.Wide
import HandS.Gcd
import HandS.Style
import HandS.OwnEq
import PyProof.InstNe
import OpenK.KOps
import PyProof.ReprNest
import PyProof.ReprRoads
import HandS.RaiseMore
import HandS.FStr
import HandS.WideBits
import HandS.Text
import HandS.TryOnly
import HandS.Head0
import HandS.Head1
import HandS.Head2
import HandS.HeadEnd
import HandS.HeadHook1
import HandS.HeadHook2
import HandS.HeadHook3
import HandS.HeadHook4
import HandS.Head3
import PySem.Challenge.RW_sheetdeals_k12_whole_lines_together
section
set_option Elab.async false
set_option linter.all false
set_option maxRecDepth 100000
set_option maxHeartbeats 4000000
/-! DL: values as data, what a heap says of them, states, denotations. -/
namespace DL
open PySem PySem.Spec PyProof.Rows L2
open Evl (Ex)

/-- a value as data -/
inductive D where
  | non | bl (b : Bool) | int (i : Int) | str (x : Str)
  | lst (ds : List D) | tup (ds : List D) | ins (c : Nat) (ds : List D) | pot

/-- the two numbers of the drawing pot -/
abbrev Pt := Int × Int
/-- what is reckoned, with the pot threaded; none: nothing is said -/
abbrev Mo (α : Type) := Pt → Option (α × Pt)

/-- the classes: where they stand, the names of their instances' attributes in order -/
abbrev CT := Nat → Option (Addr × List Str)

section
variable (K : PySem.W.Frag) (cs : CT) (ap : Addr) (B : Hp)
mutual
def Rep : D → V → Prop
  | .non, v => v = .non
  | .bl b, v => v = .bl b
  | .int i, v => v = .int i
  | .str x, v => v = .str x
  | .lst ds, v => ∃ a xs, v = .ref a ∧ B a = some (.lst xs) ∧ Reps ds xs
  | .tup ds, v => ∃ a xs, v = .ref a ∧ SqT K B a xs ∧ Reps ds xs
  | .ins c ds, v => ∃ a C fn dx fs, v = .ref a ∧ cs c = some (C, fn) ∧ B a = some (.ins C dx fs) ∧ fs.map (·.1) = fn ∧ Reps ds (fs.map (·.2))
  | .pot, v => v = .ref ap
def Reps : List D → List V → Prop
  | [], xs => xs = []
  | d :: ds, xs => ∃ x r, xs = x :: r ∧ Rep d x ∧ Reps ds r
end
end

section
variable {K : PySem.W.Frag} {cs : CT} {ap : Addr} {B B' : Hp}
theorem rep_mono_aux (e : Ex B B') : (∀ d v, Rep K cs ap B d v → Rep K cs ap B' d v) ∧ (∀ ds xs, Reps K cs ap B ds xs → Reps K cs ap B' ds xs) := by
  refine ⟨fun d => ?_, fun ds => ?_⟩
  · refine D.rec (motive_1 := fun d => ∀ v, Rep K cs ap B d v → Rep K cs ap B' d v) (motive_2 := fun ds => ∀ xs, Reps K cs ap B ds xs → Reps K cs ap B' ds xs)
      ?_ ?_ ?_ ?_ ?_ ?_ ?_ ?_ ?_ ?_ d
    · intro v h; simpa only [Rep] using h
    · intro b v h; simpa only [Rep] using h
    · intro b v h; simpa only [Rep] using h
    · intro b v h; simpa only [Rep] using h
    · intro ds ih v h
      simp only [Rep] at h ⊢
      obtain ⟨a, xs, rfl, h1, h2⟩ := h
      exact ⟨a, xs, rfl, e _ _ h1, ih _ h2⟩
    · intro ds ih v h
      simp only [Rep] at h ⊢
      obtain ⟨a, xs, rfl, h1, h2⟩ := h
      exact ⟨a, xs, rfl, Evl.ex_t e h1, ih _ h2⟩
    · intro c ds ih v h
      simp only [Rep] at h ⊢
      obtain ⟨a, C, fn, dx, fs, rfl, h0, h1, h2, h3⟩ := h
      exact ⟨a, C, fn, dx, fs, rfl, h0, e _ _ h1, h2, ih _ h3⟩
    · intro v h; simpa only [Rep] using h
    · intro xs h; simpa only [Reps] using h
    · intro d ds i1 i2 xs h
      simp only [Reps] at h ⊢
      obtain ⟨x, r, rfl, h1, h2⟩ := h
      exact ⟨x, r, rfl, i1 _ h1, i2 _ h2⟩
  · induction ds with
    | nil => intro xs h; simpa only [Reps] using h
    | cons d ds ih =>
      intro xs h
      simp only [Reps] at h ⊢
      obtain ⟨x, r, rfl, h1, h2⟩ := h
      refine ⟨x, r, rfl, ?_, ih _ h2⟩
      refine D.rec (motive_1 := fun d => ∀ v, Rep K cs ap B d v → Rep K cs ap B' d v) (motive_2 := fun ds => ∀ xs, Reps K cs ap B ds xs → Reps K cs ap B' ds xs)
        ?_ ?_ ?_ ?_ ?_ ?_ ?_ ?_ ?_ ?_ d x h1
      · intro v h; simpa only [Rep] using h
      · intro b v h; simpa only [Rep] using h
      · intro b v h; simpa only [Rep] using h
      · intro b v h; simpa only [Rep] using h
      · intro ds ih v h
        simp only [Rep] at h ⊢
        obtain ⟨a, xs, rfl, h1, h2⟩ := h
        exact ⟨a, xs, rfl, e _ _ h1, ih _ h2⟩
      · intro ds ih v h
        simp only [Rep] at h ⊢
        obtain ⟨a, xs, rfl, h1, h2⟩ := h
        exact ⟨a, xs, rfl, Evl.ex_t e h1, ih _ h2⟩
      · intro c ds ih v h
        simp only [Rep] at h ⊢
        obtain ⟨a, C, fn, dx, fs, rfl, h0, h1, h2, h3⟩ := h
        exact ⟨a, C, fn, dx, fs, rfl, h0, e _ _ h1, h2, ih _ h3⟩
      · intro v h; simpa only [Rep] using h
      · intro xs h; simpa only [Reps] using h
      · intro d ds i1 i2 xs h
        simp only [Reps] at h ⊢
        obtain ⟨x, r, rfl, h1, h2⟩ := h
        exact ⟨x, r, rfl, i1 _ h1, i2 _ h2⟩
theorem Rep.mono {d : D} {v : V} (h : Rep K cs ap B d v) (e : Ex B B') : Rep K cs ap B' d v := (rep_mono_aux e).1 d v h
theorem Reps.mono {ds : List D} {xs : List V} (h : Reps K cs ap B ds xs) (e : Ex B B') : Reps K cs ap B' ds xs := (rep_mono_aux e).2 ds xs h
theorem reps_nil : Reps K cs ap B [] [] := by simp only [Reps]
theorem reps_cons {d : D} {v : V} {ds : List D} {xs : List V} (h : Rep K cs ap B d v) (t : Reps K cs ap B ds xs) : Reps K cs ap B (d :: ds) (v :: xs) := by
  simp only [Reps]; exact ⟨v, xs, rfl, h, t⟩
theorem Reps.length : ∀ {ds : List D} {xs : List V}, Reps K cs ap B ds xs → xs.length = ds.length
  | [], xs, h => by simp only [Reps] at h; rw [h]; rfl
  | d :: ds, xs, h => by
    simp only [Reps] at h
    obtain ⟨x, r, rfl, _, h2⟩ := h
    rw [List.length_cons, List.length_cons, Reps.length h2]
theorem Reps.get : ∀ {ds : List D} {xs : List V} {i : Nat} {d : D}, Reps K cs ap B ds xs → ds[i]? = some d → ∃ x, xs[i]? = some x ∧ Rep K cs ap B d x
  | [], _, _, _, _, e => by simp at e
  | d :: ds, xs, 0, d', h, e => by
    simp only [Reps] at h
    obtain ⟨x, r, rfl, h1, h2⟩ := h
    simp at e; subst e
    exact ⟨x, rfl, h1⟩
  | d :: ds, xs, i + 1, d', h, e => by
    simp only [Reps] at h
    obtain ⟨x, r, rfl, h1, h2⟩ := h
    obtain ⟨y, h3, h4⟩ := Reps.get (i := i) h2 (by simpa using e)
    exact ⟨y, by simpa using h3, h4⟩
theorem Reps.append : ∀ {ds es : List D} {xs ys : List V}, Reps K cs ap B ds xs → Reps K cs ap B es ys → Reps K cs ap B (ds ++ es) (xs ++ ys)
  | [], _, xs, _, h, h' => by simp only [Reps] at h; subst h; exact h'
  | d :: ds, es, xs, ys, h, h' => by
    simp only [Reps] at h
    obtain ⟨x, r, rfl, h1, h2⟩ := h
    exact reps_cons h1 (Reps.append h2 h')
theorem Reps.take : ∀ {ds : List D} {xs : List V} (n : Nat), Reps K cs ap B ds xs → Reps K cs ap B (ds.take n) (xs.take n)
  | _, _, 0, _ => by simp [Reps]
  | [], xs, n + 1, h => by simp only [Reps] at h; subst h; simp [Reps]
  | d :: ds, xs, n + 1, h => by
    simp only [Reps] at h
    obtain ⟨x, r, rfl, h1, h2⟩ := h
    exact reps_cons h1 (Reps.take n h2)
theorem Reps.drop : ∀ {ds : List D} {xs : List V} (n : Nat), Reps K cs ap B ds xs → Reps K cs ap B (ds.drop n) (xs.drop n)
  | _, _, 0, h => h
  | [], xs, n + 1, h => by simp only [Reps] at h; subst h; simp [Reps]
  | d :: ds, xs, n + 1, h => by
    simp only [Reps] at h
    obtain ⟨x, r, rfl, h1, h2⟩ := h
    exact Reps.drop n h2
theorem Reps.set {d : D} {v : V} (r : Rep K cs ap B d v) : ∀ {ds : List D} {xs : List V} (i : Nat), Reps K cs ap B ds xs → Reps K cs ap B (ds.set i d) (xs.set i v)
  | [], xs, i, h => by simp only [Reps] at h; subst h; simp [Reps]
  | d' :: ds, xs, 0, h => by
    simp only [Reps] at h
    obtain ⟨x, t, rfl, h1, h2⟩ := h
    exact reps_cons r h2
  | d' :: ds, xs, i + 1, h => by
    simp only [Reps] at h
    obtain ⟨x, t, rfl, h1, h2⟩ := h
    exact reps_cons h1 (Reps.set r i h2)
theorem Reps.reverse : ∀ {ds : List D} {xs : List V}, Reps K cs ap B ds xs → Reps K cs ap B ds.reverse xs.reverse
  | [], xs, h => by simp only [Reps] at h; subst h; simp [Reps]
  | d :: ds, xs, h => by
    simp only [Reps] at h
    obtain ⟨x, t, rfl, h1, h2⟩ := h
    rw [List.reverse_cons, List.reverse_cons]
    exact (Reps.reverse h2).append (reps_cons h1 reps_nil)
theorem reps_ints : ∀ (ns : List Int), Reps K cs ap B (ns.map D.int) (ns.map V.int)
  | [] => by simp [Reps]
  | n :: ns => reps_cons (by simp only [Rep]) (reps_ints ns)
end

/-- from a heap to a later one: what B knows stays known, what stood stands (but the pot), nothing that stood becomes known -/
structure Nxt (ap : Addr) (B H B' H' : Hp) : Prop where
  bb : Ex B B'
  bh : Ex B' H'
  nw : ∀ a, H a ≠ none → B a = none → B' a = none
  fr : ∀ a o, H a = some o → a ≠ ap → H' a = some o
  nn : ∀ a, H a ≠ none → H' a ≠ none
def PotAt (ap : Addr) (H : Hp) (p : Pt) : Prop := H ap = some (.lst [.int p.1, .int p.2])
theorem Nxt.refl {ap : Addr} {B H : Hp} (e : Ex B H) : Nxt ap B H B H := ⟨Ex.refl _, e, fun _ _ h => h, fun _ _ h _ => h, fun _ h => h⟩
theorem Nxt.trans {ap : Addr} {B H B1 H1 B2 H2 : Hp} (a : Nxt ap B H B1 H1) (b : Nxt ap B1 H1 B2 H2) : Nxt ap B H B2 H2 :=
  ⟨a.bb.trans b.bb, b.bh, fun x h h' => b.nw x (a.nn x h) (a.nw x h h'), fun x o h hp => b.fr x o (a.fr x o h hp) hp, fun x h => b.nn x (a.nn x h)⟩
/-- a new object -/
theorem Nxt.new {ap : Addr} {B H : Hp} {q : Addr} {o : HO} (e : Ex B H) (h : H q = none) : Nxt ap B H (upd B q o) (upd H q o) := by
  have bq : B q = none := Evl.fresh_back e h
  refine ⟨Ex.new bq, fun a u ha => ?_, fun a ha hb => ?_, fun a u ha _ => ?_, fun a ha => ?_⟩
  · by_cases e1 : a = q
    · subst e1; rw [upd_same] at ha ⊢; exact ha
    · rw [upd_ne e1] at ha ⊢; exact e _ _ ha
  · have e1 : a ≠ q := fun z => ha (z ▸ h)
    rw [upd_ne e1]; exact hb
  · have e1 : a ≠ q := fun z => by rw [z, h] at ha; cases ha
    rw [upd_ne e1]; exact ha
  · have e1 : a ≠ q := fun z => ha (z ▸ h)
    rw [upd_ne e1]; exact ha
/-- a new object that is not known (it may change) -/
theorem Nxt.newU {ap : Addr} {B H : Hp} {q : Addr} {o : HO} (e : Ex B H) (h : H q = none) : Nxt ap B H B (upd H q o) := by
  have bq : B q = none := Evl.fresh_back e h
  refine ⟨Ex.refl _, fun a u ha => ?_, fun a ha hb => hb, fun a u ha _ => ?_, fun a ha => ?_⟩
  · have e1 : a ≠ q := fun z => by rw [z, bq] at ha; cases ha
    rw [upd_ne e1]; exact e _ _ ha
  · have e1 : a ≠ q := fun z => by rw [z, h] at ha; cases ha
    rw [upd_ne e1]; exact ha
  · have e1 : a ≠ q := fun z => ha (z ▸ h)
    rw [upd_ne e1]; exact ha
theorem PotAt.new {ap q : Addr} {H : Hp} {p : Pt} {o : HO} (h : PotAt ap H p) (hq : H q = none) : PotAt ap (upd H q o) p := by
  have e1 : ap ≠ q := fun z => by unfold PotAt at h; rw [z, hq] at h; cases h
  unfold PotAt; rw [upd_ne e1]; exact h

/-- a slot: nothing is said; it holds a datum; it holds a list that is this def's own; an instance that is being made -/
inductive SV where
  | un | val (d : D) | own (ds : List D) | mk (c : Nat) (ds : List D)
abbrev Env' := List SV
/-- only this def knows it -/
def SV.prv : SV → Bool
  | .own _ => true
  | .mk _ _ => true
  | _ => false

section
variable (K : PySem.W.Frag) (cs : CT) (ap : Addr)
def SlotOk (B H : Hp) : SV → Option (Option V) → Prop
  | .un, _ => True
  | .val d, o => ∃ v, o = some (some v) ∧ Rep K cs ap B d v
  | .own ds, o => ∃ a xs, o = some (some (.ref a)) ∧ B a = none ∧ H a = some (.lst xs) ∧ Reps K cs ap B ds xs
  | .mk c ds, o => ∃ a C fn dx fs, o = some (some (.ref a)) ∧ cs c = some (C, fn) ∧ B a = none ∧ H a = some (.ins C dx fs) ∧ fs.map (·.1) = fn.take ds.length ∧ fs.length = ds.length ∧ Reps K cs ap B ds (fs.map (·.2))

/-- the state in a def's body (entry: B0, H0) -/
structure Ok (H0 B0 B : Hp) (σ : L2.St) (env : Env') (H : Hp) (p : Pt) : Prop where
  st : Nxt ap B0 H0 B H
  pot : PotAt ap H p
  bap : B ap = none
  hap : H0 ap ≠ none
  sl : ∀ (i : Nat) sv, env[i]? = some sv → SlotOk K cs ap B H sv (σ[i]?)
  prvNew : ∀ (i : Nat) sv a, env[i]? = some sv → sv.prv = true → σ[i]? = some (some (.ref a)) → H0 a = none
  prvNe : ∀ (i j : Nat) sv sv' a, i ≠ j → env[i]? = some sv → env[j]? = some sv' → sv.prv = true → sv'.prv = true → σ[i]? = some (some (.ref a)) → σ[j]? ≠ some (some (.ref a))
  len : σ.length = env.length
  mkAt : ∀ (i : Nat) c ds a, env[i]? = some (.mk c ds) → σ[i]? = some (some (.ref a)) → H0 ap = some (.own a)
end

section
variable {K : PySem.W.Frag} {cs : CT} {ap : Addr} {H0 B0 B H B' H' : Hp} {σ : L2.St} {env : Env'} {p p' : Pt}
theorem Ok.bh (k : Ok K cs ap H0 B0 B σ env H p) : Ex B H := k.st.bh
theorem Ok.ownNew (k : Ok K cs ap H0 B0 B σ env H p) (i : Nat) (ds : List D) (a : Addr) (h : env[i]? = some (.own ds)) (h1 : σ[i]? = some (some (.ref a))) : H0 a = none := k.prvNew i _ a h rfl h1
theorem Ok.ownNe (k : Ok K cs ap H0 B0 B σ env H p) (i j : Nat) (ds es : List D) (a : Addr) (hn : i ≠ j) (h : env[i]? = some (.own ds)) (h' : env[j]? = some (.own es)) (h1 : σ[i]? = some (some (.ref a))) : σ[j]? ≠ some (some (.ref a)) := k.prvNe i j _ _ a hn h h' rfl rfl h1
theorem SlotOk.nxt {sv : SV} {o : Option (Option V)} (hs : SlotOk K cs ap B H sv o) (n : Nxt ap B H B' H') (hp : ∀ a, sv.prv = true → o = some (some (.ref a)) → a ≠ ap) : SlotOk K cs ap B' H' sv o := by
  cases sv with
  | un => trivial
  | val d => obtain ⟨v, h1, h2⟩ := hs; exact ⟨v, h1, h2.mono n.bb⟩
  | own ds =>
    obtain ⟨a, xs, h1, h2, h3, h4⟩ := hs
    exact ⟨a, xs, h1, n.nw a (by rw [h3]; exact fun z => nomatch z) h2, n.fr a _ h3 (hp a rfl h1), h4.mono n.bb⟩
  | mk c ds =>
    obtain ⟨a, C, fn, dx, fs, h1, h2, h3, h4, h5, h6, h7⟩ := hs
    exact ⟨a, C, fn, dx, fs, h1, h2, n.nw a (by rw [h4]; exact fun z => nomatch z) h3, n.fr a _ h4 (hp a rfl h1), h5, h6, h7.mono n.bb⟩
theorem Ok.nxt (k : Ok K cs ap H0 B0 B σ env H p) (n : Nxt ap B H B' H') (hp : PotAt ap H' p') : Ok K cs ap H0 B0 B' σ env H' p' := by
  have hh : H ap ≠ none := k.st.nn _ k.hap
  refine ⟨k.st.trans n, hp, n.nw _ hh k.bap, k.hap, fun i sv h => (k.sl i sv h).nxt n fun a h1 h2 z => ?_, k.prvNew, k.prvNe, k.len, k.mkAt⟩
  exact k.hap (z ▸ k.prvNew i sv a h h1 h2)
theorem SlotOk.un {o : Option (Option V)} : SlotOk K cs ap B H .un o := trivial
/-- a slot becomes a plain one -/
theorem Ok.setp (k : Ok K cs ap H0 B0 B σ env H p) {i : Nat} {sv : SV} {o : Option V} (hi : i < env.length) (hs : SlotOk K cs ap B H sv (some o)) (hp : sv.prv = false) : Ok K cs ap H0 B0 B (σ.set i o) (env.set i sv) H p := by
  refine ⟨k.st, k.pot, k.bap, k.hap, fun j sv' h => ?_, fun j sv' a h g h' => ?_, fun j l s1 s2 a hn h h' g1 g2 g => ?_, by rw [List.length_set, List.length_set]; exact k.len, fun j c ds a h g => ?_⟩
  · by_cases e : i = j
    · subst e
      rw [List.getElem?_set_self hi] at h
      cases h
      rw [List.getElem?_set_self (by rw [k.len]; exact hi)]
      exact hs
    · rw [List.getElem?_set_ne e] at h ⊢
      exact k.sl j sv' h
  · by_cases e : i = j
    · subst e; rw [List.getElem?_set_self hi] at h; cases h; rw [hp] at g; cases g
    · rw [List.getElem?_set_ne e] at h h'; exact k.prvNew j sv' a h g h'
  · by_cases e : i = j
    · subst e; rw [List.getElem?_set_self hi] at h; cases h; rw [hp] at g1; cases g1
    · by_cases e' : i = l
      · subst e'; rw [List.getElem?_set_self hi] at h'; cases h'; rw [hp] at g2; cases g2
      · rw [List.getElem?_set_ne e] at h g
        rw [List.getElem?_set_ne e'] at h' ⊢
        exact k.prvNe j l s1 s2 a hn h h' g1 g2 g
  · by_cases e : i = j
    · subst e; rw [List.getElem?_set_self hi] at h; cases h; cases hp
    · rw [List.getElem?_set_ne e] at h g; exact k.mkAt j c ds a h g
/-- a slot is set to a datum -/
theorem Ok.setv (k : Ok K cs ap H0 B0 B σ env H p) {i : Nat} {d : D} {v : V} (hi : i < env.length) (r : Rep K cs ap B d v) : Ok K cs ap H0 B0 B (σ.set i (some v)) (env.set i (.val d)) H p := k.setp hi ⟨v, rfl, r⟩ rfl
/-- a slot is set to a list of the def's own -/
theorem Ok.seto (k : Ok K cs ap H0 B0 B σ env H p) {i : Nat} {ds : List D} {a : Addr} {xs : List V} (hi : i < env.length) (hb : B a = none) (hh : H a = some (.lst xs)) (r : Reps K cs ap B ds xs)
    (h0 : H0 a = none) (hne : ∀ (j : Nat) es, j ≠ i → env[j]? = some (.own es) → σ[j]? ≠ some (some (.ref a))) : Ok K cs ap H0 B0 B (σ.set i (some (.ref a))) (env.set i (.own ds)) H p := by
  have hne' : ∀ (j : Nat) sv, j ≠ i → env[j]? = some sv → sv.prv = true → σ[j]? ≠ some (some (.ref a)) := by
    intro j sv hj h hp
    cases sv with
    | un => cases hp
    | val d => cases hp
    | own es => exact hne j es hj h
    | mk c es =>
      obtain ⟨b, C, fn, dx, fs, h1, _, _, h4, _⟩ := k.sl j _ h
      intro z
      rw [h1] at z
      cases z
      rw [hh] at h4
      cases h4
  refine ⟨k.st, k.pot, k.bap, k.hap, fun j sv h => ?_, fun j es b h g h' => ?_, fun j l es fs b hn h h' g1 g2 g => ?_, by rw [List.length_set, List.length_set]; exact k.len, fun j c ds a h g => ?_⟩
  · by_cases e : i = j
    · subst e
      rw [List.getElem?_set_self hi] at h
      cases h
      exact ⟨a, xs, List.getElem?_set_self (by rw [k.len]; exact hi), hb, hh, r⟩
    · rw [List.getElem?_set_ne e] at h ⊢
      exact k.sl j sv h
  · by_cases e : i = j
    · subst e
      rw [List.getElem?_set_self (by rw [k.len]; exact hi)] at h'
      cases h'
      exact h0
    · rw [List.getElem?_set_ne e] at h h'; exact k.prvNew j es b h g h'
  · by_cases e : i = j
    · subst e
      rw [List.getElem?_set_self (by rw [k.len]; exact hi)] at g
      cases g
      rw [List.getElem?_set_ne hn] at h' ⊢
      exact hne' l fs (fun z => hn z.symm) h' g2
    · by_cases e' : i = l
      · subst e'
        rw [List.getElem?_set_ne e] at h g
        rw [List.getElem?_set_self (by rw [k.len]; exact hi)]
        intro z
        cases z
        exact hne' j es (fun z => e z.symm) h g1 g
      · rw [List.getElem?_set_ne e] at h g
        rw [List.getElem?_set_ne e'] at h' ⊢
        exact k.prvNe j l es fs b hn h h' g1 g2 g
  · by_cases e : i = j
    · subst e; rw [List.getElem?_set_self hi] at h; cases h
    · rw [List.getElem?_set_ne e] at h g; exact k.mkAt j c ds a h g
/-- less is said of a slot; a private one becomes plain -/
theorem Ok.setd (k : Ok K cs ap H0 B0 B σ env H p) {i : Nat} {sv : SV} (hs : i < env.length → SlotOk K cs ap B H sv (σ[i]?)) (hp : sv.prv = false) : Ok K cs ap H0 B0 B σ (env.set i sv) H p := by
  by_cases hi : i < env.length
  · have hs := hs hi
    refine ⟨k.st, k.pot, k.bap, k.hap, fun j sv' h => ?_, fun j sv' a h g h' => ?_, fun j l s1 s2 a hn h h' g1 g2 g => ?_, by rw [List.length_set]; exact k.len, fun j c ds a h g => ?_⟩
    · by_cases e : i = j
      · subst e; rw [List.getElem?_set_self hi] at h; cases h; exact hs
      · rw [List.getElem?_set_ne e] at h; exact k.sl j sv' h
    · by_cases e : i = j
      · subst e; rw [List.getElem?_set_self hi] at h; cases h; rw [hp] at g; cases g
      · rw [List.getElem?_set_ne e] at h; exact k.prvNew j sv' a h g h'
    · by_cases e : i = j
      · subst e; rw [List.getElem?_set_self hi] at h; cases h; rw [hp] at g1; cases g1
      · by_cases e' : i = l
        · subst e'; rw [List.getElem?_set_self hi] at h'; cases h'; rw [hp] at g2; cases g2
        · rw [List.getElem?_set_ne e] at h
          rw [List.getElem?_set_ne e'] at h'
          exact k.prvNe j l s1 s2 a hn h h' g1 g2 g
    · by_cases e : i = j
      · subst e; rw [List.getElem?_set_self hi] at h; cases h; cases hp
      · rw [List.getElem?_set_ne e] at h; exact k.mkAt j c ds a h g
  · rw [List.set_eq_of_length_le (by omega)]; exact k
/-- more is known: a private object at a -/
theorem Ok.know (k : Ok K cs ap H0 B0 B σ env H p) {i : Nat} {sv : SV} {a : Addr} {o : HO} (h : env[i]? = some sv) (hp : sv.prv = true) (h1 : σ[i]? = some (some (.ref a))) (h2 : B a = none) (h3 : H a = some o) :
    Ex B (upd B a o) ∧ Ok K cs ap H0 B0 (upd B a o) σ (env.set i .un) H p := by
  have ha : H0 a = none := k.prvNew i sv a h hp h1
  have hi : i < env.length := (List.getElem?_eq_some_iff.mp h).1
  have nap : a ≠ ap := fun z => k.hap (z ▸ ha)
  have e1 : Ex B (upd B a o) := Ex.new h2
  refine ⟨e1, ⟨⟨k.st.bb.trans e1, fun b u hb => ?_, fun b hb hb' => ?_, k.st.fr, k.st.nn⟩, k.pot, by rw [upd_ne (fun z => nap z.symm)]; exact k.bap, k.hap, fun j sv' hj => ?_, fun j sv' b hj g1 g => ?_, fun j l s1 s2 b hn hj hl g1 g2 g => ?_, by rw [List.length_set]; exact k.len, fun j c ds b hj g => ?_⟩⟩
  · by_cases e : b = a
    · subst e; rw [upd_same] at hb; rw [h3]; exact hb
    · rw [upd_ne e] at hb; exact k.bh _ _ hb
  · have e : b ≠ a := fun z => hb (z ▸ ha)
    rw [upd_ne e]; exact k.st.nw b hb hb'
  · by_cases e : i = j
    · subst e; rw [List.getElem?_set_self hi] at hj; cases hj; trivial
    · rw [List.getElem?_set_ne e] at hj
      have hs := k.sl j sv' hj
      cases sv' with
      | un => trivial
      | val d => obtain ⟨v, g1, g2⟩ := hs; exact ⟨v, g1, g2.mono e1⟩
      | own es =>
        obtain ⟨b, ys, g1, g2, g3, g4⟩ := hs
        have ne : b ≠ a := fun z => by subst z; exact k.prvNe i j sv (.own es) b e h hj hp rfl h1 g1
        exact ⟨b, ys, g1, by rw [upd_ne ne]; exact g2, g3, g4.mono e1⟩
      | mk c es =>
        obtain ⟨b, C, fn, dx, fs, g1, g2, g3, g4, g5, g6, g7⟩ := hs
        have ne : b ≠ a := fun z => by subst z; exact k.prvNe i j sv (.mk c es) b e h hj hp rfl h1 g1
        exact ⟨b, C, fn, dx, fs, g1, g2, by rw [upd_ne ne]; exact g3, g4, g5, g6, g7.mono e1⟩
  · by_cases e : i = j
    · subst e; rw [List.getElem?_set_self hi] at hj; cases hj; cases g1
    · rw [List.getElem?_set_ne e] at hj; exact k.prvNew j sv' b hj g1 g
  · by_cases e : i = j
    · subst e; rw [List.getElem?_set_self hi] at hj; cases hj; cases g1
    · by_cases e' : i = l
      · subst e'; rw [List.getElem?_set_self hi] at hl; cases hl; cases g2
      · rw [List.getElem?_set_ne e] at hj
        rw [List.getElem?_set_ne e'] at hl
        exact k.prvNe j l s1 s2 b hn hj hl g1 g2 g
  · by_cases e : i = j
    · subst e; rw [List.getElem?_set_self hi] at hj; cases hj
    · rw [List.getElem?_set_ne e] at hj; exact k.mkAt j c ds b hj g
/-- an own list becomes a datum -/
theorem Ok.freeze (k : Ok K cs ap H0 B0 B σ env H p) {i : Nat} {ds : List D} (h : env[i]? = some (.own ds)) : ∃ B', Ex B B' ∧ Ok K cs ap H0 B0 B' σ (env.set i (.val (.lst ds))) H p := by
  obtain ⟨a, xs, h1, h2, h3, h4⟩ := k.sl i _ h
  obtain ⟨e1, k1⟩ := k.know h rfl h1 h2 h3
  have k2 := k1.setd (i := i) (sv := .val (.lst ds)) (fun _ => ⟨_, h1, by simp only [Rep]; exact ⟨a, xs, rfl, upd_same, h4.mono e1⟩⟩) rfl
  rw [List.set_set] at k2
  exact ⟨_, e1, k2⟩
/-- a private object is changed -/
theorem Ok.mutp (k : Ok K cs ap H0 B0 B σ env H p) {i : Nat} {sv sv' : SV} {a : Addr} {o' : HO} (h : env[i]? = some sv) (hp : sv.prv = true) (h1 : σ[i]? = some (some (.ref a))) (h2 : B a = none) (hp' : sv'.prv = true) (hs : SlotOk K cs ap B (upd H a o') sv' (some (some (.ref a)))) (hmk : ∀ c ds, sv' = .mk c ds → ∃ c' ds', sv = .mk c' ds') :
    Ok K cs ap H0 B0 B σ (env.set i sv') (upd H a o') p := by
  have hi : i < env.length := (List.getElem?_eq_some_iff.mp h).1
  have ha : H0 a = none := k.prvNew i sv a h hp h1
  have nap : a ≠ ap := fun z => k.hap (z ▸ ha)
  refine ⟨⟨k.st.bb, fun b o hb => ?_, k.st.nw, fun b o hb hn => ?_, fun b hb => ?_⟩, ?_, k.bap, k.hap, fun j s1 hj => ?_, fun j s1 b hj g1 g => ?_, fun j l s1 s2 b hn hj hl g1 g2 g => ?_, by rw [List.length_set]; exact k.len, fun j c ds b hj g => ?_⟩
  · have e : b ≠ a := fun z => by rw [z, h2] at hb; cases hb
    rw [upd_ne e]; exact k.bh _ _ hb
  · have e : b ≠ a := fun z => by rw [z, ha] at hb; cases hb
    rw [upd_ne e]; exact k.st.fr b o hb hn
  · have e : b ≠ a := fun z => hb (z ▸ ha)
    rw [upd_ne e]; exact k.st.nn b hb
  · unfold PotAt; rw [upd_ne (fun z => nap z.symm)]; exact k.pot
  · by_cases e : i = j
    · subst e
      rw [List.getElem?_set_self hi] at hj
      cases hj
      rw [h1]
      exact hs
    · rw [List.getElem?_set_ne e] at hj
      have hs := k.sl j s1 hj
      cases s1 with
      | un => trivial
      | val d => exact hs
      | own es =>
        obtain ⟨b, ys, g1, g2, g3, g4⟩ := hs
        have ne : b ≠ a := fun z => by subst z; exact k.prvNe i j sv (.own es) b e h hj hp rfl h1 g1
        exact ⟨b, ys, g1, g2, by rw [upd_ne ne]; exact g3, g4⟩
      | mk c es =>
        obtain ⟨b, C, fn, dx, fs, g1, g2, g3, g4, g5, g6, g7⟩ := hs
        have ne : b ≠ a := fun z => by subst z; exact k.prvNe i j sv (.mk c es) b e h hj hp rfl h1 g1
        exact ⟨b, C, fn, dx, fs, g1, g2, g3, by rw [upd_ne ne]; exact g4, g5, g6, g7⟩
  · by_cases e : i = j
    · subst e; exact k.prvNew i sv b h hp g
    · rw [List.getElem?_set_ne e] at hj; exact k.prvNew j s1 b hj g1 g
  · by_cases e : i = j
    · subst e
      rw [List.getElem?_set_ne hn] at hl
      exact k.prvNe i l sv s2 b hn h hl hp g2 g
    · by_cases e' : i = l
      · subst e'
        rw [List.getElem?_set_ne e] at hj
        exact k.prvNe j i s1 sv b hn hj h g1 hp g
      · rw [List.getElem?_set_ne e] at hj
        rw [List.getElem?_set_ne e'] at hl
        exact k.prvNe j l s1 s2 b hn hj hl g1 g2 g
  · by_cases e : i = j
    · subst e
      rw [List.getElem?_set_self hi] at hj
      cases hj
      obtain ⟨c', ds', z⟩ := hmk c ds rfl
      subst z
      exact k.mkAt i c' ds' b h g
    · rw [List.getElem?_set_ne e] at hj; exact k.mkAt j c ds b hj g
/-- an own list is changed -/
theorem Ok.mut (k : Ok K cs ap H0 B0 B σ env H p) {i : Nat} {ds ds' : List D} {a : Addr} {xs' : List V} (h : env[i]? = some (.own ds)) (h1 : σ[i]? = some (some (.ref a))) (r : Reps K cs ap B ds' xs') :
    Ok K cs ap H0 B0 B σ (env.set i (.own ds')) (upd H a (.lst xs')) p := by
  obtain ⟨a', xs, h1', h2, h3, h4⟩ := k.sl i _ h
  rw [h1] at h1'
  cases h1'
  exact k.mutp h rfl h1 h2 rfl ⟨a, xs', rfl, h2, upd_same, r⟩ (fun c ds z => nomatch z)
/-- less is said of a slot -/
theorem Ok.drop (k : Ok K cs ap H0 B0 B σ env H p) {i : Nat} : Ok K cs ap H0 B0 B σ (env.set i .un) H p := k.setd (fun _ => trivial) rfl
end
end DL
end

section
set_option Elab.async false
set_option linter.all false
set_option maxRecDepth 100000
set_option maxHeartbeats 4000000
/-! DL: expressions. -/
namespace DL
open PySem PySem.Spec PyProof.Rows L2
open Evl (Ex)

def retM {α : Type} (a : α) : Mo α := fun p => some (a, p)
def failM {α : Type} : Mo α := fun _ => none
def bindM {α β : Type} (m : Mo α) (f : α → Mo β) : Mo β := fun p => match m p with
  | none => none
  | some (a, p') => f a p'
@[simp] theorem bindM_ret {α β : Type} (a : α) (f : α → Mo β) : bindM (retM a) f = f a := rfl
@[simp] theorem bindM_fail {α β : Type} (f : α → Mo β) : bindM failM f = failM := rfl
theorem bindM_some {α β : Type} {m : Mo α} {f : α → Mo β} {p p' : Pt} {b : β} (h : bindM m f p = some (b, p')) : ∃ a p1, m p = some (a, p1) ∧ f a p1 = some (b, p') := by
  unfold bindM at h
  cases e : m p with
  | none => rw [e] at h; cases h
  | some q => obtain ⟨a, p1⟩ := q; rw [e] at h; exact ⟨a, p1, rfl, h⟩
@[simp] theorem bindM_assoc {α β γ : Type} (m : Mo α) (f : α → Mo β) (g : β → Mo γ) : bindM (bindM m f) g = bindM m fun a => bindM (f a) g := by
  funext p
  unfold bindM
  cases m p with
  | none => rfl
  | some q => rfl

/-- ends of an evaluation: a datum; a list that nothing else knows; a truth; data -/
def KE (K : PySem.W.Frag) (cs : CT) (ap : Addr) (B H : Hp) (p' : Pt) (d : D) (Q : VK) : Prop := ∀ B' H' v, Nxt ap B H B' H' → PotAt ap H' p' → Rep K cs ap B' d v → Q v H'
def KO (K : PySem.W.Frag) (cs : CT) (ap : Addr) (B H : Hp) (p' : Pt) (ds : List D) (Q : VK) : Prop :=
  ∀ B' H' a xs, Nxt ap B H B' H' → PotAt ap H' p' → H a = none → B' a = none → H' a = some (.lst xs) → Reps K cs ap B' ds xs → Q (.ref a) H'
def KT (ap : Addr) (B H : Hp) (p' : Pt) (b : Bool) (Q : Bool → Hp → Prop) : Prop := ∀ B' H', Nxt ap B H B' H' → PotAt ap H' p' → Q b H'
def KA (K : PySem.W.Frag) (cs : CT) (ap : Addr) (B H : Hp) (p' : Pt) (ds : List D) (Q : List V → Hp → Prop) : Prop := ∀ B' H' vs, Nxt ap B H B' H' → PotAt ap H' p' → Reps K cs ap B' ds vs → Q vs H'

section
variable (K : PySem.W.Frag) (cs : CT)
def EvE (te : TE) (m : Env' → Mo D) : Prop := ∀ ap H0 B0 B σ env H p (Q : VK) d p', Ok K cs ap H0 B0 B σ env H p → m env p = some (d, p') → KE K cs ap B H p' d Q → te σ H Q
def EvO (te : TE) (m : Env' → Mo (List D)) : Prop := ∀ ap H0 B0 B σ env H p (Q : VK) ds p', Ok K cs ap H0 B0 B σ env H p → m env p = some (ds, p') → KO K cs ap B H p' ds Q → te σ H Q
def EvT (tt : TT) (m : Env' → Mo Bool) : Prop := ∀ ap H0 B0 B σ env H p (Q : Bool → Hp → Prop) b p', Ok K cs ap H0 B0 B σ env H p → m env p = some (b, p') → KT ap B H p' b Q → tt σ H Q
def EvA (ta : TA) (m : Env' → Mo (List D)) : Prop := ∀ ap H0 B0 B σ env H p (Q : List V → Hp → Prop) ds p', Ok K cs ap H0 B0 B σ env H p → m env p = some (ds, p') → KA K cs ap B H p' ds Q → ta σ H Q
end
section
variable (cs : CT) (X : Cx)
structure PED (e : Expr) (m : Env' → Mo D) : Prop where
  ex : ∃ te, PE X e te ∧ EvE X.K cs te m
structure POD (e : Expr) (m : Env' → Mo (List D)) : Prop where
  ex : ∃ te, PE X e te ∧ EvO X.K cs te m
structure PTD (e : Expr) (m : Env' → Mo Bool) : Prop where
  ex : ∃ tt, PT X e tt ∧ EvT X.K cs tt m
structure PWD (e : Expr) (m : Env' → Mo Bool) : Prop where
  ex : ∃ tt, PW X e tt ∧ EvT X.K cs tt m
structure PAD (es : List Expr) (m : Env' → Mo (List D)) : Prop where
  ex : ∃ ta, PA X es ta ∧ EvA X.K cs ta m
end

/-! ### denotations -/
def mVar (i : Nat) : Env' → Mo D := fun env => match env[i]? with
  | some (.val d) => retM d
  | _ => failM
def mC (d : D) : Env' → Mo D := fun _ => retM d
def mBin (f : D → D → Mo D) (a b : Env' → Mo D) : Env' → Mo D := fun env => bindM (a env) fun x => bindM (b env) fun y => f x y
def mUn (f : D → Mo D) (a : Env' → Mo D) : Env' → Mo D := fun env => bindM (a env) f
def mLst (m : Env' → Mo (List D)) : Env' → Mo D := fun env => bindM (m env) fun ds => retM (.lst ds)
def mTup (m : Env' → Mo (List D)) : Env' → Mo D := fun env => bindM (m env) fun ds => if ds.length ≤ 100000 then retM (.tup ds) else failM
def mNew (m : Env' → Mo (List D)) : Env' → Mo (List D) := fun env => bindM (m env) fun ds => if ds.length ≤ 100000 then retM ds else failM
def mNil : Env' → Mo (List D) := fun _ => retM []
def mCons (a : Env' → Mo D) (m : Env' → Mo (List D)) : Env' → Mo (List D) := fun env => bindM (a env) fun x => bindM (m env) fun xs => retM (x :: xs)
/-- a truth out of a value that is a bool -/
def mB (a : Env' → Mo D) : Env' → Mo Bool := fun env => bindM (a env) fun x => match x with
  | .bl b => retM b
  | _ => failM
/-- a value out of a truth -/
def mTV (a : Env' → Mo Bool) : Env' → Mo D := fun env => bindM (a env) fun b => retM (.bl b)
def mAnd (a b : Env' → Mo Bool) : Env' → Mo Bool := fun env => bindM (a env) fun x => if x = true then b env else retM false
def mOr (a b : Env' → Mo Bool) : Env' → Mo Bool := fun env => bindM (a env) fun x => if x = true then retM true else b env
def mNot (a : Env' → Mo Bool) : Env' → Mo Bool := fun env => bindM (a env) fun x => retM (!x)
def mIf {α : Type} (c : Env' → Mo Bool) (a b : Env' → Mo α) : Env' → Mo α := fun env => bindM (c env) fun x => if x = true then a env else b env
def mCall (f : List D → Mo D) (m : Env' → Mo (List D)) : Env' → Mo D := fun env => bindM (m env) f
def mCallO (f : List D → Mo (List D)) (m : Env' → Mo (List D)) : Env' → Mo (List D) := fun env => bindM (m env) f

section
variable {cs : CT} {X : Cx} {e a b c : Expr} {es : List Expr} {m ma mb : Env' → Mo D} {pos : Pos}

/-- a fresh list as a datum -/
theorem POD.d {m : Env' → Mo (List D)} (h : POD cs X e m) : PED cs X e (mLst m) := by
  obtain ⟨te, h1, h2⟩ := h.ex
  refine ⟨te, h1, fun ap H0 B0 B σ env H p Q d p' k hm q => ?_⟩
  obtain ⟨ds, p1, e1, e2⟩ := bindM_some hm
  cases e2
  refine h2 ap H0 B0 B σ env H p Q ds p' k e1 fun B' H' a xs n hp hn hb hh r => ?_
  have ex : Ex B' (upd B' a (.lst xs)) := Ex.new hb
  refine q (upd B' a (.lst xs)) H' (.ref a) ⟨n.bb.trans ex, fun b o hbo => ?_, fun b hb1 hb2 => ?_, n.fr, n.nn⟩ hp (by simp only [Rep]; exact ⟨a, xs, rfl, upd_same, r.mono ex⟩)
  · by_cases z : b = a
    · subst z; rw [upd_same] at hbo; rw [hh]; exact hbo
    · rw [upd_ne z] at hbo; exact n.bh _ _ hbo
  · have z : b ≠ a := fun z => hb1 (z ▸ hn)
    rw [upd_ne z]; exact n.nw b hb1 hb2

theorem p_var (i : Nat) {x : Str} (hN : X.N[i]? = some x := by rfl) (hv : Vis X.env.scope x := by first | exact Or.inl rfl | exact Or.inr (Or.inl rfl) | exact Or.inr (Or.inr rfl)) (hd : (x == ("__debug__" : Str)) = false := by decide)
    (hcd : (x == ("__classdict__" : Str)) = false := by decide) : PED cs X (.Name x pos) (mVar i) := by
  refine ⟨tVar i, pe_var hN hv hd hcd, fun ap H0 B0 B σ env H p Q d p' k hm q => ?_⟩
  unfold mVar at hm
  cases g : env[i]? with
  | none => rw [g] at hm; cases hm
  | some sv =>
    rw [g] at hm
    cases sv with
    | un => cases hm
    | own ds => cases hm
    | mk c ds => cases hm
    | val d' =>
      cases hm
      obtain ⟨v, h1, h2⟩ := k.sl i _ g
      exact ⟨v, h1, q B H v (Nxt.refl k.bh) k.pot h2⟩
theorem p_const {v : V} {d : D} (h : PE X e (tC v)) (r : ∀ ap B, Rep X.K cs ap B d v) : PED cs X e (mC d) := by
  refine ⟨tC v, h, fun ap H0 B0 B σ env H p Q d' p' k hm q => ?_⟩
  cases hm
  exact q B H v (Nxt.refl k.bh) k.pot (r ap B)
theorem p_int {i j} : PED cs X (.Constant (.int i) j pos) (mC (.int i)) := p_const pe_int fun _ _ => by simp only [Rep]
theorem p_bl {b j} : PED cs X (.Constant (.bool b) j pos) (mC (.bl b)) := p_const pe_bl fun _ _ => by simp only [Rep]
theorem p_non {j} : PED cs X (.Constant .none j pos) (mC .non) := p_const pe_non fun _ _ => by simp only [Rep]
theorem p_str {x j} : PED cs X (.Constant (.str x) j pos) (mC (.str x)) := p_const pe_str fun _ _ => by simp only [Rep]
/-- a constant of the module -/
theorem p_gint {x : Str} {i : Int} {t : Tok} (hg : Gl X x) (hm : X.mg x = some (.int i t)) (hd : (x == ("__debug__" : Str)) = false := by decide) : PED cs X (.Name x pos) (mC (.int i)) :=
  p_const (pe_glob hg hm (v := .int i) ⟨t, rfl⟩ hd) fun _ _ => by simp only [Rep]
theorem p_gstr {x z : Str} {t : Tok} (hg : Gl X x) (hm : X.mg x = some (.str z t)) (hd : (x == ("__debug__" : Str)) = false := by decide) : PED cs X (.Name x pos) (mC (.str z)) :=
  p_const (pe_glob hg hm (v := .str z) ⟨t, rfl⟩ hd) fun _ _ => by simp only [Rep]

/-- a two-place operation -/
def OpD (cs : CT) (X : Cx) (f : Value → Value → Sem Value) (m : D → D → Mo D) : Prop :=
  ∃ r : R2, OpR X f r ∧ ∀ ap B H p x y v u (Q : VK) d p', Ex B H → PotAt ap H p → B ap = none → Rep X.K cs ap B x v → Rep X.K cs ap B y u → m x y p = some (d, p') → KE X.K cs ap B H p' d Q → r v u H Q
theorem bin_ev {K : PySem.W.Frag} {r : R2} {f : D → D → Mo D} {ta tb : TE} (ha : EvE K cs ta ma) (hb : EvE K cs tb mb)
    (hr : ∀ ap B H p x y v u (Q : VK) d p', Ex B H → PotAt ap H p → B ap = none → Rep K cs ap B x v → Rep K cs ap B y u → f x y p = some (d, p') → KE K cs ap B H p' d Q → r v u H Q) : EvE K cs (tOp r ta tb) (mBin f ma mb) := by
  intro ap H0 B0 B σ env H p Q d p' k hm q
  obtain ⟨x, p1, e1, e2⟩ := bindM_some hm
  obtain ⟨y, p2, e3, e4⟩ := bindM_some e2
  refine ha ap H0 B0 B σ env H p _ x p1 k e1 fun B1 H1 v n1 hp1 r1 => ?_
  have k1 := k.nxt n1 hp1
  refine hb ap H0 B0 B1 σ env H1 p1 _ y p2 k1 e3 fun B2 H2 u n2 hp2 r2 => ?_
  have k2 := k1.nxt n2 hp2
  exact hr ap B2 H2 p2 x y v u Q d p' k2.bh hp2 k2.bap (r1.mono n2.bb) r2 e4 fun B' H' w n3 hp3 r3 => q B' H' w ((n1.trans n2).trans n3) hp3 r3
theorem p_bin {op : Operator} {f : D → D → Mo D} (ho : OpD cs X (binaryOp op) f) (ha : PED cs X a ma) (hb : PED cs X b mb) : PED cs X (.BinOp a op b pos) (mBin f ma mb) := by
  obtain ⟨ta, a1, a2⟩ := ha.ex
  obtain ⟨tb, b1, b2⟩ := hb.ex
  obtain ⟨r, h1, h2⟩ := ho
  exact ⟨tOp r ta tb, pe_op h1 a1 b1, bin_ev a2 b2 h2⟩
theorem p_cmp {op : CmpOp} {f : D → D → Mo D} (ho : OpD cs X (compareOp op) f) (ha : PED cs X a ma) (hb : PED cs X b mb) (hm : behindInMarks op b = false) : PED cs X (.Compare a [op] [b] pos) (mBin f ma mb) := by
  obtain ⟨ta, a1, a2⟩ := ha.ex
  obtain ⟨tb, b1, b2⟩ := hb.ex
  obtain ⟨r, h1, h2⟩ := ho
  exact ⟨tOp r ta tb, pe_cmpR h1 a1 b1 hm, bin_ev a2 b2 h2⟩
theorem evT_of {K : PySem.W.Frag} {te : TE} (h : EvE K cs te m) : EvT K cs (tTest te) (mB m) := by
  intro ap H0 B0 B σ env H p Q b p' k hm q
  obtain ⟨x, p1, e1, e2⟩ := bindM_some hm
  cases x <;> first | (cases e2; done) | skip
  cases e2
  refine h ap H0 B0 B σ env H p _ _ p' k e1 fun B1 H1 v n1 hp1 r1 => ?_
  simp only [Rep] at r1
  exact ⟨b, r1, q B1 H1 n1 hp1⟩
theorem pt_cmp {op : CmpOp} {f : D → D → Mo D} (ho : OpD cs X (compareOp op) f) (ha : PED cs X a ma) (hb : PED cs X b mb) (hm : behindInMarks op b = false) : PTD cs X (.Compare a [op] [b] pos) (mB (mBin f ma mb)) := by
  obtain ⟨ta, a1, a2⟩ := ha.ex
  obtain ⟨tb, b1, b2⟩ := hb.ex
  obtain ⟨r, h1, h2⟩ := ho
  exact ⟨_, pt_cmpR h1 a1 b1 hm, evT_of (bin_ev a2 b2 h2)⟩
/-- a call, a name, a subscript, an attribute as a test: a bool -/
theorem pt_v (h : PED cs X e m) (he : ∀ whole, isTrue e X.env whole = (do let v ← whole; standAt e.pos; holding [v] (truthy v)) := by intro _; rfl) : PTD cs X e (mB m) := by
  obtain ⟨te, h1, h2⟩ := h.ex
  exact ⟨_, pt_val h1 he, evT_of h2⟩
theorem pt_not {ma : Env' → Mo Bool} (ha : PTD cs X a ma) : PTD cs X (.UnaryOp .Not a pos) (mNot ma) := by
  obtain ⟨ta, a1, a2⟩ := ha.ex
  refine ⟨_, L2.pt_not a1, fun ap H0 B0 B σ env H p Q b p' k hm q => ?_⟩
  obtain ⟨x, p1, e1, e2⟩ := bindM_some hm
  cases e2
  exact a2 ap H0 B0 B σ env H p _ x p' k e1 fun B1 H1 n1 hp1 => q B1 H1 n1 hp1
theorem and_ev {K : PySem.W.Frag} {t u : TT} {ma mb : Env' → Mo Bool} (ha : EvT K cs t ma) (hb : EvT K cs u mb) : EvT K cs (tAnd t u) (mAnd ma mb) := by
  intro ap H0 B0 B σ env H p Q b p' k hm q
  obtain ⟨x, p1, e1, e2⟩ := bindM_some hm
  refine ha ap H0 B0 B σ env H p _ x p1 k e1 fun B1 H1 n1 hp1 => ?_
  cases x with
  | true =>
    rw [if_pos rfl] at e2 ⊢
    exact hb ap H0 B0 B1 σ env H1 p1 _ b p' (k.nxt n1 hp1) e2 fun B2 H2 n2 hp2 => q B2 H2 (n1.trans n2) hp2
  | false =>
    rw [if_neg (by decide)] at e2 ⊢
    cases e2
    exact q B1 H1 n1 hp1
theorem or_ev {K : PySem.W.Frag} {t u : TT} {ma mb : Env' → Mo Bool} (ha : EvT K cs t ma) (hb : EvT K cs u mb) : EvT K cs (tOr t u) (mOr ma mb) := by
  intro ap H0 B0 B σ env H p Q b p' k hm q
  obtain ⟨x, p1, e1, e2⟩ := bindM_some hm
  refine ha ap H0 B0 B σ env H p _ x p1 k e1 fun B1 H1 n1 hp1 => ?_
  cases x with
  | true =>
    rw [if_pos rfl] at e2 ⊢
    cases e2
    exact q B1 H1 n1 hp1
  | false =>
    rw [if_neg (by decide)] at e2 ⊢
    exact hb ap H0 B0 B1 σ env H1 p1 _ b p' (k.nxt n1 hp1) e2 fun B2 H2 n2 hp2 => q B2 H2 (n1.trans n2) hp2
theorem pw_one {op} {ma : Env' → Mo Bool} (ha : PTD cs X a ma) (ho : op = .And ∨ op = .Or := by first | exact .inl rfl | exact .inr rfl) : PWD cs X (.BoolOp op [a] pos) ma := by
  obtain ⟨ta, a1, a2⟩ := ha.ex
  rcases ho with rfl | rfl
  · exact ⟨_, pw_and1 a1, a2⟩
  · exact ⟨_, pw_or1 a1, a2⟩
theorem pw_and {ma mb : Env' → Mo Bool} (ha : PTD cs X a ma) (hb : PWD cs X (.BoolOp .And (b :: es) pos) mb) : PWD cs X (.BoolOp .And (a :: b :: es) pos) (mAnd ma mb) := by
  obtain ⟨ta, a1, a2⟩ := ha.ex
  obtain ⟨tb, b1, b2⟩ := hb.ex
  exact ⟨_, L2.pw_and a1 b1, and_ev a2 b2⟩
theorem pw_or {ma mb : Env' → Mo Bool} (ha : PTD cs X a ma) (hb : PWD cs X (.BoolOp .Or (b :: es) pos) mb) : PWD cs X (.BoolOp .Or (a :: b :: es) pos) (mOr ma mb) := by
  obtain ⟨ta, a1, a2⟩ := ha.ex
  obtain ⟨tb, b1, b2⟩ := hb.ex
  exact ⟨_, L2.pw_or a1 b1, or_ev a2 b2⟩
theorem PWD.pt {ma : Env' → Mo Bool} (h : PWD cs X a ma) : PTD cs X a ma := by
  obtain ⟨ta, a1, a2⟩ := h.ex
  exact ⟨ta, a1.pt, a2⟩
/-- and, or, not as values: bools -/
theorem p_one {op} (ha : PED cs X a ma) : PED cs X (.BoolOp op [a] pos) ma := by
  obtain ⟨ta, a1, a2⟩ := ha.ex
  exact ⟨ta, pe_one a1, a2⟩
theorem andV_ev {K : PySem.W.Frag} {ta tb : TE} (ha : EvE K cs ta ma) (hb : EvE K cs tb mb) : EvE K cs (tAndV ta tb) (mTV (mAnd (mB ma) (mB mb))) := by
  intro ap H0 B0 B σ env H p Q d p' k hm q
  obtain ⟨x, p1, e1, e2⟩ := bindM_some hm
  cases e2
  obtain ⟨y, p2, e3, e4⟩ := bindM_some e1
  obtain ⟨z, p3, e5, e6⟩ := bindM_some e3
  cases z <;> first | (cases e6; done) | skip
  cases e6
  refine ha ap H0 B0 B σ env H p _ _ p2 k e5 fun B1 H1 v n1 hp1 r1 => ?_
  simp only [Rep] at r1
  refine ⟨y, r1, ?_⟩
  cases y with
  | true =>
    rw [if_pos rfl] at e4 ⊢
    obtain ⟨z, p3, e5, e6⟩ := bindM_some e4
    cases z <;> first | (cases e6; done) | skip
    cases e6
    exact hb ap H0 B0 B1 σ env H1 p2 _ _ p' (k.nxt n1 hp1) e5 fun B2 H2 v n2 hp2 r2 => q B2 H2 v (n1.trans n2) hp2 r2
  | false =>
    rw [if_neg (by decide)] at e4 ⊢
    cases e4
    exact q B1 H1 _ n1 hp1 (by simp only [Rep])
theorem orV_ev {K : PySem.W.Frag} {ta tb : TE} (ha : EvE K cs ta ma) (hb : EvE K cs tb mb) : EvE K cs (tOrV ta tb) (mTV (mOr (mB ma) (mB mb))) := by
  intro ap H0 B0 B σ env H p Q d p' k hm q
  obtain ⟨x, p1, e1, e2⟩ := bindM_some hm
  cases e2
  obtain ⟨y, p2, e3, e4⟩ := bindM_some e1
  obtain ⟨z, p3, e5, e6⟩ := bindM_some e3
  cases z <;> first | (cases e6; done) | skip
  cases e6
  refine ha ap H0 B0 B σ env H p _ _ p2 k e5 fun B1 H1 v n1 hp1 r1 => ?_
  simp only [Rep] at r1
  refine ⟨y, r1, ?_⟩
  cases y with
  | true =>
    rw [if_pos rfl] at e4 ⊢
    cases e4
    exact q B1 H1 _ n1 hp1 (by simp only [Rep])
  | false =>
    rw [if_neg (by decide)] at e4 ⊢
    obtain ⟨z, p3, e5, e6⟩ := bindM_some e4
    cases z <;> first | (cases e6; done) | skip
    cases e6
    exact hb ap H0 B0 B1 σ env H1 p2 _ _ p' (k.nxt n1 hp1) e5 fun B2 H2 v n2 hp2 r2 => q B2 H2 v (n1.trans n2) hp2 r2
theorem p_and (ha : PED cs X a ma) (hb : PED cs X (.BoolOp .And (b :: es) pos) mb) : PED cs X (.BoolOp .And (a :: b :: es) pos) (mTV (mAnd (mB ma) (mB mb))) := by
  obtain ⟨ta, a1, a2⟩ := ha.ex
  obtain ⟨tb, b1, b2⟩ := hb.ex
  exact ⟨_, pe_and a1 b1, andV_ev a2 b2⟩
theorem p_or (ha : PED cs X a ma) (hb : PED cs X (.BoolOp .Or (b :: es) pos) mb) : PED cs X (.BoolOp .Or (a :: b :: es) pos) (mTV (mOr (mB ma) (mB mb))) := by
  obtain ⟨ta, a1, a2⟩ := ha.ex
  obtain ⟨tb, b1, b2⟩ := hb.ex
  exact ⟨_, pe_or a1 b1, orV_ev a2 b2⟩
theorem p_not (ha : PED cs X a ma) : PED cs X (.UnaryOp .Not a pos) (mTV (mNot (mB ma))) := by
  obtain ⟨ta, a1, a2⟩ := ha.ex
  refine ⟨_, pe_not a1, fun ap H0 B0 B σ env H p Q d p' k hm q => ?_⟩
  obtain ⟨x, p1, e1, e2⟩ := bindM_some hm
  cases e2
  obtain ⟨y, p2, e3, e4⟩ := bindM_some e1
  cases e4
  obtain ⟨z, p3, e5, e6⟩ := bindM_some e3
  cases z <;> first | (cases e6; done) | skip
  cases e6
  refine a2 ap H0 B0 B σ env H p _ _ p' k e5 fun B1 H1 v n1 hp1 r1 => ?_
  simp only [Rep] at r1
  exact ⟨y, r1, q B1 H1 _ n1 hp1 (by simp only [Rep])⟩
theorem if_ev {K : PySem.W.Frag} {t : TT} {ta tb : TE} {mc : Env' → Mo Bool} (hc : EvT K cs t mc) (ha : EvE K cs ta ma) (hb : EvE K cs tb mb) : EvE K cs (tIf t ta tb) (mIf mc ma mb) := by
  intro ap H0 B0 B σ env H p Q d p' k hm q
  obtain ⟨x, p1, e1, e2⟩ := bindM_some hm
  refine hc ap H0 B0 B σ env H p _ x p1 k e1 fun B1 H1 n1 hp1 => ?_
  have k1 := k.nxt n1 hp1
  cases x with
  | true =>
    rw [if_pos rfl] at e2 ⊢
    exact ha ap H0 B0 B1 σ env H1 p1 _ d p' k1 e2 fun B2 H2 v n2 hp2 r2 => q B2 H2 v (n1.trans n2) hp2 r2
  | false =>
    rw [if_neg (by decide)] at e2 ⊢
    exact hb ap H0 B0 B1 σ env H1 p1 _ d p' k1 e2 fun B2 H2 v n2 hp2 r2 => q B2 H2 v (n1.trans n2) hp2 r2
theorem p_if {mc : Env' → Mo Bool} (hc : PTD cs X c mc) (ha : PED cs X a ma) (hb : PED cs X b mb) : PED cs X (.IfExp c a b pos) (mIf mc ma mb) := by
  obtain ⟨tc, c1, c2⟩ := hc.ex
  obtain ⟨ta, a1, a2⟩ := ha.ex
  obtain ⟨tb, b1, b2⟩ := hb.ex
  exact ⟨_, pe_ifExp c1 a1 b1, if_ev c2 a2 b2⟩
/-! ### arguments, displays -/
theorem pa_nil : PAD cs X [] mNil := by
  refine ⟨tNil, L2.pa_nil, fun ap H0 B0 B σ env H p Q d p' k hm q => ?_⟩
  cases hm
  exact q B H [] (Nxt.refl k.bh) k.pot reps_nil
theorem pa_cons {mr : Env' → Mo (List D)} (ha : PED cs X e m) (hr : PAD cs X es mr) (hs : starEach (e :: es) X.env = (false, eval e X.env) :: starEach es X.env := by rfl) : PAD cs X (e :: es) (mCons m mr) := by
  obtain ⟨ta, a1, a2⟩ := ha.ex
  obtain ⟨tr, r1, r2⟩ := hr.ex
  refine ⟨_, L2.pa_cons a1 r1 hs, fun ap H0 B0 B σ env H p Q d p' k hm q => ?_⟩
  obtain ⟨x, p1, e1, e2⟩ := bindM_some hm
  obtain ⟨xs, p2, e3, e4⟩ := bindM_some e2
  cases e4
  refine a2 ap H0 B0 B σ env H p _ x p1 k e1 fun B1 H1 v n1 hp1 g1 => ?_
  have k1 := k.nxt n1 hp1
  exact r2 ap H0 B0 B1 σ env H1 p1 _ xs p' k1 e3 fun B2 H2 vs n2 hp2 g2 => q B2 H2 (v :: vs) (n1.trans n2) hp2 (reps_cons (g1.mono n2.bb) g2)
theorem sz100 {n : Nat} (h : n ≤ 100000) : n ≤ sizeLine := Nat.le_trans h (by rw [sizeLine_eq]; decide)
theorem p_tup {x1} {mr : Env' → Mo (List D)} (h : PAD cs X es mr) : PED cs X (.Tuple es x1 pos) (mTup mr) := by
  obtain ⟨ta, a1, a2⟩ := h.ex
  refine ⟨_, pe_tup a1, fun ap H0 B0 B σ env H p Q d p' k hm q => ?_⟩
  obtain ⟨x, p1, e1, e2⟩ := bindM_some hm
  split at e2
  · rename_i hl
    cases e2
    refine a2 ap H0 B0 B σ env H p _ x p' k e1 fun B1 H1 vs n1 hp1 g1 => ⟨sz100 (by rw [g1.length]; exact hl), fun t ht => ?_⟩
    have n2 : Nxt ap B1 H1 (upd B1 t (.tup vs)) (upd H1 t (.tup vs)) := Nxt.new n1.bh ht
    exact q _ _ _ (n1.trans n2) (hp1.new ht) (by simp only [Rep]; exact ⟨t, vs, rfl, SqT.of upd_same, g1.mono n2.bb⟩)
  · cases e2
theorem o_lst {mr : Env' → Mo (List D)} (h : PAD cs X es mr) : POD cs X (.List es pos) (mNew mr) := by
  obtain ⟨ta, a1, a2⟩ := h.ex
  refine ⟨_, pe_lst a1, fun ap H0 B0 B σ env H p Q d p' k hm q => ?_⟩
  obtain ⟨x, p1, e1, e2⟩ := bindM_some hm
  split at e2
  · rename_i hl
    cases e2
    refine a2 ap H0 B0 B σ env H p _ _ p' k e1 fun B1 H1 vs n1 hp1 g1 => ⟨sz100 (by rw [g1.length]; exact hl), fun t ht => ?_⟩
    have ht0 : H t = none := by
      cases z : H t with
      | none => rfl
      | some o => exact absurd ht (n1.nn t (by rw [z]; exact fun y => nomatch y))
    have n2 : Nxt ap B1 H1 B1 (upd H1 t (.lst vs)) := Nxt.newU n1.bh ht
    exact q _ _ t vs (n1.trans n2) (hp1.new ht) ht0 (Evl.fresh_back n1.bh ht) upd_same g1
  · cases e2
end
end DL
end

section
set_option Elab.async false
set_option linter.all false
set_option maxRecDepth 100000
set_option maxHeartbeats 4000000
/-! DL: statements, targets, loops. -/
namespace DL
open PySem PySem.Spec PyProof.Rows L2
open Evl (Ex)

theorem Ok.setv' {K : PySem.W.Frag} {cs : CT} {ap : Addr} {H0 B0 B H : Hp} {σ : L2.St} {env : Env'} {p : Pt} (k : Ok K cs ap H0 B0 B σ env H p) {i : Nat} {d : D} {v : V} (r : Rep K cs ap B d v) : Ok K cs ap H0 B0 B (σ.set i (some v)) (env.set i (.val d)) H p := by
  by_cases hi : i < env.length
  · exact k.setv hi r
  · have h1 : env.length ≤ i := by omega
    have h2 : σ.length ≤ i := by rw [k.len]; exact h1
    rw [List.set_eq_of_length_le h1, List.set_eq_of_length_le h2]; exact k

/-- how a statement ends -/
inductive Out where
  | nx | bk | ct | rt (d : D) | ro (ds : List D)
abbrev MS := Env' → Mo (Out × Env')

def KS (K : PySem.W.Frag) (cs : CT) (ap : Addr) (H0 B0 B : Hp) (o : Out) (env' : Env') (p' : Pt) (E : Ends) : Prop := match o with
  | .nx => ∀ B' σ' H', Ex B B' → Ok K cs ap H0 B0 B' σ' env' H' p' → E.nx σ' H'
  | .bk => ∀ B' σ' H', Ex B B' → Ok K cs ap H0 B0 B' σ' env' H' p' → E.bk σ' H'
  | .ct => ∀ B' σ' H', Ex B B' → Ok K cs ap H0 B0 B' σ' env' H' p' → E.ct σ' H'
  | .rt d => ∀ B' H' v, Nxt ap B0 H0 B' H' → PotAt ap H' p' → Rep K cs ap B' d v → E.rt v H'
  | .ro ds => ∀ B' H' a xs, Nxt ap B0 H0 B' H' → PotAt ap H' p' → H0 a = none → B' a = none → H' a = some (.lst xs) → Reps K cs ap B' ds xs → E.rt (.ref a) H'
theorem KS.mono {K : PySem.W.Frag} {cs : CT} {ap : Addr} {H0 B0 B B1 : Hp} {o : Out} {env' : Env'} {p' : Pt} {E : Ends} (k : KS K cs ap H0 B0 B o env' p' E) (e : Ex B B1) : KS K cs ap H0 B0 B1 o env' p' E := by
  cases o with
  | nx => exact fun B' σ' H' z => k B' σ' H' (e.trans z)
  | bk => exact fun B' σ' H' z => k B' σ' H' (e.trans z)
  | ct => exact fun B' σ' H' z => k B' σ' H' (e.trans z)
  | rt d => exact k
  | ro d => exact k
def EvS (K : PySem.W.Frag) (cs : CT) (ts : TS) (m : MS) : Prop := ∀ ap H0 B0 B σ env H p (E : Ends) o env' p', Ok K cs ap H0 B0 B σ env H p → m env p = some ((o, env'), p') → KS K cs ap H0 B0 B o env' p' E → ts E σ H
structure PSD (cs : CT) (X : Cx) (st : Stmt) (m : MS) : Prop where
  ex : ∃ ts, PS X st ts ∧ EvS X.K cs ts m
structure PSsD (cs : CT) (X : Cx) (sts : List Stmt) (m : MS) : Prop where
  ex : ∃ ts, PSs X sts ts ∧ EvS X.K cs ts m

/-! ### targets -/
abbrev MG := D → Env' → Option Env'
abbrev MGs := List D → Env' → Option Env'
/-- the slots agree but at sl -/
def Agr (sl : List Nat) (σ σ' : L2.St) : Prop := σ'.length = σ.length ∧ ∀ j, j ∉ sl → σ'[j]? = σ[j]?
theorem Agr.refl {sl : List Nat} {σ : L2.St} : Agr sl σ σ := ⟨rfl, fun _ _ => rfl⟩
theorem Agr.trans {s1 s2 : List Nat} {σ σ1 σ2 : L2.St} (a : Agr s1 σ σ1) (b : Agr s2 σ1 σ2) : Agr (s1 ++ s2) σ σ2 :=
  ⟨b.1.trans a.1, fun j hj => (b.2 j fun z => hj (List.mem_append_right _ z)).trans (a.2 j fun z => hj (List.mem_append_left _ z))⟩
theorem Agr.set {i : Nat} {σ : L2.St} {v : Option V} : Agr [i] σ (σ.set i v) := ⟨List.length_set, fun j hj => List.getElem?_set_ne (fun z => hj (by rw [z]; exact List.mem_singleton.mpr rfl))⟩
def EvG (K : PySem.W.Frag) (cs : CT) (g : TG) (sl : List Nat) (m : MG) : Prop := ∀ ap H0 B0 B σ env H p (Q : L2.St → Hp → Prop) d v env', Ok K cs ap H0 B0 B σ env H p → Rep K cs ap B d v → m d env = some env' → (∀ σ', Ok K cs ap H0 B0 B σ' env' H p → Agr sl σ σ' → Q σ' H) → g v σ H Q
def EvGs (K : PySem.W.Frag) (cs : CT) (g : TGs) (sl : List Nat) (m : MGs) : Prop := ∀ ap H0 B0 B σ env H p (Q : L2.St → Hp → Prop) ds vs env', Ok K cs ap H0 B0 B σ env H p → Reps K cs ap B ds vs → m ds env = some env' → (∀ σ', Ok K cs ap H0 B0 B σ' env' H p → Agr sl σ σ' → Q σ' H) → g vs σ H Q
structure PGD (cs : CT) (X : Cx) (tg : Expr) (sl : List Nat) (m : MG) : Prop where
  ex : ∃ g, PG X tg g ∧ EvG X.K cs g sl m
structure PGsD (cs : CT) (X : Cx) (tgs : List Expr) (sl : List Nat) (m : MGs) : Prop where
  ex : ∃ g, PGs X tgs g ∧ EvGs X.K cs g sl m
def tgN (i : Nat) : MG := fun d env => some (env.set i (.val d))
def tgNil : MGs := fun ds env => match ds with
  | [] => some env
  | _ => none
def tgCons (a : MG) (b : MGs) : MGs := fun ds env => match ds with
  | d :: r => match a d env with
    | some env1 => b r env1
    | none => none
  | [] => none
def tgTup (n : Nat) (b : MGs) : MG := fun d env => match d with
  | .tup ds => if ds.length = n then b ds env else none
  | _ => none

/-! ### denotations of statements -/
def mNx : MS := fun env => retM (.nx, env)
def mBk : MS := fun env => retM (.bk, env)
def mCt : MS := fun env => retM (.ct, env)
def mNever : MS := fun _ => failM
def mSeq (a b : MS) : MS := fun env => bindM (a env) fun r => match r.1 with
  | .nx => b r.2
  | o => retM (o, r.2)
def mSet (i : Nat) (m : Env' → Mo D) : MS := fun env => bindM (m env) fun d => retM (.nx, env.set i (.val d))
def mSetO (i : Nat) (m : Env' → Mo (List D)) : MS := fun env => bindM (m env) fun ds => if i < env.length then retM (.nx, env.set i (.own ds)) else failM
def mAsg (g : MG) (m : Env' → Mo D) : MS := fun env => bindM (m env) fun d => match g d env with
  | some env' => retM (.nx, env')
  | none => failM
def mRet (m : Env' → Mo D) : MS := fun env => bindM (m env) fun d => retM (.rt d, env)
/-- return of a new list that nothing else knows -/
def mRetO (m : Env' → Mo (List D)) : MS := fun env => bindM (m env) fun ds => retM (.ro ds, env)
/-- return of an own list -/
def mRetX (i : Nat) : MS := fun env => match env[i]? with
  | some (.own ds) => retM (.ro ds, env)
  | _ => failM
def mRetN : MS := fun env => retM (.rt .non, env)
def mDrop (m : Env' → Mo D) : MS := fun env => bindM (m env) fun _ => retM (.nx, env)
def mIfS (c : Env' → Mo Bool) (a b : MS) : MS := fun env => bindM (c env) fun x => if x = true then a env else b env
def mFreeze (i : Nat) (m : MS) : MS := fun env => match env[i]? with
  | some (.own ds) => m (env.set i (.val (.lst ds)))
  | _ => failM
def mForget (i : Nat) (m : MS) : MS := fun env => m (env.set i .un)
def loopM (body : D → MS) : List D → MS
  | [] => fun env => retM (.nx, env)
  | d :: ds => fun env => bindM (body d env) fun r => match r.1 with
    | .nx => loopM body ds r.2
    | .ct => loopM body ds r.2
    | .bk => retM (.nx, r.2)
    | .rt v => retM (.rt v, r.2)
    | .ro v => retM (.ro v, r.2)
def mTg (g : MG) (body : MS) : D → MS := fun d env => match g d env with
  | some env' => body env'
  | none => failM
def mFor (src : Env' → Mo (List D)) (g : MG) (body : MS) : MS := fun env => bindM (src env) fun ds => loopM (mTg g body) ds env
def whileM (c : Env' → Mo Bool) (body : MS) : Nat → MS
  | 0 => fun _ => failM
  | n + 1 => fun env => bindM (c env) fun b => if b = true then bindM (body env) fun r => match r.1 with
      | .nx => whileM c body n r.2
      | .ct => whileM c body n r.2
      | .bk => retM (.nx, r.2)
      | .rt v => retM (.rt v, r.2)
      | .ro v => retM (.ro v, r.2)
    else retM (.nx, env)
/-- more turns than any while of ours takes -/
def fuelW : Nat := 2000000
def mWhile (c : Env' → Mo Bool) (body : MS) : MS := fun env => whileM c body fuelW env

section
variable {cs : CT} {X : Cx} {e : Expr} {st : Stmt} {sts : List Stmt} {m : Env' → Mo D} {ms mt : MS} {pos : Pos}
theorem ss_nil : PSsD cs X [] mNx := by
  refine ⟨_, pss_nil, fun ap H0 B0 B σ env H p E o env' p' k hm q => ?_⟩
  cases hm
  exact q B σ H (Ex.refl _) k
theorem seq_ev {K : PySem.W.Frag} {t u : TS} (h1 : EvS K cs t ms) (h2 : EvS K cs u mt) : EvS K cs (tSeq t u) (mSeq ms mt) := by
  intro ap H0 B0 B σ env H p E o env' p' k hm q
  obtain ⟨⟨o1, env1⟩, p1, e1, e2⟩ := bindM_some hm
  refine h1 ap H0 B0 B σ env H p _ o1 env1 p1 k e1 ?_
  cases o1 with
  | nx => exact fun B' σ' H' ex k' => h2 ap H0 B0 B' σ' env1 H' p1 E o env' p' k' e2 (q.mono ex)
  | bk => cases e2; exact q
  | ct => cases e2; exact q
  | rt d => cases e2; exact q
  | ro d => cases e2; exact q
theorem ss_cons (h1 : PSD cs X st ms) (h2 : PSsD cs X sts mt) : PSsD cs X (st :: sts) (mSeq ms mt) := by
  obtain ⟨t, a1, a2⟩ := h1.ex
  obtain ⟨u, b1, b2⟩ := h2.ex
  exact ⟨_, pss_cons a1 b1, seq_ev a2 b2⟩
theorem ss_one (h1 : PSD cs X st ms) : PSsD cs X [st] ms := by
  obtain ⟨t, a1, a2⟩ := h1.ex
  exact ⟨_, pss_one a1, a2⟩
theorem ss_freeze (i : Nat) (h : PSsD cs X sts ms) : PSsD cs X sts (mFreeze i ms) := by
  obtain ⟨t, a1, a2⟩ := h.ex
  refine ⟨_, a1, fun ap H0 B0 B σ env H p E o env' p' k hm q => ?_⟩
  unfold mFreeze at hm
  rcases g : env[i]? with _ | _ | _ | ds | _
  · rw [g] at hm; cases hm
  · rw [g] at hm; cases hm
  · rw [g] at hm; cases hm
  · rw [g] at hm
    obtain ⟨B', ex, k'⟩ := k.freeze g
    exact a2 ap H0 B0 B' σ _ H p E o env' p' k' hm (q.mono ex)
  · rw [g] at hm; cases hm
theorem ss_forget (i : Nat) (h : PSsD cs X sts ms) : PSsD cs X sts (mForget i ms) := by
  obtain ⟨t, a1, a2⟩ := h.ex
  exact ⟨_, a1, fun ap H0 B0 B σ env H p E o env' p' k hm q => a2 ap H0 B0 B σ _ H p E o env' p' k.drop hm q⟩
theorem s_pass : PSD cs X (.Pass pos) mNx := ⟨_, ps_pass, fun ap H0 B0 B σ env H p E o env' p' k hm q => by cases hm; exact q B σ H (Ex.refl _) k⟩
theorem s_break : PSD cs X (.Break pos) mBk := ⟨_, ps_break, fun ap H0 B0 B σ env H p E o env' p' k hm q => by cases hm; exact q B σ H (Ex.refl _) k⟩
theorem s_continue : PSD cs X (.Continue pos) mCt := ⟨_, ps_continue, fun ap H0 B0 B σ env H p E o env' p' k hm q => by cases hm; exact q B σ H (Ex.refl _) k⟩
theorem s_never : PSD cs X st mNever := ⟨_, ps_never, fun ap H0 B0 B σ env H p E o env' p' k hm q => by cases hm⟩
theorem s_expr (h : PED cs X e m) (hs : swapsWith e none pos.line X.env = pure false := by rfl) : PSD cs X (.Expr e pos) (mDrop m) := by
  obtain ⟨t, a1, a2⟩ := h.ex
  refine ⟨_, ps_expr a1 hs, fun ap H0 B0 B σ env H p E o env' p' k hm q => ?_⟩
  obtain ⟨d, p1, e1, e2⟩ := bindM_some hm
  cases e2
  exact a2 ap H0 B0 B σ env H p _ d p' k e1 fun B' H' v n hp r => q B' σ H' n.bb (k.nxt n hp)
theorem s_ret (h : PED cs X e m) : PSD cs X (.Return (some e) pos) (mRet m) := by
  obtain ⟨t, a1, a2⟩ := h.ex
  refine ⟨_, ps_ret a1, fun ap H0 B0 B σ env H p E o env' p' k hm q => ?_⟩
  obtain ⟨d, p1, e1, e2⟩ := bindM_some hm
  cases e2
  exact a2 ap H0 B0 B σ env H p _ d p' k e1 fun B' H' v n hp r => q B' H' v (k.st.trans n) hp r
theorem s_retO {m : Env' → Mo (List D)} (h : POD cs X e m) : PSD cs X (.Return (some e) pos) (mRetO m) := by
  obtain ⟨t, a1, a2⟩ := h.ex
  refine ⟨_, ps_ret a1, fun ap H0 B0 B σ env H p E o env' p' k hm q => ?_⟩
  obtain ⟨d, p1, e1, e2⟩ := bindM_some hm
  cases e2
  refine a2 ap H0 B0 B σ env H p _ d p' k e1 fun B' H' a xs n hp hn hb hh r => q B' H' a xs (k.st.trans n) hp ?_ hb hh r
  cases z : H0 a with
  | none => rfl
  | some o => exact absurd hn (k.st.nn a (by rw [z]; exact fun y => nomatch y))
theorem s_retX (i : Nat) {x : Str} {p1 : Pos} (hN : X.N[i]? = some x := by rfl) (hv : Vis X.env.scope x := by first | exact Or.inl rfl | exact Or.inr (Or.inl rfl) | exact Or.inr (Or.inr rfl)) (hd : (x == ("__debug__" : Str)) = false := by decide)
    (hcd : (x == ("__classdict__" : Str)) = false := by decide) : PSD cs X (.Return (some (.Name x p1)) pos) (mRetX i) := by
  refine ⟨_, ps_ret (pe_var hN hv hd hcd), fun ap H0 B0 B σ env H p E o env' p' k hm q => ?_⟩
  unfold mRetX at hm
  rcases g : env[i]? with _ | _ | _ | ds | _
  · rw [g] at hm; cases hm
  · rw [g] at hm; cases hm
  · rw [g] at hm; cases hm
  · rw [g] at hm
    cases hm
    obtain ⟨a, xs, g1, g2, g3, g4⟩ := k.sl i _ g
    exact ⟨.ref a, g1, q B H a xs k.st k.pot (k.ownNew i ds a g g1) g2 g3 g4⟩
  · rw [g] at hm; cases hm
theorem s_retN : PSD cs X (.Return none pos) mRetN := ⟨_, ps_retN, fun ap H0 B0 B σ env H p E o env' p' k hm q => by cases hm; exact q B H .non k.st k.pot (by simp only [Rep])⟩
theorem s_if {c : Expr} {a b : List Stmt} {mc : Env' → Mo Bool} {ma mb : MS} (hc : PTD cs X c mc) (ha : PSsD cs X a ma) (hb : PSsD cs X b mb) : PSD cs X (.If c a b pos) (mIfS mc ma mb) := by
  obtain ⟨tc, c1, c2⟩ := hc.ex
  obtain ⟨ta, a1, a2⟩ := ha.ex
  obtain ⟨tb, b1, b2⟩ := hb.ex
  refine ⟨_, ps_if c1 a1 b1, fun ap H0 B0 B σ env H p E o env' p' k hm q => ?_⟩
  obtain ⟨x, p1, e1, e2⟩ := bindM_some hm
  refine c2 ap H0 B0 B σ env H p _ x p1 k e1 fun B1 H1 n1 hp1 => ?_
  cases x with
  | true =>
    rw [if_pos rfl] at e2 ⊢
    exact a2 ap H0 B0 B1 σ env H1 p1 E o env' p' (k.nxt n1 hp1) e2 (q.mono n1.bb)
  | false =>
    rw [if_neg (by decide)] at e2 ⊢
    exact b2 ap H0 B0 B1 σ env H1 p1 E o env' p' (k.nxt n1 hp1) e2 (q.mono n1.bb)
/-- name = datum -/
theorem set_ev {K : PySem.W.Frag} {te : TE} {i : Nat} (h : EvE K cs te m) : EvS K cs (tAsg te (gName i)) (mSet i m) := by
  intro ap H0 B0 B σ env H p E o env' p' k hm q
  obtain ⟨d, p1, e1, e2⟩ := bindM_some hm
  cases e2
  exact h ap H0 B0 B σ env H p _ d p' k e1 fun B' H' v n hp r => q B' _ H' n.bb ((k.nxt n hp).setv' r)
theorem s_set (i : Nat) {x : Str} {pos' : Pos} (hN : X.N.Nodup) (h : PED cs X e m) (hi : X.N[i]? = some x := by rfl) (hx : Loc X.env.scope x := by first | exact Or.inl rfl | exact Or.inr rfl) (hs : swapsWith e (some (.Name x pos')) pos.line X.env = pure false := by rfl)
    (hf : X.fn x = true ∨ X.env.scope.names.lookup x = some .local := by first | exact .inl rfl | exact .inr rfl) : PSD cs X (.Assign [.Name x pos'] e pos) (mSet i m) := by
  obtain ⟨t, a1, a2⟩ := h.ex
  exact ⟨_, ps_set hN hi hx a1 hs hf, set_ev a2⟩
/-- name = a new list, which stays the def's own -/
theorem setO_ev {K : PySem.W.Frag} {te : TE} {i : Nat} {m : Env' → Mo (List D)} (h : EvO K cs te m) : EvS K cs (tAsg te (gName i)) (mSetO i m) := by
  intro ap H0 B0 B σ env H p E o env' p' k hm q
  obtain ⟨ds, p1, e1, e2⟩ := bindM_some hm
  split at e2
  · rename_i hi
    cases e2
    refine h ap H0 B0 B σ env H p _ ds p' k e1 fun B' H' a xs n hp hn hb hh r => ?_
    have h0 : H0 a = none := by
      cases z : H0 a with
      | none => rfl
      | some o => exact absurd hn (k.st.nn a (by rw [z]; exact fun y => nomatch y))
    refine q B' _ H' n.bb ((k.nxt n hp).seto hi hb hh r h0 fun j es hj hj' g => ?_)
    obtain ⟨b, ys, g1, g2, g3, g4⟩ := k.sl j _ hj'
    rw [g] at g1
    cases g1
    rw [hn] at g3
    cases g3
  · cases e2
theorem s_setO (i : Nat) {x : Str} {pos' : Pos} {m : Env' → Mo (List D)} (hN : X.N.Nodup) (h : POD cs X e m) (hi : X.N[i]? = some x := by rfl) (hx : Loc X.env.scope x := by first | exact Or.inl rfl | exact Or.inr rfl) (hs : swapsWith e (some (.Name x pos')) pos.line X.env = pure false := by rfl)
    (hf : X.fn x = true ∨ X.env.scope.names.lookup x = some .local := by first | exact .inl rfl | exact .inr rfl) : PSD cs X (.Assign [.Name x pos'] e pos) (mSetO i m) := by
  obtain ⟨t, a1, a2⟩ := h.ex
  exact ⟨_, ps_set hN hi hx a1 hs hf, setO_ev a2⟩
/-! ### targets -/
theorem g_name (i : Nat) {x : Str} (hN : X.N.Nodup) (hi : X.N[i]? = some x := by rfl) (hx : Loc X.env.scope x := by first | exact Or.inl rfl | exact Or.inr rfl)
    (hf : X.fn x = true ∨ X.env.scope.names.lookup x = some .local := by first | exact .inl rfl | exact .inr rfl) : PGD cs X (.Name x pos) [i] (tgN i) :=
  ⟨_, pg_name hN hi hx hf, fun ap H0 B0 B σ env H p Q d v env' k r hm q => by cases hm; exact q _ (k.setv' r) Agr.set⟩
theorem gs_nil : PGsD cs X [] [] tgNil := by
  refine ⟨_, pgs_nil, fun ap H0 B0 B σ env H p Q ds vs env' k r hm q => ?_⟩
  cases ds with
  | nil =>
    simp only [Reps] at r
    cases hm
    exact ⟨r, q σ k Agr.refl⟩
  | cons d ds => cases hm
theorem gs_cons {tg : Expr} {tgs : List Expr} {a : MG} {b : MGs} {s1 s2 : List Nat} (h1 : PGD cs X tg s1 a) (h2 : PGsD cs X tgs s2 b) (hs : (assignEach (tg :: tgs) X.env).map (·.2) = assign tg X.env :: (assignEach tgs X.env).map (·.2) := by rfl) : PGsD cs X (tg :: tgs) (s1 ++ s2) (tgCons a b) := by
  obtain ⟨t, a1, a2⟩ := h1.ex
  obtain ⟨u, b1, b2⟩ := h2.ex
  refine ⟨_, pgs_cons a1 b1 hs, fun ap H0 B0 B σ env H p Q ds vs env' k r hm q => ?_⟩
  cases ds with
  | nil => cases hm
  | cons d ds =>
    simp only [Reps] at r
    obtain ⟨x, xs, rfl, r1, r2⟩ := r
    unfold tgCons at hm
    dsimp only at hm
    split at hm
    · rename_i env1 he
      exact ⟨x, xs, rfl, a2 ap H0 B0 B σ env H p _ d x env1 k r1 he fun σ' k' g1 => b2 ap H0 B0 B σ' env1 H p _ ds xs env' k' r2 hm fun σ2 k2 g2 => q σ2 k2 (g1.trans g2)⟩
    · cases hm
theorem tup_ev {K : PySem.W.Frag} {n : Nat} {g : TGs} {b : MGs} {sl : List Nat} (h : EvGs K cs g sl b) : EvG K cs (gTup K n g) sl (tgTup n b) := by
  intro ap H0 B0 B σ env H p Q d v env' k r hm q
  unfold tgTup at hm
  split at hm
  · split at hm
    · rename_i ds hl
      simp only [Rep] at r
      obtain ⟨a, xs, rfl, h1, h2⟩ := r
      exact ⟨a, xs, rfl, Evl.ex_t k.bh h1, by rw [h2.length]; exact hl, h ap H0 B0 B σ env H p Q ds xs env' k h2 hm q⟩
    · cases hm
  · cases hm
theorem g_tup {es : List Expr} {kk n : Nat} {b : MGs} {sl : List Nat} (hc : X.calm = true) (h : PGsD cs X es sl b) (hn : (assignEach es X.env).length = n := by rfl) (hst : (assignEach es X.env).findIdx? (·.1) = none := by rfl) : PGD cs X (.Tuple es kk pos) sl (tgTup n b) := by
  obtain ⟨t, a1, a2⟩ := h.ex
  exact ⟨_, pg_tup hc a1 hn hst, tup_ev a2⟩
theorem asg_ev {K : PySem.W.Frag} {te : TE} {g : TG} {mg : MG} {sl : List Nat} (h : EvE K cs te m) (hg : EvG K cs g sl mg) : EvS K cs (tAsg te g) (mAsg mg m) := by
  intro ap H0 B0 B σ env H p E o env' p' k hm q
  obtain ⟨d, p1, e1, e2⟩ := bindM_some hm
  rcases he : mg d env with _ | env1
  · rw [he] at e2; cases e2
  · rw [he] at e2
    cases e2
    exact h ap H0 B0 B σ env H p _ d p' k e1 fun B' H' v n hp r => hg ap H0 B0 B' σ env H' p' _ d v env' (k.nxt n hp) r he fun σ' k' _ => q B' σ' H' n.bb k'
/-- a, b = a tuple -/
theorem s_asg {tg : Expr} {mg : MG} {sl : List Nat} (h : PED cs X e m) (hg : PGD cs X tg sl mg) (hs : swapsWithSole [tg] e pos.line X.env = pure false := by rfl) (hw : swappedStores [tg] e X.env = pure none := by rfl)
    (h1 : (assignEach [tg] X.env).map (·.2) = [assign tg X.env] := by rfl) : PSD cs X (.Assign [tg] e pos) (mAsg mg m) := by
  obtain ⟨t, a1, a2⟩ := h.ex
  obtain ⟨g, g1, g2⟩ := hg.ex
  exact ⟨_, ps_asg a1 g1 hs hw h1, asg_ev a2 g2⟩
/-- a, b = x, y: plain local names -/
def mPar (i j : Nat) (m : Env' → Mo (List D)) : MS := fun env => bindM (m env) fun ds => match ds with
  | [d, e] => retM (.nx, (env.set i (.val d)).set j (.val e))
  | _ => failM
theorem s_par (i j : Nat) {x y : Str} {a b : Expr} {px py pt : Pos} {kt k2 pt2} {m : Env' → Mo (List D)} (hc : X.calm = true) (hN : X.N.Nodup) (ha : PAD cs X [a, b] m) (hw : swappedStores [.Tuple [.Name x px, .Name y py] kt pt] (.Tuple [a, b] k2 pt2) X.env = pure (some [x, y]))
    (hi : X.N[i]? = some x := by rfl) (hj : X.N[j]? = some y := by rfl) (hij : i ≠ j := by decide) (hx : X.env.scope.names.lookup x = some .local := by rfl) (hy : X.env.scope.names.lookup y = some .local := by rfl)
    (hs : swapsWithSole [.Tuple [.Name x px, .Name y py] kt pt] (.Tuple [a, b] k2 pt2) pos.line X.env = pure false := by rfl) : PSD cs X (.Assign [.Tuple [.Name x px, .Name y py] kt pt] (.Tuple [a, b] k2 pt2) pos) (mPar i j m) := by
  obtain ⟨t, a1, a2⟩ := ha.ex
  refine ⟨_, ps_par hc hN hi hj hij hx hy a1 hw hs, fun ap H0 B0 B σ env H p E o env' p' k hm q => ?_⟩
  obtain ⟨ds, p1, e1, e2⟩ := bindM_some hm
  split at e2
  · rename_i d e
    cases e2
    refine a2 ap H0 B0 B σ env H p _ _ p' k e1 fun B' H' vs n hp r => ?_
    simp only [Reps] at r
    obtain ⟨v, _, rfl, r1, w, _, rfl, r2, rfl⟩ := r
    exact ⟨v, w, rfl, q B' _ H' n.bb (((k.nxt n hp).setv' r1).setv' r2)⟩
  · cases e2
/-! ### loops -/
/-- an iterator walks these data -/
def Wk (K : PySem.W.Frag) (cs : CT) (ap : Addr) (J : It) (ds : List D) (B H : Hp) : Prop := ∀ i, (∀ d, ds[i]? = some d → J.go i H ∧ ∀ x H', J.yld i H x H' → ∃ B', Nxt ap B H B' H' ∧ (H ap ≠ none → H' ap = H ap) ∧ Rep K cs ap B' d x) ∧ (ds.length ≤ i → J.stop i H)
def EvI (K : PySem.W.Frag) (cs : CT) (wi : TI) (m : Env' → Mo (List D)) : Prop := ∀ ap H0 B0 B σ env H p (R : It → Hp → Prop) ds p', Ok K cs ap H0 B0 B σ env H p → m env p = some (ds, p') →
  (∀ B' H' J, Nxt ap B H B' H' → PotAt ap H' p' → (∀ B2 H2, Ex B' B2 → Ex B2 H2 → Wk K cs ap J ds B2 H2) → R J H') → wi σ H R
structure PID (cs : CT) (X : Cx) (tg iter : Expr) (m : Env' → Mo (List D)) : Prop where
  ex : ∃ wi, PI X tg iter wi ∧ EvI X.K cs wi m
/-- the same where what stands stays (a comprehension) -/
def EvJ (K : PySem.W.Frag) (cs : CT) (wi : TI) (m : Env' → Mo (List D)) : Prop := ∀ ap H0 B0 B σ env H p (R : It → Hp → Prop) ds p', Ok K cs ap H0 B0 B σ env H p → m env p = some (ds, p') →
  (∀ B' H' J, Nxt ap B H B' H' → PotAt ap H' p' → (∀ B2 H2, Nxt ap B' H' B2 H2 → Wk K cs ap J ds B2 H2) → R J H') → wi σ H R
structure PJD (cs : CT) (X : Cx) (tg iter : Expr) (m : Env' → Mo (List D)) : Prop where
  ex : ∃ wi, PI X tg iter wi ∧ EvJ X.K cs wi m
theorem PID.j {tg iter : Expr} {m : Env' → Mo (List D)} (h : PID cs X tg iter m) : PJD cs X tg iter m := by
  obtain ⟨wi, h1, h2⟩ := h.ex
  exact ⟨wi, h1, fun ap H0 B0 B σ env H p R ds p' k hm q => h2 ap H0 B0 B σ env H p R ds p' k hm fun B' H' J n hp wk => q B' H' J n hp fun B2 H2 n2 => wk B2 H2 n2.bb n2.bh⟩
theorem for_ev {K : PySem.W.Frag} {wi : TI} {g : TG} {tb : TS} {msrc : Env' → Mo (List D)} {mg : MG} {sl : List Nat} (hi : EvI K cs wi msrc) (hg : EvG K cs g sl mg) (hb : EvS K cs tb ms) : EvS K cs (tFor wi g tb) (mFor msrc mg ms) := by
  intro ap H0 B0 B σ env H p E o env' p' k hm q
  obtain ⟨ds, p1, e1, e2⟩ := bindM_some hm
  refine hi ap H0 B0 B σ env H p _ ds p1 k e1 fun B1 H1 J n1 hp1 wk => ?_
  have k1 := k.nxt n1 hp1
  refine ⟨fun i m σ' H' => m = ds.length - i ∧ ∃ B2 env2 p2, Ex B1 B2 ∧ Ok K cs ap H0 B0 B2 σ' env2 H' p2 ∧ loopM (mTg mg ms) (ds.drop i) env2 p2 = some ((o, env'), p'),
    ⟨_, rfl, B1, env, p1, Ex.refl _, k1, e2⟩, ?_⟩
  rintro i mm σ' H' ⟨rfl, B2, env2, p2, ex2, k2, he⟩
  have wki := wk B2 H' ex2 k2.bh i
  by_cases hlt : i < ds.length
  · right
    obtain ⟨d, hd⟩ : ∃ d, ds[i]? = some d := ⟨ds[i], List.getElem?_eq_getElem hlt⟩
    obtain ⟨hgo, hy⟩ := wki.1 d hd
    refine ⟨hgo, ?_⟩
    have hdr : ds.drop i = d :: ds.drop (i + 1) := by
      rw [List.drop_eq_getElem_cons hlt]
      rw [List.getElem?_eq_getElem hlt] at hd
      rw [Option.some.inj hd]
    rw [hdr] at he
    obtain ⟨⟨o1, env3⟩, p3, e3, e4⟩ := bindM_some (m := mTg mg ms d env2) he
    refine ⟨fun σ3 H3 => ∃ B3, Ex B1 B3 ∧ Ok K cs ap H0 B0 B3 σ3 env3 H3 p3 ∧ loopM (mTg mg ms) (ds.drop (i + 1)) env3 p3 = some ((o, env'), p'),
      fun σ3 H3 ⟨B3, ex3, k3, h3⟩ => ⟨ds.length - (i + 1), by omega, rfl, B3, env3, p3, ex3, k3, h3⟩, fun x H3 hyl => ?_⟩
    obtain ⟨B3, n3, hap, r3⟩ := hy x H3 hyl
    have hp3 : PotAt ap H3 p2 := by
      unfold PotAt
      rw [hap (by rw [k2.pot]; exact fun z => nomatch z)]
      exact k2.pot
    have k3 := k2.nxt n3 hp3
    unfold mTg at e3
    rcases he4 : mg d env2 with _ | env4
    · rw [he4] at e3; cases e3
    · rw [he4] at e3
      refine hg ap H0 B0 B3 σ' env2 H3 p2 _ d x env4 k3 r3 he4 fun σ4 k4 _ => ?_
      refine hb ap H0 B0 B3 σ4 env4 H3 p2 _ o1 env3 p3 k4 e3 ?_
      have ex3 : Ex B1 B3 := ex2.trans n3.bb
      cases o1 with
      | nx => exact fun B5 σ5 H5 ex5 k5 => ⟨B5, ex3.trans ex5, k5, e4⟩
      | ct => exact fun B5 σ5 H5 ex5 k5 => ⟨B5, ex3.trans ex5, k5, e4⟩
      | bk =>
        cases e4
        exact fun B5 σ5 H5 ex5 k5 => q B5 σ5 H5 ((n1.bb.trans ex3).trans ex5) k5
      | rt v =>
        cases e4
        exact q
      | ro v =>
        cases e4
        exact q
  · left
    refine ⟨wki.2 (by omega), ?_⟩
    rw [List.drop_eq_nil_of_le (by omega)] at he
    cases he
    exact q B2 σ' H' (n1.bb.trans ex2) k2
theorem s_for {tg iter : Expr} {body : List Stmt} {msrc : Env' → Mo (List D)} {mg : MG} {sl : List Nat} (hp : PassesOwn (model X.prog X.w) X.A X.env X.xe) (hc : X.calm = true) (hi : PID cs X tg iter msrc) (hg : PGD cs X tg sl mg) (hb : PSsD cs X body ms)
    (hs : ∀ x, foldedSetIterable iter X.env x = pure x := by intro _; rfl) : PSD cs X (.For tg iter body [] pos) (mFor msrc mg ms) := by
  obtain ⟨t, a1, a2⟩ := hi.ex
  obtain ⟨g, g1, g2⟩ := hg.ex
  obtain ⟨b, b1, b2⟩ := hb.ex
  exact ⟨_, ps_for hp hc a1 g1 b1 hs, for_ev a2 g2 b2⟩
theorem while_ev {K : PySem.W.Frag} {tc : TT} {tb : TS} {mc : Env' → Mo Bool} (hc : EvT K cs tc mc) (hb : EvS K cs tb ms) : EvS K cs (tWhile tc tb) (mWhile mc ms) := by
  intro ap H0 B0 B σ env H p E o env' p' k hm q
  refine ⟨fun m σ' H' => ∃ B2 env2 p2, Ex B B2 ∧ Ok K cs ap H0 B0 B2 σ' env2 H' p2 ∧ whileM mc ms m env2 p2 = some ((o, env'), p'), ⟨fuelW, B, env, p, Ex.refl _, k, hm⟩, ?_⟩
  rintro m σ' H' ⟨B2, env2, p2, ex2, k2, he⟩
  cases m with
  | zero => cases he
  | succ m =>
    obtain ⟨x, p3, e3, e4⟩ := bindM_some (m := mc env2) he
    refine hc ap H0 B0 B2 σ' env2 H' p2 _ x p3 k2 e3 fun B3 H3 n3 hp3 => ?_
    have k3 := k2.nxt n3 hp3
    cases x with
    | true =>
      rw [if_pos rfl] at e4 ⊢
      obtain ⟨⟨o1, env4⟩, p4, e5, e6⟩ := bindM_some (m := ms env2) e4
      refine ⟨fun σ5 H5 => ∃ B5, Ex B B5 ∧ Ok K cs ap H0 B0 B5 σ5 env4 H5 p4 ∧ whileM mc ms m env4 p4 = some ((o, env'), p'),
        fun σ5 H5 ⟨B5, ex5, k5, h5⟩ => ⟨m, by omega, B5, env4, p4, ex5, k5, h5⟩, ?_⟩
      refine hb ap H0 B0 B3 σ' env2 H3 p3 _ o1 env4 p4 k3 e5 ?_
      have ex3 : Ex B B3 := ex2.trans n3.bb
      cases o1 with
      | nx => exact fun B5 σ5 H5 ex5 k5 => ⟨B5, ex3.trans ex5, k5, e6⟩
      | ct => exact fun B5 σ5 H5 ex5 k5 => ⟨B5, ex3.trans ex5, k5, e6⟩
      | bk =>
        cases e6
        exact fun B5 σ5 H5 ex5 k5 => q B5 σ5 H5 (ex3.trans ex5) k5
      | rt v =>
        cases e6
        exact q
      | ro v =>
        cases e6
        exact q
    | false =>
      rw [if_neg (by decide)] at e4 ⊢
      cases e4
      exact q B3 σ' H3 (ex2.trans n3.bb) k3
theorem s_while {c : Expr} {body : List Stmt} {mc : Env' → Mo Bool} (hp : PassesOwn (model X.prog X.w) X.A X.env X.xe) (hc : PTD cs X c mc) (hb : PSsD cs X body ms) : PSD cs X (.While c body [] pos) (mWhile mc ms) := by
  obtain ⟨t, a1, a2⟩ := hc.ex
  obtain ⟨b, b1, b2⟩ := hb.ex
  exact ⟨_, ps_while hp a1 b1, while_ev a2 b2⟩
end
end DL
end

section
set_option Elab.async false
set_option linter.all false
set_option maxRecDepth 100000
set_option maxHeartbeats 4000000
/-! DL: defs, calls. -/
namespace DL
open PySem PySem.Spec PyProof.Rows L2
open Evl (Ex)

/-- a def's promise: from data to a datum -/
def spD (K : PySem.W.Frag) (cs : CT) (n : Nat) (f : List D → Mo D) : Sp := fun vs H Q _ => ∃ ap B ds p d p', vs.length = n ∧ Ex B H ∧ PotAt ap H p ∧ B ap = none ∧ Reps K cs ap B ds vs ∧ f ds p = some (d, p') ∧ KE K cs ap B H p' d Q

/-- a def keeps a promise; g: only where no repr is under way -/
structure FnD (g : Bool) (P : Program) (w : World) (K : PySem.W.Frag) (mg : Str → Option Value) (base : Heap) (k : Nat) (f : Addr) (fd : FuncData) (ps : List Str) (sp : Sp) : Prop where
  len : ∀ vs H Q E, sp vs H Q E → vs.length = ps.length
  run : ∀ (A : Around) (outer : List Env) (s : Shared) (H : Hp) (args : Args) (us : List Value) (vs : List V) (Q : VK) (E : XK), Room k A → (g = true → A.guards = some []) → Env0 P w K mg base A outer s H → BindsTo s fd args (ps.zip us) → Vals vs us → sp vs H Q E →
    codeAny (model P w) A (.call (.ref f) args) (CR CX0 outer P w H s Q E) s
theorem FnD.of {P : Program} {w : World} {K : PySem.W.Frag} {mg : Str → Option Value} {base : Heap} {k : Nat} {f : Addr} {fd : FuncData} {ps : List Str} {sp : Sp} (g : Bool) (F : FnOk P w K mg base CX0 k f fd ps sp) : FnD g P w K mg base k f fd ps sp :=
  ⟨F.len, fun A outer s H args us vs Q E hr _ e0 hb r h => F.run A outer s H args us vs Q E hr e0 hb r h⟩
theorem FnD.ok {P : Program} {w : World} {K : PySem.W.Frag} {mg : Str → Option Value} {base : Heap} {k : Nat} {f : Addr} {fd : FuncData} {ps : List Str} {sp : Sp} (F : FnD false P w K mg base k f fd ps sp) : FnOk P w K mg base CX0 k f fd ps sp :=
  ⟨F.len, fun A outer s H args us vs Q E hr e0 hb r h => F.run A outer s H args us vs Q E hr (fun z => nomatch z) e0 hb r h⟩
theorem FnD.mono {g g' : Bool} {P : Program} {w : World} {K : PySem.W.Frag} {mg : Str → Option Value} {base : Heap} {k k' : Nat} {f : Addr} {fd : FuncData} {ps : List Str} {sp : Sp} (F : FnD g P w K mg base k f fd ps sp) (hk : k ≤ k') (hg : g = true → g' = true) : FnD g' P w K mg base k' f fd ps sp :=
  ⟨F.len, fun A outer s H args us vs Q E hr h' e0 hb r h => F.run A outer s H args us vs Q E (hr.mono hk) (fun z => h' (hg z)) e0 hb r h⟩

/-- what happens in a def's own frame -/
abbrev cx0 (P : Program) (w : World) (K : PySem.W.Frag) (mg : Str → Option Value) (base : Heap) (N : List Str) (qual : Str) (sc : Scope) (f : Addr) (cdv : Value) (A : Around) (outer : List Env) (s : Shared) (H : Hp) (E : XK) : Cx :=
  (cxOf CX0 P w K mg base N qual sc f cdv A outer s H E).nox
/-- the def at f, entered -/
theorem fn_enter {g : Bool} {P : Program} {w : World} {K : PySem.W.Frag} {mg : Str → Option Value} {base : Heap} {k : Nat} {f : Addr} {name qual : Str} {params : Arguments} {body : List Stmt} {scope : Scope} {dvs : List V} {kws : List (Str × V)} {fd : FuncData} {N ps : List Str} {sp : Sp}
    (F : FunD K name qual params body scope dvs kws f fd) (S : FnScope N ps scope) (hlen : ∀ vs H Q E, sp vs H Q E → vs.length = ps.length)
    (hbody : ∀ (cdv : Value) (A : Around) (outer : List Env) (s : Shared) (H : Hp) (vs : List V) (Q : VK) (E : XK), Room k (A.deeper (envOfC qual scope s.heap.objs.size f cdv)) → (g = true → A.guards = some []) → sp vs H Q E →
      ∃ t, PSs (cx0 P w K mg base N qual scope f cdv A outer s H E) body t ∧ t { nx := fun _ H' => Q .non H', rt := Q } (L2.start N vs) H) : FnD g P w K mg base (k + 1) f fd ps sp := by
  obtain ⟨oc, od, dV, kV, doc, pm, an, cdv, ct, osl, rfl, lk, hcd, hD, hK⟩ := F.ex
  refine ⟨hlen, fun A outer s H args us vs Q E room hg e0 hbd rv hs => ?_⟩
  have kIn : K.In s.heap := e0.mod.kin.keeps fun b o z => (e0.bs b o z).1
  refine codeAny_call_function room.depth (kIn _ _ lk) rfl S.co S.gen rfl (PySem.W.codeRec_of kIn hcd) (hbd _ _ _ _ ?_)
  refine wpAny_newFunctionEnv_cells S.kind (fun y hy => ?_) fun env he s1 x => ?_
  · obtain ⟨n, v⟩ := y
    cases S.par n (List.of_mem_zip hy).1 with
    | inl q => exact .inl q
    | inr q => exact .inr ⟨q, PySem.W.cellsFrom_some _ _ _ (.inl q)⟩
  · subst he
    have lim : s.heap.NoLimit := e0.mod.nolimit.keeps fun b o z => (e0.bs b o z).1
    refine ⟨lim.keeps x.toInCall.keep, codeAny_func ?_⟩
    obtain ⟨t, ht, hq⟩ := hbody cdv A outer s H vs Q E (room.deeper _) hg hs
    refine wpAny_mono (ht.nox.run [] s1 (L2.start N vs) H _ (inv_start S room.hd e0 (hlen _ _ _ _ hs) rv x) hq) (fun fl s' z => ?_) fun e s' z => z
    have done : ∀ {σ' : L2.St} {H' : Hp} {v : V} {u : Value}, Inv (cxOf CX0 P w K mg base N qual scope f cdv A outer s H E) [] σ' H' s' → RelV v u → Q v H' → CE outer P w H s Q u s' := fun {_ H' v _} J a b => ⟨v, H', J.os, J.bare, J.base, J.hok, a, b⟩
    match fl, z with
    | .ret u, ⟨v, σ', H', J, a, b⟩ => exact done J a b
    | .next, ⟨σ', H', J, b⟩ => exact done (v := V.non) (u := Value.none) J rfl b
    | .brk, ⟨_, _, _, b⟩ => exact b.elim
    | .cont, ⟨_, _, _, b⟩ => exact b.elim

/-- the slots at the entry -/
def env0 (n : Nat) (ds : List D) : Env' := ds.map .val ++ List.replicate (n - ds.length) .un
/-- a def's denotation, from its body's -/
def runD (n : Nat) (m : MS) : List D → Mo D := fun ds => bindM (m (env0 n ds)) fun r => match r.1 with
  | .rt d => retM d
  | .ro ds => retM (.lst ds)
  | .nx => retM .non
  | _ => failM
theorem reps_map {K : PySem.W.Frag} {cs : CT} {ap : Addr} {B : Hp} {ds : List D} {vs : List V} (h : Reps K cs ap B ds vs) {i : Nat} {d : D} (e : ds[i]? = some d) : ∃ v, (vs.map some)[i]? = some (some v) ∧ Rep K cs ap B d v := by
  obtain ⟨v, h1, h2⟩ := h.get e
  exact ⟨v, by rw [List.getElem?_map, h1]; rfl, h2⟩
/-- a new list becomes a datum -/
theorem KE.own {K : PySem.W.Frag} {cs : CT} {ap : Addr} {B H B' H' : Hp} {p : Pt} {ds : List D} {Q : VK} {a : Addr} {xs : List V} (q : KE K cs ap B H p (.lst ds) Q) (n : Nxt ap B H B' H') (hp : PotAt ap H' p) (hn : H a = none) (hb : B' a = none) (hh : H' a = some (.lst xs)) (r : Reps K cs ap B' ds xs) : Q (.ref a) H' := by
  have ex : Ex B' (upd B' a (.lst xs)) := Ex.new hb
  refine q (upd B' a (.lst xs)) H' (.ref a) ⟨n.bb.trans ex, fun b o hbo => ?_, fun b hb1 hb2 => ?_, n.fr, n.nn⟩ hp (by simp only [Rep]; exact ⟨a, xs, rfl, upd_same, r.mono ex⟩)
  · by_cases z : b = a
    · subst z; rw [upd_same] at hbo; rw [hh]; exact hbo
    · rw [upd_ne z] at hbo; exact n.bh _ _ hbo
  · have z : b ≠ a := fun z => hb1 (z ▸ hn)
    rw [upd_ne z]; exact n.nw b hb1 hb2
/-- the state at the entry -/
theorem ok_start {K : PySem.W.Frag} {cs : CT} {ap : Addr} {B H : Hp} {N : List Str} {ds : List D} {vs : List V} {p : Pt} (e : Ex B H) (hp : PotAt ap H p) (hb : B ap = none) (r : Reps K cs ap B ds vs) : Ok K cs ap H B B (L2.start N vs) (env0 N.length ds) H p := by
  have hl := r.length
  have own : ∀ (i : Nat) sv, (env0 N.length ds)[i]? = some sv → sv.prv = true → False := fun i sv h g => by
    unfold env0 at h
    rw [List.getElem?_append] at h
    split at h
    · rw [List.getElem?_map] at h
      cases z : ds[i]? with
      | none => rw [z] at h; cases h
      | some d => rw [z] at h; cases h; cases g
    · rw [List.getElem?_replicate] at h
      split at h
      · cases h; cases g
      · cases h
  refine ⟨Nxt.refl e, hp, hb, by rw [show H ap = _ from hp]; exact (fun z => nomatch z), fun i sv h => ?_, fun i sv a h g _ => (own i sv h g).elim, fun i j sv sv' a _ h _ g _ _ => (own i sv h g).elim, by unfold L2.start env0; simp [hl], fun i c es a h _ => (own i _ h rfl).elim⟩
  unfold env0 at h
  unfold L2.start
  rw [List.getElem?_append] at h
  split at h
  · rename_i hi
    rw [List.getElem?_map] at h
    cases z : ds[i]? with
    | none => rw [z] at h; cases h
    | some d =>
      rw [z] at h
      cases h
      rw [List.length_map] at hi
      rw [List.getElem?_append_left (by rw [List.length_map]; omega)]
      exact reps_map r z
  · rw [List.getElem?_replicate] at h
    split at h
    · cases h; trivial
    · cases h
/-- THE RULE of a def -/
theorem fn_d {g : Bool} {cs : CT} {P : Program} {w : World} {K : PySem.W.Frag} {mg : Str → Option Value} {base : Heap} {k : Nat} {f : Addr} {name qual : Str} {params : Arguments} {body : List Stmt} {scope : Scope} {dvs : List V} {kws : List (Str × V)} {fd : FuncData} {N ps : List Str} {m : MS}
    (F : FunD K name qual params body scope dvs kws f fd) (S : FnScope N ps scope)
    (hbody : ∀ (cdv : Value) (A : Around) (outer : List Env) (s : Shared) (H : Hp) (E : XK), Room k (A.deeper (envOfC qual scope s.heap.objs.size f cdv)) → (g = true → A.guards = some []) →
      PSsD cs (cx0 P w K mg base N qual scope f cdv A outer s H E) body m) : FnD g P w K mg base (k + 1) f fd ps (spD K cs ps.length (runD N.length m)) := by
  refine fn_enter F S (fun vs H Q E h => ?_) fun cdv A outer s H vs Q E hr hg h => ?_
  · obtain ⟨ap, B, ds, p, d, p', h, _⟩ := h
    exact h
  · obtain ⟨ap, B, ds, p, d, p', hl, e, hp, hb, r, hm, q⟩ := h
    obtain ⟨t, ht, hv⟩ := (hbody cdv A outer s H E hr hg).ex
    refine ⟨t, ht, ?_⟩
    obtain ⟨⟨o, env'⟩, p1, e1, e2⟩ := bindM_some hm
    refine hv ap H B B _ _ H p _ o env' p1 (ok_start e hp hb r) e1 ?_
    cases o with
    | rt d' => cases e2; exact q
    | nx => cases e2; exact fun B' σ' H' _ k' => q B' H' .non k'.st k'.pot (by simp only [Rep])
    | ro ds' => cases e2; exact fun B' H' a xs n hp' h0 hb' hh r' => KE.own q n hp' h0 hb' hh r'
    | bk => cases e2
    | ct => cases e2
/-- a def that hands back a new list -/
def spO (K : PySem.W.Frag) (cs : CT) (n : Nat) (f : List D → Mo (List D)) : Sp := fun vs H Q _ => ∃ ap B ds p es p', vs.length = n ∧ Ex B H ∧ PotAt ap H p ∧ B ap = none ∧ Reps K cs ap B ds vs ∧ f ds p = some (es, p') ∧ KO K cs ap B H p' es Q
def runO (n : Nat) (m : MS) : List D → Mo (List D) := fun ds => bindM (m (env0 n ds)) fun r => match r.1 with
  | .ro ds => retM ds
  | _ => failM
theorem fn_dO {g : Bool} {cs : CT} {P : Program} {w : World} {K : PySem.W.Frag} {mg : Str → Option Value} {base : Heap} {k : Nat} {f : Addr} {name qual : Str} {params : Arguments} {body : List Stmt} {scope : Scope} {dvs : List V} {kws : List (Str × V)} {fd : FuncData} {N ps : List Str} {m : MS}
    (F : FunD K name qual params body scope dvs kws f fd) (S : FnScope N ps scope)
    (hbody : ∀ (cdv : Value) (A : Around) (outer : List Env) (s : Shared) (H : Hp) (E : XK), Room k (A.deeper (envOfC qual scope s.heap.objs.size f cdv)) → (g = true → A.guards = some []) →
      PSsD cs (cx0 P w K mg base N qual scope f cdv A outer s H E) body m) : FnD g P w K mg base (k + 1) f fd ps (spO K cs ps.length (runO N.length m)) := by
  refine fn_enter F S (fun vs H Q E h => ?_) fun cdv A outer s H vs Q E hr hg h => ?_
  · obtain ⟨ap, B, ds, p, d, p', h, _⟩ := h
    exact h
  · obtain ⟨ap, B, ds, p, d, p', hl, e, hp, hb, r, hm, q⟩ := h
    obtain ⟨t, ht, hv⟩ := (hbody cdv A outer s H E hr hg).ex
    refine ⟨t, ht, ?_⟩
    obtain ⟨⟨o, env'⟩, p1, e1, e2⟩ := bindM_some hm
    refine hv ap H B B _ _ H p _ o env' p1 (ok_start e hp hb r) e1 ?_
    cases o with
    | rt d' => cases e2
    | nx => cases e2
    | ro ds' => cases e2; exact q
    | bk => cases e2
    | ct => cases e2

/-! ### calls -/
section
variable {cs : CT} {X : Cx} {g : Bool} {k : Nat} {f : Addr} {fd : FuncData} {ps : List Str} {sp : Sp} {x : Str} {p pos : Pos} {e : Expr} {es : List Expr} {m : Env' → Mo (List D)} {fm : List D → Mo D}
/-- the callee runs -/
theorem run_d {ds : List Value} {pins : List (Addr × Obj)} {σ : L2.St} {H : Hp} {s : Shared} {Q : VK} {args : Args} {us : List Value} {vs : List V} {E : XK} (F : FnD g X.prog X.w X.K X.mg X.base k f fd ps sp) (hr : Room k X.A) (hg : g = true → X.A.guards = some [])
    (hb : BindsTo s fd args (ps.zip us)) (I : Inv X pins σ H s) (r : Vals vs us) (h : sp vs H Q E) : codeAny (model X.prog X.w) X.A (.call (.ref f) args) (fun r s' => match r with
      | .ok (.ret u) => EP X pins σ Q u s'
      | .ok _ => False
      | .error e => False) s := by
  refine codeAny_mono (F.run X.A X.stack s H args us vs Q E hr hg I.env0 hb r h) fun r s' hq => ?_
  match r, hq with
  | .ok (.ret u), hq => exact I.after hq
  | .error e, hq => exact hq.elim
  | .ok .next, hq => exact hq.elim
  | .ok .brk, hq => exact hq.elim
  | .ok .cont, hq => exact hq.elim
theorem call_d {pins : List (Addr × Obj)} {σ : L2.St} {H : Hp} {s : Shared} {Q : VK} {kw : List (Str × Value)} {pv us : List Value} {vs : List V} {E : XK} (F : FnD g X.prog X.w X.K X.mg X.base k f fd ps sp) (hr : Room k X.A) (hg : g = true → X.A.guards = some [])
    (hb : BindsTo s fd ⟨pv, kw⟩ (ps.zip us)) (I : Inv X pins σ H s) (r : Vals vs us) (h : sp vs H Q E) : wpAny (model X.prog X.w) X.A (call (.ref f) pv kw) (EP X pins σ Q) X.xe s := by
  refine wpAny_call (codeAny_mono (run_d (ds := []) F hr hg hb I r h) fun r s' hq => ?_)
  match r, hq with
  | .ok (.ret u), hq => exact hq
  | .error e, hq => exact hq.elim
  | .ok .next, hq => exact hq.elim
  | .ok .brk, hq => exact hq.elim
  | .ok .cont, hq => exact hq.elim
/-- a reading of a call: the arguments, then the promise -/
def tCl (sp : Sp) (t : TA) : TE := fun σ H Q => t σ H fun vs H1 => sp vs H1 Q E0
theorem call_ev {K : PySem.W.Frag} {n : Nat} {t : TA} (h : EvA K cs t m) (hn : ∀ ds p d p', fm ds p = some (d, p') → ds.length = n) : EvE K cs (tCl (spD K cs n fm) t) (mCall fm m) := by
  intro ap H0 B0 B σ env H p Q d p' k hm q
  obtain ⟨ds, p1, e1, e2⟩ := bindM_some hm
  refine h ap H0 B0 B σ env H p _ ds p1 k e1 fun B1 H1 vs n1 hp1 r => ?_
  have k1 := k.nxt n1 hp1
  exact ⟨ap, B1, ds, p1, d, p', by rw [r.length, hn ds p1 d p' e2], k1.bh, hp1, k1.bap, r, e2, fun B' H' v n2 hp2 r2 => q B' H' v (n1.trans n2) hp2 r2⟩
/-- how many arguments are written -/
def lenM (n : Nat) (f : List D → Mo D) : List D → Mo D := fun ds => if ds.length = n then f ds else failM
theorem lenM_len {n : Nat} {f : List D → Mo D} : ∀ ds p d p', lenM n f ds p = some (d, p') → ds.length = n := by
  intro ds p d p' h
  unfold lenM at h
  split at h
  · assumption
  · cases h
theorem spD_len {K : PySem.W.Frag} {n : Nat} {vs : List V} {H : Hp} {Q : VK} {E : XK} (h : spD K cs n (lenM n fm) vs H Q E) : spD K cs n fm vs H Q E := by
  obtain ⟨ap, B, ds, p, d, p', hl, e, hp, hb, r, hm, q⟩ := h
  refine ⟨ap, B, ds, p, d, p', hl, e, hp, hb, r, ?_, q⟩
  unfold lenM at hm
  rw [if_pos (by rw [← r.length]; exact hl)] at hm
  exact hm
/-- f(e, ..) -/
theorem p_call {n : Nat} (F : FnD g X.prog X.w X.K X.mg X.base k f fd ps (spD X.K cs n fm)) (hr : Room k X.A) (hgd : g = true → X.A.guards = some []) (hm : X.mg x = some (.ref f)) (hk : PySem.W.keepIn X.K (.ref f) = true) (hb : Binds X.K fd ps []) (ha : PAD cs X (e :: es) m) (hg : Gl X x := by rfl)
    (hdb : (x == ("__debug__" : Str)) = false := by decide) (he : starEach (e :: es) X.env = (false, eval e X.env) :: starEach es X.env := by rfl) (hpl : (backTo pos (starEach es X.env)).any (·.1) = false := by rfl) :
    PED cs X (.Call (.Name x p) (e :: es) [] pos) (mCall (lenM n fm) m) := by
  obtain ⟨ta, a1, a2⟩ := ha.ex
  refine ⟨tCl (spD X.K cs n (lenM n fm)) ta, ⟨fun pins s σ H Q I h => ?_⟩, call_ev a2 lenM_len⟩
  refine wpAny_Call_Name_kw (ld_glob I hg hm ?_ hdb)
  refine PySem.W.callWith_K (h₀ := X.base) I.ok.mod.kin hk (thn (a1.run pos pins s σ H _ I h) fun us s1 ⟨vs, H1, I1, r, q⟩ => ⟨I1.kIn, ?_⟩) he hpl
  have hb1 := hb s1 us I1.kIn (by rw [List.append_nil, ← r.length]; exact F.len _ _ _ _ (spD_len q))
  rw [List.append_nil] at hb1
  exact call_d (pv := us) (kw := []) F hr hgd hb1 I1 r (spD_len q)
theorem callO_ev {K : PySem.W.Frag} {n : Nat} {t : TA} {fo : List D → Mo (List D)} (h : EvA K cs t m) (hn : ∀ ds p d p', fo ds p = some (d, p') → ds.length = n) : EvO K cs (tCl (spO K cs n fo) t) (mCallO fo m) := by
  intro ap H0 B0 B σ env H p Q d p' k hm q
  obtain ⟨ds, p1, e1, e2⟩ := bindM_some hm
  refine h ap H0 B0 B σ env H p _ ds p1 k e1 fun B1 H1 vs n1 hp1 r => ?_
  have k1 := k.nxt n1 hp1
  refine ⟨ap, B1, ds, p1, d, p', by rw [r.length, hn ds p1 d p' e2], k1.bh, hp1, k1.bap, r, e2, fun B' H' a xs n2 hp2 h0 hb hh r2 => q B' H' a xs (n1.trans n2) hp2 ?_ hb hh r2⟩
  cases z : H a with
  | none => rfl
  | some o => exact absurd h0 (n1.nn a (by rw [z]; exact fun y => nomatch y))
def lenO (n : Nat) (f : List D → Mo (List D)) : List D → Mo (List D) := fun ds => if ds.length = n then f ds else failM
theorem lenO_len {n : Nat} {f : List D → Mo (List D)} : ∀ ds p d p', lenO n f ds p = some (d, p') → ds.length = n := by
  intro ds p d p' h
  unfold lenO at h
  split at h
  · assumption
  · cases h
theorem spO_len {K : PySem.W.Frag} {n : Nat} {vs : List V} {H : Hp} {Q : VK} {E : XK} {fo : List D → Mo (List D)} (h : spO K cs n (lenO n fo) vs H Q E) : spO K cs n fo vs H Q E := by
  obtain ⟨ap, B, ds, p, d, p', hl, e, hp, hb, r, hm, q⟩ := h
  refine ⟨ap, B, ds, p, d, p', hl, e, hp, hb, r, ?_, q⟩
  unfold lenO at hm
  rw [if_pos (by rw [← r.length]; exact hl)] at hm
  exact hm
/-- f(e, ..), a new list handed back -/
theorem p_callO {n : Nat} {fo : List D → Mo (List D)} (F : FnD g X.prog X.w X.K X.mg X.base k f fd ps (spO X.K cs n fo)) (hr : Room k X.A) (hgd : g = true → X.A.guards = some []) (hm : X.mg x = some (.ref f)) (hk : PySem.W.keepIn X.K (.ref f) = true) (hb : Binds X.K fd ps []) (ha : PAD cs X (e :: es) m) (hg : Gl X x := by rfl)
    (hdb : (x == ("__debug__" : Str)) = false := by decide) (he : starEach (e :: es) X.env = (false, eval e X.env) :: starEach es X.env := by rfl) (hpl : (backTo pos (starEach es X.env)).any (·.1) = false := by rfl) :
    POD cs X (.Call (.Name x p) (e :: es) [] pos) (mCallO (lenO n fo) m) := by
  obtain ⟨ta, a1, a2⟩ := ha.ex
  refine ⟨tCl (spO X.K cs n (lenO n fo)) ta, ⟨fun pins s σ H Q I h => ?_⟩, callO_ev a2 lenO_len⟩
  refine wpAny_Call_Name_kw (ld_glob I hg hm ?_ hdb)
  refine PySem.W.callWith_K (h₀ := X.base) I.ok.mod.kin hk (thn (a1.run pos pins s σ H _ I h) fun us s1 ⟨vs, H1, I1, r, q⟩ => ⟨I1.kIn, ?_⟩) he hpl
  have hb1 := hb s1 us I1.kIn (by rw [List.append_nil, ← r.length]; exact F.len _ _ _ _ (spO_len q))
  rw [List.append_nil] at hb1
  exact call_d (pv := us) (kw := []) F hr hgd hb1 I1 r (spO_len q)
/-- the values of a call by names alone, in the parameters' order -/
def pick {α : Type} (ix : List Nat) (l : List α) : List α := ix.filterMap (l[·]?)
def KwB (fd : FuncData) (ps ks : List Str) (ix : List Nat) : Prop := ∀ (s : Shared) (ws : List Value), ws.length = ks.length → BindsTo s fd ⟨[], ks.zip ws⟩ (ps.zip (pick ix ws))
theorem pick_vals {vs : List V} {us : List Value} (r : Vals vs us) : ∀ ix : List Nat, Vals (pick ix vs) (pick ix us)
  | [] => .nil
  | i :: ix => by
    unfold pick
    rw [List.filterMap_cons, List.filterMap_cons]
    cases h : vs[i]? with
    | none =>
      rw [r.none_of h]
      exact pick_vals r ix
    | some v =>
      obtain ⟨u, h1, h2⟩ := r.get h
      rw [h1]
      exact .cons h2 (pick_vals r ix)
theorem pick_reps {K : PySem.W.Frag} {ap : Addr} {B : Hp} {ds : List D} {vs : List V} (r : Reps K cs ap B ds vs) : ∀ ix : List Nat, Reps K cs ap B (pick ix ds) (pick ix vs)
  | [] => reps_nil
  | i :: ix => by
    unfold pick
    rw [List.filterMap_cons, List.filterMap_cons]
    cases h : ds[i]? with
    | none =>
      have h2 : vs[i]? = none := by
        rw [List.getElem?_eq_none_iff] at h ⊢
        rw [r.length]; exact h
      rw [h2]
      exact pick_reps r ix
    | some d =>
      obtain ⟨v, h1, h2⟩ := r.get h
      rw [h1]
      exact reps_cons h2 (pick_reps r ix)
/-- keyword values -/
structure PKD (cs : CT) (X : Cx) (kws : List Keyword) (m : Env' → Mo (List D)) : Prop where
  ex : ∃ ta, PK X kws ta ∧ EvA X.K cs ta m
theorem k_nil : PKD cs X [] mNil := by
  refine ⟨tNil, pk_nil, fun ap H0 B0 B σ env H p Q d p' k hm q => ?_⟩
  cases hm
  exact q B H [] (Nxt.refl k.bh) k.pot reps_nil
theorem k_cons {nm : Option Str} {kpos : Pos} {kws : List Keyword} {me : Env' → Mo D} (ha : PED cs X e me) (hr : PKD cs X kws m) : PKD cs X (⟨nm, e, kpos⟩ :: kws) (mCons me m) := by
  obtain ⟨ta, a1, a2⟩ := ha.ex
  obtain ⟨tr, r1, r2⟩ := hr.ex
  refine ⟨_, pk_cons a1 r1, fun ap H0 B0 B σ env H p Q d p' k hm q => ?_⟩
  obtain ⟨x, p1, e1, e2⟩ := bindM_some hm
  obtain ⟨xs, p2, e3, e4⟩ := bindM_some e2
  cases e4
  refine a2 ap H0 B0 B σ env H p _ x p1 k e1 fun B1 H1 v n1 hp1 g1 => ?_
  have k1 := k.nxt n1 hp1
  exact r2 ap H0 B0 B1 σ env H1 p1 _ xs p' k1 e3 fun B2 H2 vs n2 hp2 g2 => q B2 H2 (v :: vs) (n1.trans n2) hp2 (reps_cons (g1.mono n2.bb) g2)
def pickM (c : Nat) (ix : List Nat) (f : List D → Mo D) : List D → Mo D := fun ds => if ds.length = c then f (pick ix ds) else failM
/-- f(k = v, ..), names alone -/
theorem p_callK {n : Nat} {ks : List Str} {ix : List Nat} {kws : List Keyword} (F : FnD g X.prog X.w X.K X.mg X.base k f fd ps (spD X.K cs n fm)) (hr : Room k X.A) (hgd : g = true → X.A.guards = some []) (hm : X.mg x = some (.ref f)) (hk : PySem.W.keepIn X.K (.ref f) = true) (hb : KwB fd ps ks ix) (ha : PKD cs X kws m)
    (hks : (backToKw pos (keywordEach kws X.env)).filterMap (·.1) = ks := by rfl) (hall : (backToKw pos (keywordEach kws X.env)).all (·.1.isSome) = true := by rfl) (hn : ix.length = n := by rfl) (hlt : ∀ i ∈ ix, i < ks.length := by decide) (hg : Gl X x := by rfl)
    (hdb : (x == ("__debug__" : Str)) = false := by decide) (hpl : ((backTo pos (starEach [] X.env)).any (·.1) || (backToKw pos (keywordEach kws X.env)).any (·.1.isNone)) = false := by rfl) :
    PED cs X (.Call (.Name x p) [] kws pos) (mCall (pickM ks.length ix fm) m) := by
  obtain ⟨ta, a1, a2⟩ := ha.ex
  refine ⟨tCl (spD X.K cs ks.length (pickM ks.length ix fm)) ta, ⟨fun pins s σ H Q I h => ?_⟩, call_ev a2 fun ds p d p' h => ?_⟩
  · refine wpAny_Call_Name_kw (ld_glob I hg hm ?_ hdb)
    refine PySem.W.callWith_KW0 (h₀ := X.base) I.ok.mod.kin hk hall (thn (a1.run pos pins s σ H _ I h) fun ws s1 ⟨zs, H1, I1, r, q⟩ => ⟨I1.kIn, ?_⟩) hpl
    rw [hks]
    obtain ⟨ap, B, ds, p, d, p', hl, ex, hp, hbp, rr, hmm, qq⟩ := q
    unfold pickM at hmm
    rw [if_pos (by rw [← rr.length]; exact hl)] at hmm
    have hlw : ws.length = ks.length := by rw [← r.length]; exact hl
    have hpl2 : (pick ix zs).length = n := by
      have : ∀ (ix : List Nat), (∀ i ∈ ix, i < ks.length) → (pick ix zs).length = ix.length := by
        intro ix
        induction ix with
        | nil => intro _; rfl
        | cons i ix ih =>
          intro hi
          have h1 : i < zs.length := by rw [hl]; exact hi i List.mem_cons_self
          unfold pick
          rw [List.filterMap_cons, List.getElem?_eq_getElem h1]
          show ((ix.filterMap (zs[·]?)).length + 1) = _
          rw [List.length_cons]
          exact congrArg (· + 1) (ih fun j hj => hi j (List.mem_cons_of_mem _ hj))
      rw [this ix hlt, hn]
    exact call_d (E := E0) (pv := []) (kw := ks.zip ws) F hr hgd (hb s1 ws hlw) I1 (pick_vals r ix) ⟨ap, B, pick ix ds, p, d, p', hpl2, ex, hp, hbp, pick_reps rr ix, hmm, qq⟩
  · unfold pickM at h
    split at h
    · assumption
    · cases h
end
end DL
end

section
set_option Elab.async false
set_option linter.all false
set_option maxRecDepth 100000
set_option maxHeartbeats 4000000
set_option exponentiation.threshold 5000
/-! DL: operators, subscripts, slices, built-in calls. -/
namespace DL
open PySem PySem.Spec PyProof.Rows L2
open Evl (Ex)

/-- one operation, else another -/
def dOr (f g : D → D → Mo D) : D → D → Mo D := fun x y p => match f x y p with
  | some r => some r
  | none => g x y p
@[simp] theorem dOr_ret {f g : D → D → Mo D} {x y a : D} (h : f x y = retM a) : dOr f g x y = retM a := by
  funext p; unfold dOr; rw [h]; rfl
@[simp] theorem dOr_fail {f g : D → D → Mo D} {x y : D} (h : f x y = failM) : dOr f g x y = g x y := by
  funext p; unfold dOr; rw [h]; rfl
/-- no more than so great -/

def bigN : Nat := 2 ^ 4400
theorem log_big {i : Int} (h : i.natAbs < bigN) : i.natAbs.log2 < 4400 := PySem.Flt.log2_lt_of (by decide) h
theorem small_big {n : Nat} (h : n < 2 ^ 64) : n < bigN := Nat.lt_trans h (by unfold bigN; exact Nat.pow_lt_pow_right (by decide) (by decide))

section
variable {cs : CT} {X : Cx} {f g : D → D → Mo D}
theorem OpD.or {op : Value → Value → Sem Value} (h : OpD cs X op f) (h' : OpD cs X op g) : OpD cs X op (dOr f g) := by
  obtain ⟨r, h1, h2⟩ := h
  obtain ⟨r', h3, h4⟩ := h'
  refine ⟨_, OpR.or h1 h3, fun ap B H p x y v u Q d p' e hp hb rx ry hm q => ?_⟩
  unfold dOr at hm
  cases z : f x y p with
  | some w =>
    rw [z] at hm
    cases hm
    exact .inl (h2 ap B H p x y v u Q d p' e hp hb rx ry z q)
  | none =>
    rw [z] at hm
    exact .inr (h4 ap B H p x y v u Q d p' e hp hb rx ry hm q)
/-- two ints in, a flat value out -/
def dII (C : Int → Int → Bool) (f : Int → Int → D) : D → D → Mo D := fun x y => match x, y with
  | .int i, .int j => if C i j = true then retM (f i j) else failM
  | _, _ => failM
theorem opD_II {op : Value → Value → Sem Value} {C : Int → Int → Bool} {C' : Int → Int → Prop} {f : Int → Int → D} {fv : Int → Int → V} (h : OpR X op (rI C' fv)) (hC : ∀ i j, C i j = true → C' i j) (hf : ∀ ap B i j, Rep X.K cs ap B (f i j) (fv i j)) : OpD cs X op (dII C f) := by
  refine ⟨_, h, fun ap B H p x y v u Q d p' e hp hb rx ry hm q => ?_⟩
  unfold dII at hm
  split at hm
  · rename_i i j
    simp only [Rep] at rx ry
    split at hm
    · rename_i hc
      cases hm
      exact ⟨i, j, rx, ry, hC i j hc, q B H _ (Nxt.refl e) hp (hf ap B i j)⟩
    · cases hm
  · cases hm
theorem opD_II0 {op : Value → Value → Sem Value} {f : Int → Int → D} {fv : Int → Int → V} (h : OpR X op (rI0 fv)) (hf : ∀ ap B i j, Rep X.K cs ap B (f i j) (fv i j)) : OpD cs X op (dII (fun _ _ => true) f) := by
  refine ⟨_, h, fun ap B H p x y v u Q d p' e hp hb rx ry hm q => ?_⟩
  unfold dII at hm
  split at hm
  · rename_i i j
    simp only [Rep] at rx ry
    rw [if_pos rfl] at hm
    cases hm
    exact ⟨i, j, rx, ry, q B H _ (Nxt.refl e) hp (hf ap B i j)⟩
  · cases hm
def dAddI := dII (fun _ _ => true) fun i j => .int (i + j)
def dSubI := dII (fun _ _ => true) fun i j => .int (i - j)
def dMulI := dII (fun i j => decide (i.natAbs < bigN) && decide (j.natAbs < bigN)) fun i j => .int (i * j)
def dDivI := dII (fun _ j => decide (j ≠ 0) && decide (j.natAbs < bigN)) fun i j => .int (i.fdiv j)
def dModI := dII (fun _ j => decide (0 < j)) fun i j => .int (i % j)
def dPowI := dII (fun i j => decide (0 ≤ j) && (decide (j ≤ 1000000) && decide (i.natAbs < 2 ^ 64))) fun i j => .int (i ^ j.toNat)
def dLt := dII (fun _ _ => true) fun i j => .bl (decide (i < j))
def dLe := dII (fun _ _ => true) fun i j => .bl (decide (i ≤ j))
def dGt := dII (fun _ _ => true) fun i j => .bl (decide (j < i))
def dGe := dII (fun _ _ => true) fun i j => .bl (decide (j ≤ i))
theorem op_addI : OpD cs X (binaryOp .Add) dAddI := opD_II0 op_add fun _ _ _ _ => by simp only [Rep]
theorem op_subI : OpD cs X (binaryOp .Sub) dSubI := opD_II0 op_sub fun _ _ _ _ => by simp only [Rep]
theorem op_mulI : OpD cs X (binaryOp .Mult) dMulI := opD_II op_mulW (fun i j h => by
  rw [Bool.and_eq_true] at h
  have h1 := log_big (of_decide_eq_true h.1)
  have h2 := log_big (of_decide_eq_true h.2)
  unfold CMulW
  omega) fun _ _ _ _ => by simp only [Rep]
def CDivX (_ j : Int) : Prop := j ≠ 0 ∧ j.natAbs.log2 < 9000
theorem op_divX : OpR X (binaryOp .FloorDiv) (rI CDivX fun i j => .int (i.fdiv j)) := opI fun i j _ _ _ _ _ hc q => floordiv_int hc.1 q (.inl (PyProof.noPylong_of_log2 hc.2))
theorem op_divI : OpD cs X (binaryOp .FloorDiv) dDivI := opD_II op_divX (fun i j h => by
  rw [Bool.and_eq_true] at h
  have h2 := log_big (of_decide_eq_true h.2)
  exact ⟨of_decide_eq_true h.1, by omega⟩) fun _ _ _ _ => by simp only [Rep]
theorem op_modI : OpD cs X (binaryOp .Mod) dModI := opD_II op_mod (fun i j h => of_decide_eq_true h) fun _ _ _ _ => by simp only [Rep]
theorem op_powI : OpD cs X (binaryOp .Pow) dPowI := opD_II op_pow (fun i j h => by
  rw [Bool.and_eq_true, Bool.and_eq_true] at h
  exact ⟨of_decide_eq_true h.1, of_decide_eq_true h.2.1, of_decide_eq_true h.2.2⟩) fun _ _ _ _ => by simp only [Rep]
theorem op_ltI : OpD cs X (compareOp .Lt) dLt := opD_II0 op_lt fun _ _ _ _ => by simp only [Rep]
theorem op_leI : OpD cs X (compareOp .LtE) dLe := opD_II0 op_le fun _ _ _ _ => by simp only [Rep]
theorem op_gtI : OpD cs X (compareOp .Gt) dGt := opD_II0 op_gt fun _ _ _ _ => by simp only [Rep]
theorem op_geI : OpD cs X (compareOp .GtE) dGe := opD_II0 op_ge fun _ _ _ _ => by simp only [Rep]
/-- a new list as a datum -/
theorem KE.newL {K : PySem.W.Frag} {ap : Addr} {B H : Hp} {p : Pt} {ds : List D} {xs : List V} {Q : VK} (q : KE K cs ap B H p (.lst ds) Q) (e : Ex B H) (hp : PotAt ap H p) (r : Reps K cs ap B ds xs) : ∀ t, H t = none → Q (.ref t) (upd H t (.lst xs)) := by
  intro t ht
  have n : Nxt ap B H (upd B t (.lst xs)) (upd H t (.lst xs)) := Nxt.new e ht
  exact q _ _ _ n (hp.new ht) (by simp only [Rep]; exact ⟨t, xs, rfl, upd_same, r.mono n.bb⟩)
theorem KE.newT {K : PySem.W.Frag} {ap : Addr} {B H : Hp} {p : Pt} {ds : List D} {xs : List V} {Q : VK} (q : KE K cs ap B H p (.tup ds) Q) (e : Ex B H) (hp : PotAt ap H p) (r : Reps K cs ap B ds xs) : ∀ t, H t = none → Q (.ref t) (upd H t (.tup xs)) := by
  intro t ht
  have n : Nxt ap B H (upd B t (.tup xs)) (upd H t (.tup xs)) := Nxt.new e ht
  exact q _ _ _ n (hp.new ht) (by simp only [Rep]; exact ⟨t, xs, rfl, SqT.of upd_same, r.mono n.bb⟩)
/-- a list and a list -/
def dCatL : D → D → Mo D := fun x y => match x, y with
  | .lst a, .lst b => if a.length + b.length ≤ 100000 then retM (.lst (a ++ b)) else failM
  | _, _ => failM
theorem op_catL : OpD cs X (binaryOp .Add) dCatL := by
  refine ⟨_, op_cat, fun ap B H p x y v u Q d p' e hp hb rx ry hm q => ?_⟩
  unfold dCatL at hm
  split at hm
  · rename_i a b
    simp only [Rep] at rx ry
    obtain ⟨l, xs, rfl, h1, r1⟩ := rx
    obtain ⟨l', ys, rfl, h2, r2⟩ := ry
    split at hm
    · rename_i hz
      cases hm
      exact ⟨l, l', xs, ys, rfl, rfl, e _ _ h1, e _ _ h2, sz100 (by rw [r1.length, r2.length]; exact hz), q.newL e hp (r1.append r2)⟩
    · cases hm
  · cases hm
/-- a list, so many times -/
def repD (ds : List D) (k : Nat) : List D := (List.replicate k ds).flatten
theorem Reps.rep {K : PySem.W.Frag} {ap : Addr} {B : Hp} {ds : List D} {xs : List V} (h : Reps K cs ap B ds xs) : ∀ k, Reps K cs ap B (repD ds k) (List.replicate k xs).flatten
  | 0 => reps_nil
  | k + 1 => by
    unfold repD
    rw [List.replicate_succ, List.replicate_succ, List.flatten_cons, List.flatten_cons]
    exact h.append (Reps.rep h k)
def dRepL : D → D → Mo D := fun x y => match x, y with
  | .lst a, .int k => if k ≤ 100000 ∧ -100000 ≤ k ∧ a.length * k.toNat ≤ 100000 then retM (.lst (repD a k.toNat)) else failM
  | _, _ => failM
theorem op_repL : OpD cs X (binaryOp .Mult) dRepL := by
  refine ⟨_, op_rep, fun ap B H p x y v u Q d p' e hp hb rx ry hm q => ?_⟩
  unfold dRepL at hm
  split at hm
  · rename_i a k
    simp only [Rep] at rx ry
    obtain ⟨l, xs, rfl, h1, r1⟩ := rx
    split at hm
    · rename_i hz
      cases hm
      exact ⟨l, k, xs, rfl, ry, e _ _ h1, by omega, by omega, sz100 (by rw [r1.length]; exact hz.2.2), q.newL e hp (r1.rep k.toNat)⟩
    · cases hm
  · cases hm
/-- a tuple and a tuple, neither empty -/
def dCatT : D → D → Mo D := fun x y => match x, y with
  | .tup a, .tup b => if a ≠ [] ∧ b ≠ [] ∧ a.length + b.length ≤ 100000 then retM (.tup (a ++ b)) else failM
  | _, _ => failM
end
/-- new lists, as the def's own: the same by a POD -/
def oCat (a b : Env' → Mo D) : Env' → Mo (List D) := fun env => bindM (a env) fun x => bindM (b env) fun y => match x, y with
  | .lst a, .lst b => if a.length + b.length ≤ 100000 then retM (a ++ b) else failM
  | _, _ => failM
def oRep (a b : Env' → Mo D) : Env' → Mo (List D) := fun env => bindM (a env) fun x => bindM (b env) fun y => match x, y with
  | .lst a, .int k => if k ≤ 100000 ∧ -100000 ≤ k ∧ a.length * k.toNat ≤ 100000 then retM (repD a k.toNat) else failM
  | _, _ => failM
/-- a slice's part -/
def mNoP : Env' → Mo (Option Int) := fun _ => retM none
def mPart (a : Env' → Mo D) : Env' → Mo (Option Int) := fun env => bindM (a env) fun x => match x with
  | .int i => retM (some i)
  | _ => failM
def cutD (ds : List D) (lo hi : Option Int) : List D := (ds.drop (HT.sIx ds.length 0 lo)).take (HT.sIx ds.length ds.length hi - HT.sIx ds.length 0 lo)
def oSlice (a : Env' → Mo D) (lo hi : Env' → Mo (Option Int)) : Env' → Mo (List D) := fun env => bindM (a env) fun x => bindM (lo env) fun l => bindM (hi env) fun h => match x with
  | .lst ds => retM (cutD ds l h)
  | _ => failM
def oRev (a : Env' → Mo D) : Env' → Mo (List D) := fun env => bindM (a env) fun x => match x with
  | .lst ds => retM ds.reverse
  | _ => failM
/-- an item -/
def atD (x y : D) : Mo D := match x, y with
  | .lst ds, .int i => match atI ds i with
    | some d => retM d
    | none => failM
  | .tup ds, .int i => match atI ds i with
    | some d => retM d
    | none => failM
  | _, _ => failM
section
variable {cs : CT} {X : Cx} {e a b : Expr} {es : List Expr} {ma mb : Env' → Mo D} {pos : Pos}
/-- the end of a new list that stays unknown -/
theorem KO.new {K : PySem.W.Frag} {ap : Addr} {B H B1 H1 : Hp} {p : Pt} {ds : List D} {xs : List V} {Q : VK} (q : KO K cs ap B H p ds Q) (n : Nxt ap B H B1 H1) (hp : PotAt ap H1 p) (r : Reps K cs ap B1 ds xs) : ∀ t, H1 t = none → Q (.ref t) (upd H1 t (.lst xs)) := by
  intro t ht
  have ht0 : H t = none := by
    cases z : H t with
    | none => rfl
    | some o => exact absurd ht (n.nn t (by rw [z]; exact fun y => nomatch y))
  exact q _ _ t xs (n.trans (Nxt.newU n.bh ht)) (hp.new ht) ht0 (Evl.fresh_back n.bh ht) upd_same r
theorem o_cat (ha : PED cs X a ma) (hb : PED cs X b mb) : POD cs X (.BinOp a .Add b pos) (oCat ma mb) := by
  obtain ⟨ta, a1, a2⟩ := ha.ex
  obtain ⟨tb, b1, b2⟩ := hb.ex
  refine ⟨_, pe_op op_cat a1 b1, fun ap H0 B0 B σ env H p Q ds p' k hm q => ?_⟩
  obtain ⟨x, p1, e1, e2⟩ := bindM_some hm
  obtain ⟨y, p2, e3, e4⟩ := bindM_some e2
  split at e4
  · rename_i c d
    split at e4
    · rename_i hz
      cases e4
      refine a2 ap H0 B0 B σ env H p _ _ p1 k e1 fun B1 H1 v n1 hp1 r1 => ?_
      have k1 := k.nxt n1 hp1
      refine b2 ap H0 B0 B1 σ env H1 p1 _ _ p' k1 e3 fun B2 H2 u n2 hp2 r2 => ?_
      simp only [Rep] at r1 r2
      obtain ⟨l, xs, rfl, h1, r1⟩ := r1
      obtain ⟨l', ys, rfl, h2, r2⟩ := r2
      exact ⟨l, l', xs, ys, rfl, rfl, n2.bh _ _ (n2.bb _ _ h1), n2.bh _ _ h2, sz100 (by rw [r1.length, r2.length]; exact hz), q.new (n1.trans n2) hp2 ((r1.mono n2.bb).append r2)⟩
    · cases e4
  · cases e4
theorem o_rep (ha : PED cs X a ma) (hb : PED cs X b mb) : POD cs X (.BinOp a .Mult b pos) (oRep ma mb) := by
  obtain ⟨ta, a1, a2⟩ := ha.ex
  obtain ⟨tb, b1, b2⟩ := hb.ex
  refine ⟨_, pe_op op_rep a1 b1, fun ap H0 B0 B σ env H p Q ds p' k hm q => ?_⟩
  obtain ⟨x, p1, e1, e2⟩ := bindM_some hm
  obtain ⟨y, p2, e3, e4⟩ := bindM_some e2
  split at e4
  · rename_i c d
    split at e4
    · rename_i hz
      cases e4
      refine a2 ap H0 B0 B σ env H p _ _ p1 k e1 fun B1 H1 v n1 hp1 r1 => ?_
      have k1 := k.nxt n1 hp1
      refine b2 ap H0 B0 B1 σ env H1 p1 _ _ p' k1 e3 fun B2 H2 u n2 hp2 r2 => ?_
      simp only [Rep] at r1 r2
      obtain ⟨l, xs, rfl, h1, r1⟩ := r1
      exact ⟨l, _, xs, rfl, r2, n2.bh _ _ (n2.bb _ _ h1), by omega, by omega, sz100 (by rw [r1.length]; exact hz.2.2), q.new (n1.trans n2) hp2 ((r1.mono n2.bb).rep _)⟩
    · cases e4
  · cases e4
/-! ### subscripts, slices -/
theorem reps_at {K : PySem.W.Frag} {ap : Addr} {B : Hp} {ds : List D} {xs : List V} {i : Int} {d : D} (r : Reps K cs ap B ds xs) (h : atI ds i = some d) : ∃ w, atI xs i = some w ∧ Rep K cs ap B d w := by
  obtain ⟨j, hj1, hj2, hj3, hj4, hj5⟩ := atI_get h
  obtain ⟨w, hw1, hw2⟩ := r.get hj2
  refine ⟨w, ?_, hw2⟩
  unfold atI at h ⊢
  rw [r.length]
  cases z : ixN ds.length i with
  | none => rw [z] at h; cases h
  | some j' =>
    have e1 := (ixN_seq z).1
    rw [hj1] at e1
    cases e1
    exact hw1
theorem ix_ev {K : PySem.W.Frag} {ta tb : TE} (ha : EvE K cs ta ma) (hb : EvE K cs tb mb) : EvE K cs (tOp (rIx K) ta tb) (mBin atD ma mb) := by
  refine bin_ev ha hb fun ap B H p x y v u Q d p' e hp hbp rx ry hm q => ?_
  unfold atD at hm
  split at hm
  · rename_i ds i
    cases hd : atI ds i with
    | none => rw [hd] at hm; cases hm
    | some d' =>
      rw [hd] at hm
      cases hm
      simp only [Rep] at rx ry
      obtain ⟨l, xs, rfl, h1, r1⟩ := rx
      obtain ⟨w, g1, g2⟩ := reps_at r1 hd
      exact .inl ⟨l, xs, i, w, rfl, ry, SqL.of (e _ _ h1), g1, q B H w (Nxt.refl e) hp g2⟩
  · rename_i ds i
    cases hd : atI ds i with
    | none => rw [hd] at hm; cases hm
    | some d' =>
      rw [hd] at hm
      cases hm
      simp only [Rep] at rx ry
      obtain ⟨l, xs, rfl, h1, r1⟩ := rx
      obtain ⟨w, g1, g2⟩ := reps_at r1 hd
      exact .inr (.inl ⟨l, xs, i, w, rfl, ry, Evl.ex_t e h1, g1, q B H w (Nxt.refl e) hp g2⟩)
  · cases hm
theorem p_ix (ha : PED cs X a ma) (hb : PED cs X b mb) (hs : PlainIx b := by exact fun _ _ => rfl) : PED cs X (.Subscript a b pos) (mBin atD ma mb) := by
  obtain ⟨ta, a1, a2⟩ := ha.ex
  obtain ⟨tb, b1, b2⟩ := hb.ex
  exact ⟨_, pe_ix ix_seq a1 b1 hs, ix_ev a2 b2⟩
structure POx (cs : CT) (X : Cx) (e : Option Expr) (m : Env' → Mo (Option Int)) : Prop where
  ex : ∃ t, PO X e t ∧ ∀ ap H0 B0 B σ env H p (Q : Option Int → Hp → Prop) o p', Ok X.K cs ap H0 B0 B σ env H p → m env p = some (o, p') → (∀ B' H', Nxt ap B H B' H' → PotAt ap H' p' → Q o H') → t σ H Q
theorem x_none : POx cs X none mNoP := ⟨_, po_none, fun ap H0 B0 B σ env H p Q o p' k hm q => by cases hm; exact q B H (Nxt.refl k.bh) k.pot⟩
theorem x_some (h : PED cs X e ma) : POx cs X (some e) (mPart ma) := by
  obtain ⟨te, h1, h2⟩ := h.ex
  refine ⟨_, po_some h1, fun ap H0 B0 B σ env H p Q o p' k hm q => ?_⟩
  obtain ⟨x, p1, e1, e2⟩ := bindM_some hm
  cases x <;> first | (cases e2; done) | skip
  cases e2
  refine h2 ap H0 B0 B σ env H p _ _ p' k e1 fun B1 H1 v n1 hp1 r1 => ?_
  simp only [Rep] at r1
  exact ⟨_, r1, q B1 H1 n1 hp1⟩
theorem cut_eq {K : PySem.W.Frag} {ap : Addr} {B : Hp} {ds : List D} {xs : List V} (r : Reps K cs ap B ds xs) (lo hi : Option Int) : Reps K cs ap B (cutD ds lo hi) (cutV xs lo hi) := by
  unfold cutD cutV
  rw [r.length]
  exact (r.drop _).take _
theorem o_slice {lo hi : Option Expr} {p2 : Pos} {ml mh : Env' → Mo (Option Int)} (ha : PED cs X a ma) (hl : POx cs X lo ml) (hh : POx cs X hi mh) : POD cs X (.Subscript a (.Slice lo hi none p2) pos) (oSlice ma ml mh) := by
  obtain ⟨ta, a1, a2⟩ := ha.ex
  obtain ⟨tl, l1, l2⟩ := hl.ex
  obtain ⟨th, u1, u2⟩ := hh.ex
  refine ⟨_, pe_slice sl_list a1 l1 u1, fun ap H0 B0 B σ env H p Q ds p' k hm q => ?_⟩
  obtain ⟨x, p1, e1, e2⟩ := bindM_some hm
  obtain ⟨l, p2, e3, e4⟩ := bindM_some e2
  obtain ⟨u, p3, e5, e6⟩ := bindM_some e4
  split at e6
  · rename_i es
    cases e6
    refine a2 ap H0 B0 B σ env H p _ _ p1 k e1 fun B1 H1 v n1 hp1 r1 => ?_
    have k1 := k.nxt n1 hp1
    refine l2 ap H0 B0 B1 σ env H1 p1 _ _ p2 k1 e3 fun B2 H2 n2 hp2 => ?_
    have k2 := k1.nxt n2 hp2
    refine u2 ap H0 B0 B2 σ env H2 p2 _ _ p' k2 e5 fun B3 H3 n3 hp3 => ?_
    simp only [Rep] at r1
    obtain ⟨t, xs, rfl, h1, r1⟩ := r1
    have n23 := n2.trans n3
    exact ⟨t, xs, rfl, SqL.of (n23.bh _ _ (n23.bb _ _ h1)), q.new (n1.trans n23) hp3 (cut_eq (r1.mono n23.bb) l u)⟩
  · cases e6
theorem o_rev {k1 : Nat} {p1 p2 p3 : Pos} (ha : PED cs X a ma) : POD cs X (.Subscript a (.Slice none none (some (.UnaryOp .USub (.Constant (.int 1) k1 p1) p2)) p3) pos) (oRev ma) := by
  obtain ⟨ta, a1, a2⟩ := ha.ex
  refine ⟨_, pe_revL a1, fun ap H0 B0 B σ env H p Q ds p' k hm q => ?_⟩
  obtain ⟨x, p4, e1, e2⟩ := bindM_some hm
  split at e2
  · rename_i es
    cases e2
    refine a2 ap H0 B0 B σ env H p _ _ p' k e1 fun B1 H1 v n1 hp1 r1 => ?_
    simp only [Rep] at r1
    obtain ⟨t, xs, rfl, h1, r1⟩ := r1
    exact ⟨t, xs, rfl, SqL.of (n1.bh _ _ h1), q.new n1 hp1 r1.reverse⟩
  · cases e2
/-! ### calls of built-ins -/
def CaD (cs : CT) (X : Cx) (f : Value) (m : List D → Mo D) : Prop :=
  ∃ r, CallR X f r ∧ ∀ ap B H p ds vs (Q : VK) d p', Ex B H → PotAt ap H p → B ap = none → Reps X.K cs ap B ds vs → m ds p = some (d, p') → KE X.K cs ap B H p' d Q → r vs H Q
theorem ca_ev {K : PySem.W.Frag} {r : List V → Hp → VK → Prop} {t : TA} {m : Env' → Mo (List D)} {f : List D → Mo D} (h : EvA K cs t m)
    (hr : ∀ ap B H p ds vs (Q : VK) d p', Ex B H → PotAt ap H p → B ap = none → Reps K cs ap B ds vs → f ds p = some (d, p') → KE K cs ap B H p' d Q → r vs H Q) : EvE K cs (tCB r t) (mCall f m) := by
  intro ap H0 B0 B σ env H p Q d p' k hm q
  obtain ⟨ds, p1, e1, e2⟩ := bindM_some hm
  refine h ap H0 B0 B σ env H p _ ds p1 k e1 fun B1 H1 vs n1 hp1 r1 => ?_
  have k1 := k.nxt n1 hp1
  exact hr ap B1 H1 p1 ds vs Q d p' k1.bh hp1 k1.bap r1 e2 fun B' H' v n2 hp2 r2 => q B' H' v (n1.trans n2) hp2 r2
variable {x : Str} {p : Pos} {m : Env' → Mo (List D)} {fm : List D → Mo D}
theorem p_bltn {id : String} (hc : CaD cs X (.builtin id) fm) (hm : X.mg x = none) (ha : PAD cs X (e :: es) m) (hv : bootBuiltins x = some (.builtin id) := by decide +kernel) (hg : Gl X x := by rfl) (hn : x ≠ "__name__" := by decide) (hdb : (x == ("__debug__" : Str)) = false := by decide)
    (he : starEach (e :: es) X.env = (false, eval e X.env) :: starEach es X.env := by rfl) (hpl : (backTo pos (starEach es X.env)).any (·.1) = false := by rfl) : PED cs X (.Call (.Name x p) (e :: es) [] pos) (mCall fm m) := by
  obtain ⟨ta, a1, a2⟩ := ha.ex
  obtain ⟨r, h1, h2⟩ := hc
  exact ⟨_, pe_callB h1 hg hm hv a1 hn hdb he hpl, ca_ev a2 h2⟩
theorem p_type {T : String} (hc : CaD cs X (.type T) fm) (hm : X.mg x = none) (ha : PAD cs X (e :: es) m) (hv : bootBuiltins x = some (.type T) := by decide +kernel) (hg : Gl X x := by rfl) (hn : x ≠ "__name__" := by decide) (hdb : (x == ("__debug__" : Str)) = false := by decide)
    (he : starEach (e :: es) X.env = (false, eval e X.env) :: starEach es X.env := by rfl) (hpl : (backTo pos (starEach es X.env)).any (·.1) = false := by rfl) : PED cs X (.Call (.Name x p) (e :: es) [] pos) (mCall fm m) := by
  obtain ⟨ta, a1, a2⟩ := ha.ex
  obtain ⟨r, h1, h2⟩ := hc
  exact ⟨_, pe_callTy h1 hg hm hv a1 hn hdb he hpl, ca_ev a2 h2⟩
/-- a module's name for a built-in -/
theorem p_bfun {id : String} (hc : CaD cs X (.builtin id) fm) (hm : X.mg x = some (.builtin id)) (ha : PAD cs X (e :: es) m) (hg : Gl X x := by rfl) (hdb : (x == ("__debug__" : Str)) = false := by decide)
    (he : starEach (e :: es) X.env = (false, eval e X.env) :: starEach es X.env := by rfl) (hpl : (backTo pos (starEach es X.env)).any (·.1) = false := by rfl) : PED cs X (.Call (.Name x p) (e :: es) [] pos) (mCall fm m) := by
  obtain ⟨ta, a1, a2⟩ := ha.ex
  obtain ⟨r, h1, h2⟩ := hc
  exact ⟨_, pe_callBfun h1 hg hm a1 hdb he hpl, ca_ev a2 h2⟩
def cLen : List D → Mo D
  | [.lst ds] => retM (.int (ds.length : Nat))
  | [.tup ds] => retM (.int (ds.length : Nat))
  | _ => failM
theorem reps1 {K : PySem.W.Frag} {ap : Addr} {B : Hp} {d : D} {vs : List V} (h : Reps K cs ap B [d] vs) : ∃ v, vs = [v] ∧ Rep K cs ap B d v := by
  simp only [Reps] at h
  obtain ⟨x, _, rfl, h1, rfl⟩ := h
  exact ⟨x, rfl, h1⟩
theorem reps2 {K : PySem.W.Frag} {ap : Addr} {B : Hp} {d e : D} {vs : List V} (h : Reps K cs ap B [d, e] vs) : ∃ v w, vs = [v, w] ∧ Rep K cs ap B d v ∧ Rep K cs ap B e w := by
  simp only [Reps] at h
  obtain ⟨x, _, rfl, h1, y, _, rfl, h2, rfl⟩ := h
  exact ⟨x, y, rfl, h1, h2⟩
theorem ca_len : CaD cs X (.builtin "len") cLen := by
  refine ⟨_, call_len_seq, fun ap B H p ds vs Q d p' e hp hb r hm q => ?_⟩
  unfold cLen at hm
  split at hm
  · cases hm
    obtain ⟨v, rfl, rv⟩ := reps1 r
    simp only [Rep] at rv
    obtain ⟨a, xs, rfl, h1, r1⟩ := rv
    exact ⟨a, xs, rfl, .inl (SqL.of (e _ _ h1)), q B H _ (Nxt.refl e) hp (by simp only [Rep, r1.length])⟩
  · cases hm
    obtain ⟨v, rfl, rv⟩ := reps1 r
    simp only [Rep] at rv
    obtain ⟨a, xs, rfl, h1, r1⟩ := rv
    exact ⟨a, xs, rfl, .inr (Evl.ex_t e h1), q B H _ (Nxt.refl e) hp (by simp only [Rep, r1.length])⟩
  · cases hm
def cAbs : List D → Mo D
  | [.int i] => retM (.int (if i < 0 then -i else i))
  | _ => failM
theorem ca_abs : CaD cs X (.builtin "abs") cAbs := by
  refine ⟨_, call_abs, fun ap B H p ds vs Q d p' e hp hb r hm q => ?_⟩
  unfold cAbs at hm
  split at hm
  · cases hm
    obtain ⟨v, rfl, rv⟩ := reps1 r
    simp only [Rep] at rv
    exact ⟨_, by rw [rv], q B H _ (Nxt.refl e) hp (by simp only [Rep])⟩
  · cases hm
def cMax2 : List D → Mo D
  | [.int i, .int j] => retM (.int (if j > i then j else i))
  | _ => failM
theorem ca_max2 (hc : X.calm = true) : CaD cs X (.builtin "max") cMax2 := by
  refine ⟨_, call_max2 hc, fun ap B H p ds vs Q d p' e hp hb r hm q => ?_⟩
  unfold cMax2 at hm
  split at hm
  · cases hm
    obtain ⟨v, w, rfl, rv, rw'⟩ := reps2 r
    simp only [Rep] at rv rw'
    exact ⟨_, _, by rw [rv, rw'], q B H _ (Nxt.refl e) hp (by simp only [Rep])⟩
  · cases hm
def cMin2 : List D → Mo D
  | [.int i, .int j] => retM (.int (if j < i then j else i))
  | _ => failM
theorem ca_min2 (hc : X.calm = true) : CaD cs X (.builtin "min") cMin2 := by
  refine ⟨_, call_min2 hc, fun ap B H p ds vs Q d p' e hp hb r hm q => ?_⟩
  unfold cMin2 at hm
  split at hm
  · cases hm
    obtain ⟨v, w, rfl, rv, rw'⟩ := reps2 r
    simp only [Rep] at rv rw'
    exact ⟨_, _, by rw [rv, rw'], q B H _ (Nxt.refl e) hp (by simp only [Rep])⟩
  · cases hm
def cInt : List D → Mo D
  | [.int i] => retM (.int i)
  | [.bl b] => retM (.int (if b then 1 else 0))
  | _ => failM
theorem ca_int : CaD cs X (.type "int") cInt := by
  refine ⟨_, call_int1, fun ap B H p ds vs Q d p' e hp hb r hm q => ?_⟩
  unfold cInt at hm
  split at hm
  · cases hm
    obtain ⟨v, rfl, rv⟩ := reps1 r
    simp only [Rep] at rv
    exact .inl ⟨_, by rw [rv], q B H _ (Nxt.refl e) hp (by simp only [Rep])⟩
  · cases hm
    obtain ⟨v, rfl, rv⟩ := reps1 r
    simp only [Rep] at rv
    exact .inr ⟨_, by rw [rv], q B H _ (Nxt.refl e) hp (by simp only [Rep])⟩
  · cases hm
def cGcd : List D → Mo D
  | [.int i, .int j] => retM (.int ((Nat.gcd i.natAbs j.natAbs : Nat) : Int))
  | _ => failM
theorem ca_gcd : CaD cs X (.builtin "math.gcd") cGcd := by
  refine ⟨_, cr_gcd, fun ap B H p ds vs Q d p' e hp hb r hm q => ?_⟩
  unfold cGcd at hm
  split at hm
  · cases hm
    obtain ⟨v, w, rfl, rv, rw'⟩ := reps2 r
    simp only [Rep] at rv rw'
    exact ⟨_, _, by rw [rv, rw'], q B H _ (Nxt.refl e) hp (by simp only [Rep])⟩
  · cases hm
/-- the truths of a list of bools -/
def blsD : List D → Option (List Bool)
  | [] => some []
  | .bl b :: r => match blsD r with
    | some bs => some (b :: bs)
    | none => none
  | _ => none
theorem reps_bls {K : PySem.W.Frag} {ap : Addr} {B : Hp} : ∀ {ds : List D} {vs : List V} {bs : List Bool}, Reps K cs ap B ds vs → blsD ds = some bs → vs = bs.map V.bl
  | [], vs, bs, h, e => by
    simp only [Reps] at h
    cases e
    exact h
  | d :: ds, vs, bs, h, e => by
    simp only [Reps] at h
    obtain ⟨x, r, rfl, h1, h2⟩ := h
    cases d <;> first | (cases e; done) | skip
    rename_i b
    simp only [Rep] at h1
    unfold blsD at e
    cases z : blsD ds with
    | none => rw [z] at e; cases e
    | some cs' =>
      rw [z] at e
      cases e
      rw [h1, reps_bls h2 z]
      rfl
def cAll : List D → Mo D
  | [.lst ds] => match blsD ds with
    | some bs => retM (.bl (bs.all id))
    | none => failM
  | _ => failM
theorem ca_all (hc : X.calm = true) : CaD cs X (.builtin "all") cAll := by
  refine ⟨_, cr_all hc, fun ap B H p ds vs Q d p' e hp hb r hm q => ?_⟩
  unfold cAll at hm
  split at hm
  · rename_i ds
    cases z : blsD ds with
    | none => rw [z] at hm; cases hm
    | some bs =>
      rw [z] at hm
      cases hm
      obtain ⟨v, rfl, rv⟩ := reps1 r
      simp only [Rep] at rv
      obtain ⟨a, xs, rfl, h1, r1⟩ := rv
      rw [reps_bls r1 z] at h1
      exact ⟨a, bs, rfl, SqL.of (e _ _ h1), q B H _ (Nxt.refl e) hp (by simp only [Rep])⟩
  · cases hm
def cAny : List D → Mo D
  | [.lst ds] => match blsD ds with
    | some bs => retM (.bl (bs.any id))
    | none => failM
  | _ => failM
theorem ca_any (hc : X.calm = true) : CaD cs X (.builtin "any") cAny := by
  refine ⟨_, cr_any hc, fun ap B H p ds vs Q d p' e hp hb r hm q => ?_⟩
  unfold cAny at hm
  split at hm
  · rename_i ds
    cases z : blsD ds with
    | none => rw [z] at hm; cases hm
    | some bs =>
      rw [z] at hm
      cases hm
      obtain ⟨v, rfl, rv⟩ := reps1 r
      simp only [Rep] at rv
      obtain ⟨a, xs, rfl, h1, r1⟩ := rv
      rw [reps_bls r1 z] at h1
      exact ⟨a, bs, rfl, SqL.of (e _ _ h1), q B H _ (Nxt.refl e) hp (by simp only [Rep])⟩
  · cases hm
/-- list(x): a new list -/
def oListC : List D → Mo (List D)
  | [.lst ds] => retM ds
  | [.tup ds] => retM ds
  | _ => failM
theorem o_listOf {p : Pos} (hm : X.mg "list" = none) (ha : PAD cs X [e] m) (hg : Gl X "list" := by rfl) (he : starEach [e] X.env = (false, eval e X.env) :: starEach [] X.env := by rfl) : POD cs X (.Call (.Name "list" p) [e] [] pos) (mCallO oListC m) := by
  obtain ⟨ta, a1, a2⟩ := ha.ex
  refine ⟨_, pe_callTy call_list_of hg hm (by decide +kernel) a1 (by decide) (by decide) he, fun ap H0 B0 B σ env H p Q ds p' k hm q => ?_⟩
  obtain ⟨es, p1, e1, e2⟩ := bindM_some hm
  unfold oListC at e2
  split at e2
  · cases e2
    refine a2 ap H0 B0 B σ env H p _ _ p' k e1 fun B1 H1 vs n1 hp1 r1 => ?_
    obtain ⟨v, rfl, rv⟩ := reps1 r1
    simp only [Rep] at rv
    obtain ⟨a, xs, rfl, h1, r1⟩ := rv
    exact ⟨a, xs, rfl, .inl (SqL.of (n1.bh _ _ h1)), q.new n1 hp1 r1⟩
  · cases e2
    refine a2 ap H0 B0 B σ env H p _ _ p' k e1 fun B1 H1 vs n1 hp1 r1 => ?_
    obtain ⟨v, rfl, rv⟩ := reps1 r1
    simp only [Rep] at rv
    obtain ⟨a, xs, rfl, h1, r1⟩ := rv
    exact ⟨a, xs, rfl, .inr (Evl.ex_t n1.bh h1), q.new n1 hp1 r1⟩
  · cases e2
def cTup : List D → Mo D
  | [.lst ds] => retM (.tup ds)
  | [.tup ds] => retM (.tup ds)
  | _ => failM
theorem ca_tup : CaD cs X (.type "tuple") cTup := by
  refine ⟨_, call_tuple_of, fun ap B H p ds vs Q d p' e hp hb r hm q => ?_⟩
  unfold cTup at hm
  split at hm
  · cases hm
    obtain ⟨v, rfl, rv⟩ := reps1 r
    simp only [Rep] at rv
    obtain ⟨a, xs, rfl, h1, r1⟩ := rv
    exact ⟨a, xs, rfl, .inl ⟨SqL.of (e _ _ h1), q.newT e hp r1⟩⟩
  · cases hm
    obtain ⟨v, rfl, rv⟩ := reps1 r
    have rv' := rv
    simp only [Rep] at rv
    obtain ⟨a, xs, rfl, h1, r1⟩ := rv
    exact ⟨a, xs, rfl, .inr ⟨Evl.ex_t e h1, q B H _ (Nxt.refl e) hp rv'⟩⟩
  · cases hm
end
end DL
end

section
set_option Elab.async false
set_option linter.all false
set_option maxRecDepth 100000
set_option maxHeartbeats 4000000
/-! DL: what is only looked at, comprehensions, what is walked, own lists changed. -/
namespace DL
open PySem PySem.Spec PyProof.Rows L2
open Evl (Ex)

/-- a datum, or a list of the def's own that is looked at -/
def RepB (K : PySem.W.Frag) (cs : CT) (ap : Addr) (B H : Hp) (d : D) (v : V) : Prop := Rep K cs ap B d v ∨ ∃ ds a xs, d = .lst ds ∧ v = .ref a ∧ a ≠ ap ∧ H a = some (.lst xs) ∧ Reps K cs ap B ds xs
theorem RepB.nxt {K : PySem.W.Frag} {cs : CT} {ap : Addr} {B H B' H' : Hp} {d : D} {v : V} (r : RepB K cs ap B H d v) (n : Nxt ap B H B' H') : RepB K cs ap B' H' d v := by
  rcases r with r | ⟨ds, a, xs, rfl, rfl, ha, h, r⟩
  · exact .inl (r.mono n.bb)
  · exact .inr ⟨ds, a, xs, rfl, rfl, ha, n.fr _ _ h ha, r.mono n.bb⟩
/-- a list to be read -/
theorem RepB.lst {K : PySem.W.Frag} {cs : CT} {ap : Addr} {B H : Hp} {ds : List D} {v : V} (r : RepB K cs ap B H (.lst ds) v) (e : Ex B H) : ∃ a xs, v = .ref a ∧ H a = some (.lst xs) ∧ Reps K cs ap B ds xs := by
  rcases r with r | ⟨ds', a, xs, h, rfl, _, hh, r⟩
  · simp only [Rep] at r
    obtain ⟨a, xs, rfl, h1, h2⟩ := r
    exact ⟨a, xs, rfl, e _ _ h1, h2⟩
  · cases h
    exact ⟨a, xs, rfl, hh, r⟩
def KB (K : PySem.W.Frag) (cs : CT) (ap : Addr) (B H : Hp) (p' : Pt) (d : D) (Q : VK) : Prop := ∀ B' H' v, Nxt ap B H B' H' → PotAt ap H' p' → RepB K cs ap B' H' d v → Q v H'
def EvB (K : PySem.W.Frag) (cs : CT) (te : TE) (m : Env' → Mo D) : Prop := ∀ ap H0 B0 B σ env H p (Q : VK) d p', Ok K cs ap H0 B0 B σ env H p → m env p = some (d, p') → KB K cs ap B H p' d Q → te σ H Q
structure PBD (cs : CT) (X : Cx) (e : Expr) (m : Env' → Mo D) : Prop where
  ex : ∃ te, PE X e te ∧ EvB X.K cs te m
def mVarB (i : Nat) : Env' → Mo D := fun env => match env[i]? with
  | some (.val d) => retM d
  | some (.own ds) => retM (.lst ds)
  | _ => failM
section
variable {cs : CT} {X : Cx} {e a b : Expr} {es : List Expr} {m ma mb : Env' → Mo D} {pos : Pos}
theorem PED.bo (h : PED cs X e m) : PBD cs X e m := by
  obtain ⟨te, h1, h2⟩ := h.ex
  exact ⟨te, h1, fun ap H0 B0 B σ env H p Q d p' k hm q => h2 ap H0 B0 B σ env H p Q d p' k hm fun B' H' v n hp r => q B' H' v n hp (.inl r)⟩
theorem b_var (i : Nat) {x : Str} (hN : X.N[i]? = some x := by rfl) (hv : Vis X.env.scope x := by first | exact Or.inl rfl | exact Or.inr (Or.inl rfl) | exact Or.inr (Or.inr rfl)) (hd : (x == ("__debug__" : Str)) = false := by decide)
    (hcd : (x == ("__classdict__" : Str)) = false := by decide) : PBD cs X (.Name x pos) (mVarB i) := by
  refine ⟨tVar i, pe_var hN hv hd hcd, fun ap H0 B0 B σ env H p Q d p' k hm q => ?_⟩
  unfold mVarB at hm
  rcases g : env[i]? with _ | _ | d' | ds | _
  · rw [g] at hm; cases hm
  · rw [g] at hm; cases hm
  · rw [g] at hm
    cases hm
    obtain ⟨v, h1, h2⟩ := k.sl i _ g
    exact ⟨v, h1, q B H v (Nxt.refl k.bh) k.pot (.inl h2)⟩
  · rw [g] at hm
    cases hm
    obtain ⟨a, xs, h1, h2, h3, h4⟩ := k.sl i _ g
    exact ⟨.ref a, h1, q B H _ (Nxt.refl k.bh) k.pot (.inr ⟨ds, a, xs, rfl, rfl, fun z => k.hap (z ▸ k.ownNew i ds a g h1), h3, h4⟩)⟩
  · rw [g] at hm; cases hm
theorem ixB_ev {K : PySem.W.Frag} {ta tb : TE} (ha : EvB K cs ta ma) (hb : EvE K cs tb mb) : EvE K cs (tOp (rIx K) ta tb) (mBin atD ma mb) := by
  intro ap H0 B0 B σ env H p Q d p' k hm q
  obtain ⟨x, p1, e1, e2⟩ := bindM_some hm
  obtain ⟨y, p2, e3, e4⟩ := bindM_some e2
  refine ha ap H0 B0 B σ env H p _ x p1 k e1 fun B1 H1 v n1 hp1 r1 => ?_
  have k1 := k.nxt n1 hp1
  refine hb ap H0 B0 B1 σ env H1 p1 _ y p2 k1 e3 fun B2 H2 u n2 hp2 r2 => ?_
  have k2 := k1.nxt n2 hp2
  have r1' := r1.nxt n2
  unfold atD at e4
  split at e4
  · rename_i ds i
    cases hd : atI ds i with
    | none => rw [hd] at e4; cases e4
    | some d' =>
      rw [hd] at e4
      cases e4
      obtain ⟨l, xs, rfl, h1, rr⟩ := r1'.lst k2.bh
      simp only [Rep] at r2
      obtain ⟨w, g1, g2⟩ := reps_at rr hd
      exact .inl ⟨l, xs, i, w, rfl, r2, SqL.of h1, g1, q B2 H2 w (n1.trans n2) hp2 g2⟩
  · rename_i ds i
    cases hd : atI ds i with
    | none => rw [hd] at e4; cases e4
    | some d' =>
      rw [hd] at e4
      cases e4
      rcases r1' with rr | ⟨_, _, _, h, _⟩
      · simp only [Rep] at rr r2
        obtain ⟨l, xs, rfl, h1, rr⟩ := rr
        obtain ⟨w, g1, g2⟩ := reps_at rr hd
        exact .inr (.inl ⟨l, xs, i, w, rfl, r2, Evl.ex_t k2.bh h1, g1, q B2 H2 w (n1.trans n2) hp2 g2⟩)
      · cases h
  · cases e4
theorem p_ixB (ha : PBD cs X a ma) (hb : PED cs X b mb) (hs : PlainIx b := by exact fun _ _ => rfl) : PED cs X (.Subscript a b pos) (mBin atD ma mb) := by
  obtain ⟨ta, a1, a2⟩ := ha.ex
  obtain ⟨tb, b1, b2⟩ := hb.ex
  exact ⟨_, pe_ix ix_seq a1 b1 hs, ixB_ev a2 b2⟩
/-- len(..) of what is only looked at -/
def mLen (a : Env' → Mo D) : Env' → Mo D := fun env => bindM (a env) fun x => cLen [x]
theorem p_lenB {p : Pos} (hm : X.mg "len" = none) (ha : PBD cs X e ma) (hg : Gl X "len" := by rfl) (hs : starEach [e] X.env = (false, eval e X.env) :: starEach [] X.env := by rfl) : PED cs X (.Call (.Name "len" p) [e] [] pos) (mLen ma) := by
  obtain ⟨ta, a1, a2⟩ := ha.ex
  refine ⟨_, pe_callB call_len_seq hg hm (by decide +kernel) (L2.pa_cons a1 L2.pa_nil hs) (by decide) (by decide) hs, fun ap H0 B0 B σ env H p Q d p' k hm q => ?_⟩
  obtain ⟨x, p1, e1, e2⟩ := bindM_some hm
  refine a2 ap H0 B0 B σ env H p _ x p1 k e1 fun B1 H1 v n1 hp1 r1 => ?_
  have k1 := k.nxt n1 hp1
  cases x <;> first | (cases e2; done) | skip
  · cases e2
    obtain ⟨l, xs, rfl, h1, rr⟩ := r1.lst k1.bh
    exact ⟨l, xs, rfl, .inl (SqL.of h1), q B1 H1 _ n1 hp1 (by simp only [Rep, rr.length])⟩
  · cases e2
    rcases r1 with rr | ⟨_, _, _, h, _⟩
    · simp only [Rep] at rr
      obtain ⟨l, xs, rfl, h1, rr⟩ := rr
      exact ⟨l, xs, rfl, .inr (Evl.ex_t k1.bh h1), q B1 H1 _ n1 hp1 (by simp only [Rep, rr.length])⟩
    · cases h
theorem oSliceB {lo hi : Option Expr} {p2 : Pos} {ml mh : Env' → Mo (Option Int)} (ha : PBD cs X a ma) (hl : POx cs X lo ml) (hh : POx cs X hi mh) : POD cs X (.Subscript a (.Slice lo hi none p2) pos) (oSlice ma ml mh) := by
  obtain ⟨ta, a1, a2⟩ := ha.ex
  obtain ⟨tl, l1, l2⟩ := hl.ex
  obtain ⟨th, u1, u2⟩ := hh.ex
  refine ⟨_, pe_slice sl_list a1 l1 u1, fun ap H0 B0 B σ env H p Q ds p' k hm q => ?_⟩
  obtain ⟨x, p1, e1, e2⟩ := bindM_some hm
  obtain ⟨l, p2, e3, e4⟩ := bindM_some e2
  obtain ⟨u, p3, e5, e6⟩ := bindM_some e4
  split at e6
  · rename_i es
    cases e6
    refine a2 ap H0 B0 B σ env H p _ _ p1 k e1 fun B1 H1 v n1 hp1 r1 => ?_
    have k1 := k.nxt n1 hp1
    refine l2 ap H0 B0 B1 σ env H1 p1 _ _ p2 k1 e3 fun B2 H2 n2 hp2 => ?_
    have k2 := k1.nxt n2 hp2
    refine u2 ap H0 B0 B2 σ env H2 p2 _ _ p' k2 e5 fun B3 H3 n3 hp3 => ?_
    have n23 := n2.trans n3
    obtain ⟨t, xs, rfl, h1, rr⟩ := (r1.nxt n23).lst n23.bh
    exact ⟨t, xs, rfl, SqL.of h1, q.new (n1.trans n23) hp3 (cut_eq rr l u)⟩
  · cases e6
theorem oRevB {k1 : Nat} {p1 p2 p3 : Pos} (ha : PBD cs X a ma) : POD cs X (.Subscript a (.Slice none none (some (.UnaryOp .USub (.Constant (.int 1) k1 p1) p2)) p3) pos) (oRev ma) := by
  obtain ⟨ta, a1, a2⟩ := ha.ex
  refine ⟨_, pe_revL a1, fun ap H0 B0 B σ env H p Q ds p' k hm q => ?_⟩
  obtain ⟨x, p4, e1, e2⟩ := bindM_some hm
  split at e2
  · rename_i es
    cases e2
    refine a2 ap H0 B0 B σ env H p _ _ p' k e1 fun B1 H1 v n1 hp1 r1 => ?_
    obtain ⟨t, xs, rfl, h1, rr⟩ := r1.lst n1.bh
    exact ⟨t, xs, rfl, SqL.of h1, q.new n1 hp1 rr.reverse⟩
  · cases e2

/-! ### what is walked -/
def srcL (a : Env' → Mo D) : Env' → Mo (List D) := fun env => bindM (a env) fun x => match x with
  | .lst ds => retM ds
  | _ => failM
theorem wk_list {K : PySem.W.Frag} {ap : Addr} {B H : Hp} {t : Addr} {xs : List V} {ds : List D} (h : H t = some (.lst xs)) (r : Reps K cs ap B ds xs) (e : Ex B H) : Wk K cs ap (Itl K t) ds B H := by
  intro i
  refine ⟨fun d hd => ?_, fun hi => ⟨xs, SqL.of h, by rw [r.length]; exact hi⟩⟩
  obtain ⟨x, hx, rx⟩ := r.get hd
  refine ⟨⟨xs, x, SqL.of h, hx⟩, fun y H' hy => ?_⟩
  obtain ⟨rfl, hy⟩ := hy
  have h2 := hy xs (SqL.of h)
  rw [hx] at h2
  cases h2
  exact ⟨B, Nxt.refl e, fun _ => rfl, rx⟩
theorem i_list {tg : Expr} (h : PED cs X e ma) : PID cs X tg e (srcL ma) := by
  obtain ⟨te, h1, h2⟩ := h.ex
  refine ⟨_, pi_list h1, fun ap H0 B0 B σ env H p R ds p' k hm q => ?_⟩
  obtain ⟨x, p1, e1, e2⟩ := bindM_some hm
  cases x <;> first | (cases e2; done) | skip
  cases e2
  refine h2 ap H0 B0 B σ env H p _ _ p' k e1 fun B1 H1 v n1 hp1 r1 => ?_
  simp only [Rep] at r1
  obtain ⟨t, xs, rfl, h3, rr⟩ := r1
  exact ⟨t, rfl, ⟨xs, SqL.of (n1.bh _ _ h3)⟩, q B1 H1 _ n1 hp1 fun B2 H2 b1 b2 => wk_list (b2 _ _ (b1 _ _ h3)) (rr.mono b1) b2⟩
theorem j_list {tg : Expr} (h : PBD cs X e ma) : PJD cs X tg e (srcL ma) := by
  obtain ⟨te, h1, h2⟩ := h.ex
  refine ⟨_, pi_list h1, fun ap H0 B0 B σ env H p R ds p' k hm q => ?_⟩
  obtain ⟨x, p1, e1, e2⟩ := bindM_some hm
  cases x <;> first | (cases e2; done) | skip
  cases e2
  refine h2 ap H0 B0 B σ env H p _ _ p' k e1 fun B1 H1 v n1 hp1 r1 => ?_
  obtain ⟨t, xs, rfl, h3, rr⟩ := r1.lst n1.bh
  refine ⟨t, rfl, ⟨xs, SqL.of h3⟩, q B1 H1 _ n1 hp1 fun B2 H2 n2 => ?_⟩
  obtain ⟨t', xs', e5, h5, rr'⟩ := (r1.nxt n2).lst n2.bh
  cases e5
  exact wk_list h5 rr' n2.bh
def srcT (a : Env' → Mo D) : Env' → Mo (List D) := fun env => bindM (a env) fun x => match x with
  | .tup ds => retM ds
  | _ => failM
theorem wk_tup' {K : PySem.W.Frag} {ap : Addr} {B H : Hp} {t : Addr} {xs : List V} {ds : List D} {pins : List (Addr × Obj)} (h : SqT K H t xs) (hi : ∀ ys, SqT K H t ys → ys = xs) (r : Reps K cs ap B ds xs) (e : Ex B H) : Wk K cs ap (Itt K t) ds B H := by
  intro i
  refine ⟨fun d hd => ?_, fun hi => ⟨xs, h, by rw [r.length]; exact hi⟩⟩
  obtain ⟨x, hx, rx⟩ := r.get hd
  refine ⟨⟨xs, x, h, hx⟩, fun y H' hy => ?_⟩
  obtain ⟨rfl, hy⟩ := hy
  have h2 := hy xs h
  rw [hx] at h2
  cases h2
  exact ⟨B, Nxt.refl e, fun _ => rfl, rx⟩
theorem i_tup {tg : Expr} (h : PED cs X e ma) : PID cs X tg e (srcT ma) := by
  obtain ⟨te, h1, h2⟩ := h.ex
  refine ⟨_, pi_tup h1, fun ap H0 B0 B σ env H p R ds p' k hm q => ?_⟩
  obtain ⟨x, p1, e1, e2⟩ := bindM_some hm
  have fin : ∀ {B1 H1 : Hp} {t : Addr} {xs : List V} {ds : List D}, SqT X.K B1 t xs → Reps X.K cs ap B1 ds xs → ∀ B2 H2, Ex B1 B2 → Ex B2 H2 → Wk X.K cs ap (Itt X.K t) ds B2 H2 := by
    intro B1 H1 t xs ds h3 rr B2 H2 b1 b2 i
    have h4 : SqT X.K H2 t xs := Evl.ex_t b2 (Evl.ex_t b1 h3)
    refine ⟨fun d hd => ?_, fun hi => ⟨xs, h4, by rw [rr.length]; exact hi⟩⟩
    obtain ⟨x, hx, rx⟩ := rr.get hd
    refine ⟨⟨xs, x, h4, hx⟩, fun y H' hy => ?_⟩
    obtain ⟨rfl, hy⟩ := hy
    have h2 := hy xs h4
    rw [hx] at h2
    cases h2
    exact ⟨B2, Nxt.refl b2, fun _ => rfl, rx.mono b1⟩
  cases x <;> first | (cases e2; done) | skip
  · cases e2
    refine h2 ap H0 B0 B σ env H p _ _ p' k e1 fun B1 H1 v n1 hp1 r1 => ?_
    simp only [Rep] at r1
    obtain ⟨t, xs, rfl, h3, rr⟩ := r1
    exact ⟨t, rfl, ⟨xs, Evl.ex_t n1.bh h3⟩, q B1 H1 _ n1 hp1 (fin (H1 := H1) h3 rr)⟩
/-- lo, lo + 1, .. -/
def rngD (lo : Int) (n : Nat) : List D := (List.range n).map fun i => .int (lo + (i : Nat))
theorem wk_range {K : PySem.W.Frag} {ap : Addr} {B H : Hp} {lo : Int} {n : Nat} (e : Ex B H) : Wk K cs ap (Itr lo n) (rngD lo n) B H := by
  intro i
  refine ⟨fun d hd => ?_, fun hi => by unfold rngD at hi; rw [List.length_map, List.length_range] at hi; exact hi⟩
  have hlt : i < n := by
    have h := (List.getElem?_eq_some_iff.mp hd).1
    unfold rngD at h
    rw [List.length_map, List.length_range] at h
    exact h
  unfold rngD at hd
  rw [List.getElem?_map, List.getElem?_range hlt] at hd
  cases hd
  exact ⟨hlt, fun y H' hy => ⟨B, by rw [hy.1]; exact Nxt.refl e, fun _ => by rw [hy.1], by rw [hy.2]; simp only [Rep]⟩⟩
def srcR1 (m : Env' → Mo (List D)) : Env' → Mo (List D) := fun env => bindM (m env) fun ds => match ds with
  | [.int n] => if -1000000 ≤ n ∧ n ≤ 1000000 then retM (rngD 0 n.toNat) else failM
  | _ => failM
def srcR2 (m : Env' → Mo (List D)) : Env' → Mo (List D) := fun env => bindM (m env) fun ds => match ds with
  | [.int i, .int n] => if -1000000 ≤ n ∧ n ≤ 1000000 ∧ -1000000 ≤ i ∧ i ≤ 1000000 then retM (rngD i (n - i).toNat) else failM
  | _ => failM
variable {mm : Env' → Mo (List D)}
theorem i_range1 {tg : Expr} {p : Pos} (hm : X.mg "range" = none) (ha : PAD cs X [a] mm) (hg : Gl X "range" := by rfl) (hs : starEach [a] X.env = [(false, eval a X.env)] := by rfl) : PID cs X tg (.Call (.Name "range" p) [a] [] pos) (srcR1 mm) := by
  obtain ⟨te, h1, h2⟩ := ha.ex
  refine ⟨_, pi_range1 hg hm h1 hs, fun ap H0 B0 B σ env H p R ds p' k hm q => ?_⟩
  obtain ⟨x, p1, e1, e2⟩ := bindM_some hm
  split at e2
  · split at e2
    · rename_i n hn
      cases e2
      refine h2 ap H0 B0 B σ env H p _ _ p' k e1 fun B1 H1 vs n1 hp1 r1 => ?_
      obtain ⟨v, rfl, rv⟩ := reps1 r1
      simp only [Rep] at rv
      exact ⟨n, by rw [rv], by omega, by omega, q B1 H1 _ n1 hp1 fun B2 H2 b1 b2 => wk_range b2⟩
    · cases e2
  · cases e2
theorem i_range2 {tg : Expr} {p : Pos} (hm : X.mg "range" = none) (ha : PAD cs X [a, b] mm) (hg : Gl X "range" := by rfl) (hs : starEach [a, b] X.env = [(false, eval a X.env), (false, eval b X.env)] := by rfl) (hs2 : starEach [b] X.env = [(false, eval b X.env)] := by rfl) : PID cs X tg (.Call (.Name "range" p) [a, b] [] pos) (srcR2 mm) := by
  obtain ⟨te, h1, h2⟩ := ha.ex
  refine ⟨_, pi_range2 hg hm h1 hs hs2, fun ap H0 B0 B σ env H p R ds p' k hm q => ?_⟩
  obtain ⟨x, p1, e1, e2⟩ := bindM_some hm
  split at e2
  · split at e2
    · rename_i i n hn
      cases e2
      refine h2 ap H0 B0 B σ env H p _ _ p' k e1 fun B1 H1 vs n1 hp1 r1 => ?_
      obtain ⟨v, w, rfl, rv, rw'⟩ := reps2 r1
      simp only [Rep] at rv rw'
      exact ⟨i, n, by rw [rv, rw'], ⟨by omega, by omega, by omega, by omega⟩, q B1 H1 _ n1 hp1 fun B2 H2 b1 b2 => wk_range b2⟩
    · cases e2
  · cases e2
/-- the pairs of place and item -/
def enumD : Nat → List D → List D
  | _, [] => []
  | i, d :: ds => .tup [.int (i : Nat), d] :: enumD (i + 1) ds
theorem enumD_length : ∀ (i : Nat) (ds : List D), (enumD i ds).length = ds.length
  | _, [] => rfl
  | i, d :: ds => by unfold enumD; rw [List.length_cons, List.length_cons, enumD_length]
theorem enumD_get : ∀ (j i : Nat) (ds : List D) (d : D), (enumD j ds)[i]? = some d → ∃ c, ds[i]? = some c ∧ d = .tup [.int ((j + i : Nat) : Int), c]
  | _, _, [], _, h => by simp [enumD] at h
  | j, 0, c :: ds, d, h => by simp [enumD] at h; exact ⟨c, rfl, by rw [← h]; rfl⟩
  | j, i + 1, c :: ds, d, h => by
    simp [enumD] at h
    obtain ⟨c', h1, h2⟩ := enumD_get (j + 1) i ds d h
    exact ⟨c', by simpa using h1, by rw [h2]; congr 4; omega⟩
theorem wk_enum {K : PySem.W.Frag} {ap : Addr} {B H : Hp} {t : Addr} {xs : List V} {ds : List D} (h : H t = some (.lst xs)) (r : Reps K cs ap B ds xs) (e : Ex B H) : Wk K cs ap (Ite K t) (enumD 0 ds) B H := by
  intro i
  refine ⟨fun d hd => ?_, fun hi => ⟨xs, SqL.of h, by rw [r.length]; rw [enumD_length] at hi; exact hi⟩⟩
  obtain ⟨c, hc, rfl⟩ := enumD_get 0 i ds d hd
  obtain ⟨x, hx, rx⟩ := r.get hc
  refine ⟨⟨xs, x, SqL.of h, hx⟩, fun y H' hy => ?_⟩
  obtain ⟨T, x', rfl, hT, rfl, hy⟩ := hy
  have h2 := hy xs (SqL.of h)
  rw [hx] at h2
  cases h2
  have n : Nxt ap B H _ _ := Nxt.new (o := .tup [.int (i : Nat), x]) e hT
  refine ⟨_, n, fun ha => ?_, ?_⟩
  · rw [upd_ne (fun z => ha (by rw [z]; exact hT))]
  · simp only [Rep]
    exact ⟨T, _, rfl, SqT.of upd_same, reps_cons (by simp only [Rep]; rw [Nat.zero_add]) (reps_cons (rx.mono n.bb) reps_nil)⟩
def srcE (m : Env' → Mo (List D)) : Env' → Mo (List D) := fun env => bindM (m env) fun ds => match ds with
  | [.lst ds] => retM (enumD 0 ds)
  | _ => failM
theorem i_enum {p tpos : Pos} {elts : List Expr} {kk : Nat} (hm : X.mg "enumerate" = none) (ha : PAD cs X [e] mm) (hg : Gl X "enumerate" := by rfl) (hs : starEach [e] X.env = [(false, eval e X.env)] := by rfl) : PID cs X (.Tuple elts kk tpos) (.Call (.Name "enumerate" p) [e] [] pos) (srcE mm) := by
  obtain ⟨te, h1, h2⟩ := ha.ex
  refine ⟨_, pi_enum hg hm h1 hs, fun ap H0 B0 B σ env H p R ds p' k hm q => ?_⟩
  obtain ⟨x, p1, e1, e2⟩ := bindM_some hm
  split at e2
  · cases e2
    refine h2 ap H0 B0 B σ env H p _ _ p' k e1 fun B1 H1 vs n1 hp1 r1 => ?_
    obtain ⟨v, rfl, rv⟩ := reps1 r1
    simp only [Rep] at rv
    obtain ⟨t, xs, rfl, h3, rr⟩ := rv
    exact ⟨t, xs, rfl, SqL.of (n1.bh _ _ h3), q B1 H1 _ n1 hp1 fun B2 H2 b1 b2 => wk_enum (b2 _ _ (b1 _ _ h3)) (rr.mono b1) b2⟩
  · cases e2
/-- the pairs of items -/
def zipD : List D → List D → List D
  | d :: ds, c :: cs => .tup [d, c] :: zipD ds cs
  | _, _ => []
theorem zipD_length : ∀ (ds es : List D), (zipD ds es).length = min ds.length es.length
  | [], es => by simp [zipD]
  | d :: ds, [] => by simp [zipD]
  | d :: ds, c :: es => by simp only [zipD, List.length_cons, zipD_length ds es]; omega
theorem zipD_get : ∀ (i : Nat) (ds es : List D) (d : D), (zipD ds es)[i]? = some d → ∃ c c', ds[i]? = some c ∧ es[i]? = some c' ∧ d = .tup [c, c']
  | _, [], _, _, h => by simp [zipD] at h
  | _, _ :: _, [], _, h => by simp [zipD] at h
  | 0, c :: ds, c' :: es, d, h => by simp [zipD] at h; exact ⟨c, c', rfl, rfl, h.symm⟩
  | i + 1, c :: ds, c' :: es, d, h => by
    simp [zipD] at h
    obtain ⟨a, b, h1, h2, h3⟩ := zipD_get i ds es d h
    exact ⟨a, b, by simpa using h1, by simpa using h2, h3⟩
def srcZ (m : Env' → Mo (List D)) : Env' → Mo (List D) := fun env => bindM (m env) fun ds => match ds with
  | [.lst ds, .lst es] => retM (zipD ds es)
  | _ => failM
theorem i_zip {e2 : Expr} {p tpos : Pos} {elts : List Expr} {kk : Nat} (hm : X.mg "zip" = none) (ha : PAD cs X [e, e2] mm) (hg : Gl X "zip" := by rfl) (hs : starEach [e, e2] X.env = (false, eval e X.env) :: starEach [e2] X.env := by rfl) (hpl : (backTo pos (starEach [e2] X.env)).any (·.1) = false := by rfl) :
    PID cs X (.Tuple elts kk tpos) (.Call (.Name "zip" p) [e, e2] [] pos) (srcZ mm) := by
  obtain ⟨te, h1, h2⟩ := ha.ex
  refine ⟨_, pi_zip hg hm h1 hs hpl, fun ap H0 B0 B σ env H p R ds p' k hm q => ?_⟩
  obtain ⟨x, p1, e1, e2⟩ := bindM_some hm
  split at e2
  · cases e2
    refine h2 ap H0 B0 B σ env H p _ _ p' k e1 fun B1 H1 vs n1 hp1 r1 => ?_
    obtain ⟨v, w, rfl, rv, rw'⟩ := reps2 r1
    simp only [Rep] at rv rw'
    obtain ⟨t, xs, rfl, h3, rr⟩ := rv
    obtain ⟨t', ys, rfl, h3', rr'⟩ := rw'
    refine ⟨t, t', xs, ys, rfl, SqL.of (n1.bh _ _ h3), SqL.of (n1.bh _ _ h3'), q B1 H1 _ n1 hp1 fun B2 H2 b1 b2 i => ?_⟩
    have g1 := b2 _ _ (b1 _ _ h3)
    have g2 := b2 _ _ (b1 _ _ h3')
    have r2 := rr.mono b1
    have r2' := rr'.mono b1
    refine ⟨fun d hd => ?_, fun hi => ⟨xs, ys, SqL.of g1, SqL.of g2, by rw [zipD_length] at hi; rw [rr.length, rr'.length]; omega⟩⟩
    obtain ⟨c, c', hc, hc', rfl⟩ := zipD_get i _ _ d hd
    obtain ⟨x, hx, rx⟩ := r2.get hc
    obtain ⟨y, hy, ry⟩ := r2'.get hc'
    refine ⟨⟨xs, ys, x, y, SqL.of g1, SqL.of g2, hx, hy⟩, fun z H' hz => ?_⟩
    obtain ⟨T, x', y', rfl, hT, rfl, hz1, hz2⟩ := hz
    have q1 := hz1 xs (SqL.of g1)
    have q2 := hz2 ys (SqL.of g2)
    rw [hx] at q1
    rw [hy] at q2
    cases q1
    cases q2
    have n : Nxt ap B2 H2 _ _ := Nxt.new (o := .tup [x, y]) b2 hT
    refine ⟨_, n, fun ha => by rw [upd_ne (fun z => ha (by rw [z]; exact hT))], ?_⟩
    simp only [Rep]
    exact ⟨T, _, rfl, SqT.of upd_same, reps_cons (rx.mono n.bb) (reps_cons (ry.mono n.bb) reps_nil)⟩
  · cases e2
end
end DL
end

section
set_option Elab.async false
set_option linter.all false
set_option maxRecDepth 100000
set_option maxHeartbeats 4000000
/-! DL: comprehensions, own lists changed, new lists handed back. -/
namespace DL
open PySem PySem.Spec PyProof.Rows L2
open Evl (Ex)

/-- the readings that the denotations give -/
def tED (K : PySem.W.Frag) (cs : CT) (m : Env' → Mo D) : TE := fun σ H Q => ∃ ap H0 B0 B env p d p', Ok K cs ap H0 B0 B σ env H p ∧ m env p = some (d, p') ∧ KE K cs ap B H p' d Q
def tTD (K : PySem.W.Frag) (cs : CT) (m : Env' → Mo Bool) : TT := fun σ H Q => ∃ ap H0 B0 B env p d p', Ok K cs ap H0 B0 B σ env H p ∧ m env p = some (d, p') ∧ KT ap B H p' d Q
def tGD (K : PySem.W.Frag) (cs : CT) (sl : List Nat) (m : MG) : TG := fun v σ H Q => ∃ ap H0 B0 B env p d env', Ok K cs ap H0 B0 B σ env H p ∧ Rep K cs ap B d v ∧ m d env = some env' ∧ ∀ σ', Ok K cs ap H0 B0 B σ' env' H p → Agr sl σ σ' → Q σ' H
section
variable {cs : CT} {X : Cx} {e a b : Expr} {es : List Expr} {m ma mb : Env' → Mo D} {pos : Pos}
theorem PED.rd (h : PED cs X e m) : PE X e (tED X.K cs m) := by
  obtain ⟨te, h1, h2⟩ := h.ex
  exact ⟨fun pins s σ H Q I ⟨ap, H0, B0, B, env, p, d, p', k, hm, q⟩ => h1.run pins s σ H Q I (h2 ap H0 B0 B σ env H p Q d p' k hm q)⟩
theorem PTD.rd {m : Env' → Mo Bool} (h : PTD cs X e m) : PT X e (tTD X.K cs m) := by
  obtain ⟨te, h1, h2⟩ := h.ex
  exact ⟨fun pins s σ H Q I ⟨ap, H0, B0, B, env, p, d, p', k, hm, q⟩ => h1.run pins s σ H Q I (h2 ap H0 B0 B σ env H p Q d p' k hm q)⟩
theorem PGD.rd {sl : List Nat} {m : MG} (h : PGD cs X e sl m) : PG X e (tGD X.K cs sl m) := by
  obtain ⟨g, h1, h2⟩ := h.ex
  exact ⟨fun pins s σ H v u Q I r ⟨ap, H0, B0, B, env, p, d, env', k, rv, hm, q⟩ => h1.run pins s σ H v u Q I r (h2 ap H0 B0 B σ env H p Q d v env' k rv hm q)⟩

/-! ### slots wiped -/
def wipeE (env : Env') : List Nat → Env'
  | [] => env
  | v :: vs => (wipeE env vs).set v .un
theorem Ok.wipe {K : PySem.W.Frag} {ap : Addr} {H0 B0 B H : Hp} {σ : L2.St} {env : Env'} {p : Pt} (k : Ok K cs ap H0 B0 B σ env H p) : ∀ vs : List Nat, Ok K cs ap H0 B0 B (L2.wipe σ vs) (wipeE env vs) H p
  | [] => k
  | v :: vs => by
    have k1 := Ok.wipe k vs
    unfold L2.wipe wipeE
    by_cases hi : v < (wipeE env vs).length
    · exact k1.setp hi trivial rfl
    · have h1 : (wipeE env vs).length ≤ v := by omega
      have h2 : (L2.wipe σ vs).length ≤ v := by rw [k1.len]; exact h1
      rw [List.set_eq_of_length_le h1, List.set_eq_of_length_le h2]; exact k1
theorem wipe_in {σ : L2.St} {i : Nat} : ∀ {vs : List Nat}, i ∈ vs → (L2.wipe σ vs)[i]? = if i < σ.length then some none else none
  | v :: vs, h => by
    unfold L2.wipe
    by_cases e : v = i
    · subst e
      by_cases hl : v < σ.length
      · rw [if_pos hl, List.getElem?_set_self (by rw [wipe_length]; exact hl)]
      · rw [if_neg hl, List.getElem?_eq_none (by rw [List.length_set, wipe_length]; omega)]
    · rw [List.getElem?_set_ne e]
      exact wipe_in ((List.mem_cons.mp h).resolve_left fun z => e z.symm)
theorem wipe_agr {σ σ' : L2.St} {sl vs : List Nat} (g : Agr sl (L2.wipe σ vs) σ') (h : ∀ i ∈ sl, i ∈ vs) : L2.wipe σ' vs = L2.wipe σ vs := by
  apply List.ext_getElem?
  intro i
  have hl : σ'.length = σ.length := by rw [g.1, wipe_length]
  by_cases hi : i ∈ vs
  · rw [wipe_in hi, wipe_in hi, hl]
  · rw [wipe_out hi, g.2 i fun z => hi (h i z)]

/-! ### comprehensions -/
def compM (g : MG) (t : Env' → Mo Bool) (e : Env' → Mo D) (env : Env') : List D → Mo (List D)
  | [] => retM []
  | d :: ds => match g d env with
    | none => failM
    | some env1 => bindM (t env1) fun b => if b = true then bindM (e env1) fun y => bindM (compM g t e env ds) fun ys => retM (y :: ys) else compM g t e env ds
def mYes : Env' → Mo Bool := fun _ => retM true
def mLc (src : Env' → Mo (List D)) (vs : List Nat) (g : MG) (t : Env' → Mo Bool) (e : Env' → Mo D) : Env' → Mo (List D) := fun env => bindM (src env) fun ds => if ds.length ≤ 100000 then compM g t e (wipeE env vs) ds else failM
theorem compM_len {g : MG} {t : Env' → Mo Bool} {e : Env' → Mo D} {env : Env'} : ∀ {ds : List D} {p p' : Pt} {ys : List D}, compM g t e env ds p = some (ys, p') → ys.length ≤ ds.length
  | [], _, _, _, h => by cases h; exact Nat.le_refl _
  | d :: ds, p, p', ys, h => by
    unfold compM at h
    cases hg : g d env with
    | none => rw [hg] at h; cases h
    | some env1 =>
      rw [hg] at h
      obtain ⟨b, p1, e1, e2⟩ := bindM_some (m := t env1) h
      cases b with
      | true =>
        rw [if_pos rfl] at e2
        obtain ⟨y, p2, e3, e4⟩ := bindM_some e2
        obtain ⟨zs, p3, e5, e6⟩ := bindM_some e4
        cases e6
        have := compM_len e5
        simp only [List.length_cons]; omega
      | false =>
        rw [if_neg (by decide)] at e2
        have := compM_len e2
        simp only [List.length_cons]; omega
structure PTsD (cs : CT) (X : Cx) (ifs : List Expr) (m : Env' → Mo Bool) : Prop where
  rd : PTs X ifs (tTD X.K cs m)
theorem ts_nil : PTsD cs X [] mYes := ⟨⟨fun pins s σ H Q I ⟨ap, H0, B0, B, env, p, d, p', k, hm, q⟩ => by
  cases hm
  exact pts_nil.run pins s σ H Q I (q B H (Nxt.refl k.bh) k.pot)⟩⟩
theorem ts_one {m : Env' → Mo Bool} (h : PTD cs X e m) : PTsD cs X [e] m := ⟨pts_one h.rd⟩
theorem lc_ev {K : PySem.W.Frag} {wi : TI} {msrc : Env' → Mo (List D)} {mg : MG} {mt : Env' → Mo Bool} {me : Env' → Mo D} {sl vs : List Nat} (hi : EvJ K cs wi msrc) (hsl : ∀ i ∈ sl, i ∈ vs) :
    EvO K cs (tLc wi (tGD K cs sl mg) (tTD K cs mt) (tED K cs me) vs) (mLc msrc vs mg mt me) := by
  intro ap H0 B0 B σ env H p Q out p' k hm q
  obtain ⟨ds, p1, e1, e2⟩ := bindM_some hm
  split at e2
  case isFalse => cases e2
  rename_i hsz
  refine hi ap H0 B0 B σ env H p _ ds p1 k e1 fun B1 H1 J n1 hp1 wk Da hD => ?_
  have k1 := (k.nxt n1 hp1).wipe vs
  have bD : B1 Da = none := Evl.fresh_back n1.bh hD
  have Dap : Da ≠ ap := fun z => by rw [z] at hD; unfold PotAt at hp1; rw [hD] at hp1; cases hp1
  have hD0 : H Da = none := by
    cases z : H Da with
    | none => rfl
    | some o => exact absurd hD (n1.nn Da (by rw [z]; exact fun y => nomatch y))
  refine ⟨fun i m H' => m = ds.length - i ∧ ∃ B2 p2 acc accV ys, Nxt ap B1 H1 B2 H' ∧ PotAt ap H' p2 ∧ H' Da = some (.lst accV) ∧ B2 Da = none ∧ Reps K cs ap B2 acc accV ∧ accV.length ≤ i ∧
      compM mg mt me (wipeE env vs) (ds.drop i) p2 = some (ys, p') ∧ out = acc ++ ys,
    ⟨_, rfl, B1, p1, [], [], out, Nxt.newU n1.bh hD, hp1.new hD, upd_same, bD, reps_nil, Nat.le_refl _, e2, rfl⟩, ?_⟩
  rintro i mm H' ⟨rfl, B2, p2, acc, accV, ys, n2, hp2, hDl, hBD, ra, hal, hc, rfl⟩
  have wki := wk B2 H' n2 i
  by_cases hlt : i < ds.length
  · right
    obtain ⟨d, hd⟩ : ∃ d, ds[i]? = some d := ⟨ds[i], List.getElem?_eq_getElem hlt⟩
    obtain ⟨hgo, hy⟩ := wki.1 d hd
    refine ⟨hgo, ?_⟩
    have hdr : ds.drop i = d :: ds.drop (i + 1) := by
      rw [List.drop_eq_getElem_cons hlt]
      rw [List.getElem?_eq_getElem hlt] at hd
      rw [Option.some.inj hd]
    rw [hdr] at hc
    unfold compM at hc
    cases hg : mg d (wipeE env vs) with
    | none => rw [hg] at hc; cases hc
    | some env1 =>
      rw [hg] at hc
      obtain ⟨tb, p3, e3, e4⟩ := bindM_some (m := mt env1) hc
      refine ⟨fun H' => ∃ B2 p2 acc' accV ys', Nxt ap B1 H1 B2 H' ∧ PotAt ap H' p2 ∧ H' Da = some (.lst accV) ∧ B2 Da = none ∧ Reps K cs ap B2 acc' accV ∧ accV.length ≤ i + 1 ∧
          compM mg mt me (wipeE env vs) (ds.drop (i + 1)) p2 = some (ys', p') ∧ acc ++ ys = acc' ++ ys',
        fun H' ⟨B2, p2, acc', accV, ys', h1, h2, h3, h4, h5, h6, h7, h8⟩ => ⟨ds.length - (i + 1), by omega, rfl, B2, p2, acc', accV, ys', h1, h2, h3, h4, h5, h6, h7, h8⟩, fun x H3 hyl => ?_⟩
      obtain ⟨B3, n3, hap, r3⟩ := hy x H3 hyl
      have hp3 : PotAt ap H3 p2 := by
        unfold PotAt
        rw [hap (by rw [show H' ap = _ from hp2]; exact (fun z => nomatch z))]
        exact hp2
      have n13 := n2.trans n3
      have k3 := (k1.nxt n2 hp2).nxt n3 hp3
      have hD3 : H3 Da = some (.lst accV) := n3.fr _ _ hDl Dap
      have hB3 : B3 Da = none := n3.nw _ (by rw [hDl]; exact (fun z => nomatch z)) hBD
      refine ⟨ap, H0, B0, B3, wipeE env vs, p2, d, env1, k3, r3, hg, fun σ2 k4 ag => ⟨wipe_agr ag hsl, ap, H0, B0, B3, env1, p2, tb, p3, k4, e3, fun B5 H5 n5 hp5 => ?_⟩⟩
      have k5 := k4.nxt n5 hp5
      have n15 := n13.trans n5
      have hD5 : H5 Da = some (.lst accV) := n5.fr _ _ hD3 Dap
      have hB5 : B5 Da = none := n5.nw _ (by rw [hD3]; exact (fun z => nomatch z)) hB3
      cases tb with
      | false =>
        dsimp only
        rw [if_neg (by decide)] at e4 ⊢
        exact ⟨B5, p3, acc, accV, ys, n15, hp5, hD5, hB5, ra.mono (n3.bb.trans n5.bb), by omega, e4, rfl⟩
      | true =>
        dsimp only
        rw [if_pos rfl] at e4 ⊢
        obtain ⟨y, p6, e5, e6⟩ := bindM_some e4
        obtain ⟨zs, p7, e7, e8⟩ := bindM_some e6
        cases e8
        refine ⟨ap, H0, B0, B5, env1, p3, y, p6, k5, e5, fun B6 H6 v n6 hp6 r6 => ?_⟩
        have n16 := n15.trans n6
        have hD6 : H6 Da = some (.lst accV) := n6.fr _ _ hD5 Dap
        have hB6 : B6 Da = none := n6.nw _ (by rw [hD5]; exact (fun z => nomatch z)) hB5
        refine ⟨accV, hD6, Nat.lt_of_le_of_lt hal (Nat.lt_of_lt_of_le (Nat.lt_of_lt_of_le hlt hsz) (by rw [sizeLine_eq]; decide)), B6, p6, acc ++ [y], accV ++ [v], zs, ?_, ?_, upd_same, hB6, (ra.mono ((n3.bb.trans n5.bb).trans n6.bb)).append (reps_cons r6 reps_nil), by simp; omega, e7, by simp⟩
        · refine ⟨n16.bb, fun a o h => ?_, n16.nw, fun a o h ha => ?_, fun a h => ?_⟩
          · have e9 : a ≠ Da := fun z => by rw [z, hB6] at h; cases h
            rw [upd_ne e9]; exact n16.bh _ _ h
          · have e9 : a ≠ Da := fun z => by rw [z, hD] at h; cases h
            rw [upd_ne e9]; exact n16.fr a o h ha
          · have e9 : a ≠ Da := fun z => h (by rw [z]; exact hD)
            rw [upd_ne e9]; exact n16.nn a h
        · unfold PotAt; rw [upd_ne (fun z => Dap z.symm)]; exact hp6
  · left
    refine ⟨wki.2 (by omega), ?_⟩
    rw [List.drop_eq_nil_of_le (by omega)] at hc
    cases hc
    rw [List.append_nil] at q
    exact q B2 H' Da accV (n1.trans n2) hp2 hD0 hBD hDl ra
theorem o_lc {elt tg iter : Expr} {ifs : List Expr} {scope : Scope} {msrc : Env' → Mo (List D)} {mg : MG} {mt : Env' → Mo Bool} {me : Env' → Mo D} {sl : List Nat} (own : List (Str × Nat)) (hc : X.calm = true) (hN : X.N.Nodup) (ok : BlkOk X.N X.env.scope scope own) (hi : PJD cs X tg iter msrc)
    (hg : ∀ (s : Shared) (H : Hp) (C : Addr) (cl : List (Str × Addr)) (fp : List Addr), PGD cs (X.blk s H scope (compEnvC scope cl C X.env) fp) tg sl mg) (ht : ∀ (s : Shared) (H : Hp) (C : Addr) (cl : List (Str × Addr)) (fp : List Addr), PTsD cs (X.blk s H scope (compEnvC scope cl C X.env) fp) ifs mt)
    (he : ∀ (s : Shared) (H : Hp) (C : Addr) (cl : List (Str × Addr)) (fp : List Addr), PED cs (X.blk s H scope (compEnvC scope cl C X.env) fp) elt me) (hsl : ∀ i ∈ sl, i ∈ own.map (·.2) := by decide) (hs : ∀ x, foldedSetIterable iter X.env x = pure x := by intro _; rfl) :
    POD cs X (.ListComp elt [⟨tg, iter, ifs, 0⟩] scope pos) (mLc msrc (own.map (·.2)) mg mt me) := by
  obtain ⟨wi, i1, i2⟩ := hi.ex
  exact ⟨_, pe_lc hc hN i1 ok (fun s H C cl fp => (hg s H C cl fp).rd) (fun s H C cl fp => (ht s H C cl fp).rd) (fun s H C cl fp => (he s H C cl fp).rd) hs, lc_ev i2 hsl⟩
/-- name = [..] on one line -/
theorem s_lc (i : Nat) {y : Str} {py spos : Pos} {elt tg iter : Expr} {ifs : List Expr} {scope : Scope} {msrc : Env' → Mo (List D)} {mg : MG} {mt : Env' → Mo Bool} {me : Env' → Mo D} {sl : List Nat} (own : List (Str × Nat)) (hc : X.calm = true) (hN : X.N.Nodup) (hsw : swapsWith (.ListComp elt [⟨tg, iter, ifs, 0⟩] scope pos) (some (.Name y py)) spos.line X.env = pure true)
    (ok : BlkOk X.N X.env.scope scope own) (hi : PJD cs X tg iter msrc)
    (hg : ∀ (s : Shared) (H : Hp) (C : Addr) (cl : List (Str × Addr)) (fp : List Addr), PGD cs (X.blk s H scope (compEnvC scope cl C X.env) fp) tg sl mg) (ht : ∀ (s : Shared) (H : Hp) (C : Addr) (cl : List (Str × Addr)) (fp : List Addr), PTsD cs (X.blk s H scope (compEnvC scope cl C X.env) fp) ifs mt)
    (he : ∀ (s : Shared) (H : Hp) (C : Addr) (cl : List (Str × Addr)) (fp : List Addr), PED cs (X.blk s H scope (compEnvC scope cl C X.env) fp) elt me) (hy : X.N[i]? = some y := by rfl) (hyl : X.env.scope.names.lookup y = some .local := by rfl)
    (hsl : ∀ i ∈ sl, i ∈ own.map (·.2) := by decide) (hs : ∀ x, foldedSetIterable iter X.env x = pure x := by intro _; rfl) :
    PSD cs X (.Assign [.Name y py] (.ListComp elt [⟨tg, iter, ifs, 0⟩] scope pos) spos) (mSetO i (mLc msrc (own.map (·.2)) mg mt me)) := by
  obtain ⟨wi, i1, i2⟩ := hi.ex
  exact ⟨_, ps_setLc hc hN hy hyl hsw i1 ok (fun s H C cl fp => (hg s H C cl fp).rd) (fun s H C cl fp => (ht s H C cl fp).rd) (fun s H C cl fp => (he s H C cl fp).rd) hs, setO_ev (lc_ev i2 hsl)⟩

/-! ### own lists changed -/
def mApp (i : Nat) (m : Env' → Mo D) : MS := fun env => bindM (m env) fun d => match env[i]? with
  | some (.own ds) => if ds.length ≤ 100000 then retM (.nx, env.set i (.own (ds ++ [d]))) else failM
  | _ => failM
/-- xs.append(e), xs the def's own -/
theorem s_app (i : Nat) {x : Str} {p1 apos cpos : Pos} (h : PED cs X e m) (hN : X.N[i]? = some x := by rfl) (hv : Vis X.env.scope x := by first | exact Or.inl rfl | exact Or.inr (Or.inl rfl) | exact Or.inr (Or.inr rfl)) (hd : (x == ("__debug__" : Str)) = false := by decide)
    (hcd : (x == ("__classdict__" : Str)) = false := by decide) (hs : starEach [e] X.env = (false, eval e X.env) :: starEach [] X.env := by rfl)
    (hsw : swapsWith (.Call (.Attribute (.Name x p1) "append" apos) [e] [] cpos) none pos.line X.env = pure false := by rfl) (hbase : attributeBase (.Name x p1) "append" X.env (eval (.Name x p1) X.env) = eval (.Name x p1) X.env := by rfl) (hline : (apos.endLine == cpos.line) = true := by rfl)
    (hfew : ((((backTo cpos (starEach [e] X.env)).all fun x => !x.fst) && (backToKw cpos (keywordEach [] X.env)).all fun x => x.fst.isSome) && decide (([e].length + ([] : List Keyword).length + if ([] : List Keyword).isEmpty = true then 0 else 1) < 30)) = true := by rfl) :
    PSD cs X (.Expr (.Call (.Attribute (.Name x p1) "append" apos) [e] [] cpos) pos) (mApp i m) := by
  obtain ⟨te, h1, h2⟩ := h.ex
  refine ⟨_, ps_expr (pe_bm PySem.F.plainAttrs_list PySem.F.slot_list_append PySem.F.type_list_append mt_append (pe_var hN hv hd hcd) (L2.pa_cons h1 L2.pa_nil hs) (hbase := hbase) (hs := hs) (hfew := hfew) (hline := hline)) hsw, fun ap H0 B0 B σ env H p E o env' p' k hm q => ?_⟩
  obtain ⟨d, p1, e1, e2⟩ := bindM_some hm
  rcases g : env[i]? with _ | _ | _ | ds | _
  · rw [g] at e2; cases e2
  · rw [g] at e2; cases e2
  · rw [g] at e2; cases e2
  · rw [g] at e2
    dsimp only at e2
    split at e2
    case isFalse => cases e2
    rename_i hz
    cases e2
    obtain ⟨a, xs, g1, g2, g3, g4⟩ := k.sl i _ g
    have nap : a ≠ ap := fun z => k.hap (z ▸ k.ownNew i ds a g g1)
    refine ⟨.ref a, g1, .inl ⟨rfl, xs, SqL.of g3⟩, h2 ap H0 B0 B σ env H p _ d p' k e1 fun B1 H1 v n1 hp1 r1 => ?_⟩
    have k1 := k.nxt n1 hp1
    refine ⟨a, xs, v, rfl, rfl, n1.fr _ _ g3 nap, Nat.lt_of_le_of_lt (by rw [g4.length]; exact hz) (by rw [sizeLine_eq]; decide), ?_⟩
    exact q B1 σ _ n1.bb (k1.mut g g1 ((g4.mono n1.bb).append (reps_cons r1 reps_nil)))
  · rw [g] at e2; cases e2
def mPop (i j : Nat) (m : Env' → Mo D) : MS := fun env => bindM (m env) fun d => match env[i]?, d with
  | some (.own ds), .int n => match seqIndex? n ds.length with
    | some kk => match ds[kk]? with
      | some y => if -(2 ^ 62) ≤ n ∧ n ≤ 2 ^ 62 then retM (.nx, (env.set i (.own (ds.eraseIdx kk))).set j (.val y)) else failM
      | none => failM
    | none => failM
  | _, _ => failM
/-- xs[i] = e, xs the def's own -/
def mSetIx (i : Nat) (me mi : Env' → Mo D) : MS := fun env => bindM (me env) fun d => bindM (mi env) fun n => match env[i]?, n with
  | some (.own ds), .int n => match ixN ds.length n with
    | some j => retM (.nx, env.set i (.own (ds.set j d)))
    | none => failM
  | _, _ => failM
theorem s_setIx (i : Nat) {x : Str} {p1 tpos : Pos} (h : PED cs X e m) (hi : PED cs X a ma) (hN : X.N[i]? = some x := by rfl) (hv : Vis X.env.scope x := by first | exact Or.inl rfl | exact Or.inr (Or.inl rfl) | exact Or.inr (Or.inr rfl)) (hd : (x == ("__debug__" : Str)) = false := by decide)
    (hcd : (x == ("__classdict__" : Str)) = false := by decide)
    (ha : ∀ v, assign (.Subscript (.Name x p1) a tpos) X.env v = (do
      let ov ← holding [v] (eval (.Name x p1) X.env)
      let iv ← holding [v, ov] (eval a X.env)
      standAt tpos
      holding [v, ov, iv] (setItem ov iv v)
      release [v, ov, iv] []) := by intro _; rfl)
    (hs : swapsWithSole [.Subscript (.Name x p1) a tpos] e pos.line X.env = pure false := by rfl) (hw : swappedStores [.Subscript (.Name x p1) a tpos] e X.env = pure none := by rfl)
    (h1 : (assignEach [.Subscript (.Name x p1) a tpos] X.env).map (·.2) = [assign (.Subscript (.Name x p1) a tpos) X.env] := by rfl) : PSD cs X (.Assign [.Subscript (.Name x p1) a tpos] e pos) (mSetIx i m ma) := by
  obtain ⟨te, a1, a2⟩ := h.ex
  obtain ⟨ti, b1, b2⟩ := hi.ex
  refine ⟨_, ps_asg a1 (pg_sub (pe_var hN hv hd hcd) b1 set_list ha) hs hw h1, fun ap H0 B0 B σ env H p E o env' p' k hm q => ?_⟩
  obtain ⟨d, p1, e1, e2⟩ := bindM_some hm
  obtain ⟨n, p2, e3, e4⟩ := bindM_some e2
  rcases g : env[i]? with _ | _ | _ | ds | _
  · rw [g] at e4; cases e4
  · rw [g] at e4; cases e4
  · rw [g] at e4; cases e4
  · rw [g] at e4
    cases n <;> first | (cases e4; done) | skip
    rename_i nn
    dsimp only at e4
    cases z : ixN ds.length nn with
    | none => rw [z] at e4; cases e4
    | some j =>
      rw [z] at e4
      cases e4
      obtain ⟨t, xs, g1, g2, g3, g4⟩ := k.sl i _ g
      have nap : t ≠ ap := fun z => k.hap (z ▸ k.ownNew i ds t g g1)
      refine a2 ap H0 B0 B σ env H p _ d p1 k e1 fun B1 H1 v n1 hp1 r1 => ?_
      have k1 := k.nxt n1 hp1
      refine ⟨.ref t, g1, b2 ap H0 B0 B1 σ env H1 p1 _ _ p' k1 e3 fun B2 H2 u n2 hp2 r2 => ?_⟩
      have k2 := k1.nxt n2 hp2
      simp only [Rep] at r2
      have hh : H2 t = some (.lst xs) := n2.fr _ _ (n1.fr _ _ g3 nap) nap
      refine ⟨t, xs, nn, j, rfl, r2, hh, by rw [g4.length]; exact z, ?_⟩
      exact q B2 σ _ (n1.bb.trans n2.bb) (k2.mut g g1 (Reps.set (r1.mono n2.bb) j (g4.mono (n1.bb.trans n2.bb))))
  · rw [g] at e4; cases e4
end
end DL
end

section
set_option Elab.async false
set_option linter.all false
set_option maxRecDepth 100000
set_option maxHeartbeats 4000000
/-! DL: instances, their attributes, methods, operators; isinstance; making. -/
namespace DL
open PySem PySem.Spec PyProof.Rows L2
open Evl (Ex)

theorem lookup_at {α : Type} : ∀ {fs : List (Str × α)} {i : Nat} {f : Str} {v : α}, (fs.map (·.1)).Nodup → (fs.map (·.1))[i]? = some f → (fs.map (·.2))[i]? = some v → fs.lookup f = some v
  | [], i, f, v, _, h, _ => by simp at h
  | (g, x) :: fs, 0, f, v, _, h, h' => by
    simp at h h'
    subst h; subst h'
    simp [List.lookup]
  | (g, x) :: fs, i + 1, f, v, nd, h, h' => by
    rw [List.map_cons, List.nodup_cons] at nd
    rw [List.map_cons, List.getElem?_cons_succ] at h h'
    have ne : f ≠ g := fun z => nd.1 (by rw [← z]; exact List.mem_of_getElem? h)
    rw [List.lookup_cons]
    have : (f == g) = false := beq_eq_false_iff_ne.mpr ne
    rw [this]
    exact lookup_at nd.2 h h'
theorem lookup_no {α : Type} : ∀ {fs : List (Str × α)} {f : Str}, f ∉ fs.map (·.1) → fs.lookup f = none
  | [], _, _ => rfl
  | (g, x) :: fs, f, h => by
    rw [List.map_cons, List.mem_cons, not_or] at h
    rw [List.lookup_cons, beq_eq_false_iff_ne.mpr h.1]
    exact lookup_no h.2
/-- the class c stands at C, its instances' attributes are fn -/
structure ClsAt (K : PySem.W.Frag) (cs : CT) (c : Nat) (C : Addr) (fn : List Str) : Prop where
  at_ : cs c = some (C, fn)
  nd : fn.Nodup
  cl : Cls K C
def mFld (c i : Nat) (a : Env' → Mo D) : Env' → Mo D := fun env => bindM (a env) fun x => match x with
  | .ins c' ds => if c' = c then match ds[i]? with
      | some d => retM d
      | none => failM
    else failM
  | _ => failM
section
variable {cs : CT} {X : Cx} {e a b : Expr} {es : List Expr} {m ma mb : Env' → Mo D} {pos : Pos} {C f : Addr} {fn : List Str} {c k : Nat} {fd : FuncData} {ps : List Str} {g : Bool} {fm : List D → Mo D}
theorem p_fld (i : Nat) {x : Str} (T : ClsAt X.K cs c C fn) (hn : NoAttr X.K C x) (ha : PED cs X e ma) (hi : fn[i]? = some x := by rfl) (hb : attributeBase e x X.env (eval e X.env) = eval e X.env := by rfl) : PED cs X (.Attribute e x pos) (mFld c i ma) := by
  obtain ⟨ta, a1, a2⟩ := ha.ex
  refine ⟨_, pe_fld a1 hb, fun ap H0 B0 B σ env H p Q d p' k hm q => ?_⟩
  obtain ⟨y, p1, e1, e2⟩ := bindM_some hm
  cases y <;> first | (cases e2; done) | skip
  rename_i c' ds
  dsimp only at e2
  split at e2
  case isFalse => cases e2
  rename_i hc
  subst hc
  cases z : ds[i]? with
  | none => rw [z] at e2; cases e2
  | some d' =>
    rw [z] at e2
    cases e2
    refine a2 ap H0 B0 B σ env H p _ _ p' k e1 fun B1 H1 v n1 hp1 r1 => ?_
    simp only [Rep] at r1
    obtain ⟨a', C', fn', dx, fs, rfl, h1, h2, h3, h4⟩ := r1
    rw [T.at_] at h1
    cases h1
    obtain ⟨v, g1, g2⟩ := h4.get z
    exact ⟨a', C, dx, fs, v, rfl, n1.bh _ _ h2, T.cl, hn, lookup_at (by rw [h3]; exact T.nd) (by rw [h3]; exact hi) g1, q B1 H1 v n1 hp1 g2⟩
/-- what an instance's datum says -/
theorem rep_ins {K : PySem.W.Frag} {ap : Addr} {B : Hp} {ds : List D} {v : V} (T : ClsAt K cs c C fn) (r : Rep K cs ap B (.ins c ds) v) : ∃ a' dx fs, v = .ref a' ∧ B a' = some (.ins C dx fs) ∧ fs.map (·.1) = fn ∧ Reps K cs ap B ds (fs.map (·.2)) := by
  simp only [Rep] at r
  obtain ⟨a', C', fn', dx, fs, rfl, h1, h2, h3, h4⟩ := r
  rw [T.at_] at h1
  cases h1
  exact ⟨a', dx, fs, rfl, h2, h3, h4⟩
/-- o.m(e, ..) -/
def onC (c : Nat) (f : List D → Mo D) : List D → Mo D := fun ds => match ds with
  | .ins c' gs :: r => if c' = c then f (.ins c' gs :: r) else failM
  | _ => failM
def mMeth (c : Nat) (f : List D → Mo D) (o : Env' → Mo D) (m : Env' → Mo (List D)) : Env' → Mo D := fun env => bindM (o env) fun x => bindM (m env) fun ds => onC c f (x :: ds)
theorem meth_ev {K : PySem.W.Frag} {n : Nat} {ta : TE} {t : TA} {x : Str} {mm : Env' → Mo (List D)} (T : ClsAt K cs c C fn) (hx : x ∉ fn) (ha : EvE K cs ta ma) (ht : EvA K cs t mm) (hn : ∀ ds p d p', fm ds p = some (d, p') → ds.length = n) : EvE K cs (tMeth C x (spD K cs n fm) [] E0 ta t) (mMeth c fm ma mm) := by
  intro ap H0 B0 B σ env H p Q d p' k hm q
  obtain ⟨y, p1, e1, e2⟩ := bindM_some hm
  obtain ⟨ds, p2, e3, e4⟩ := bindM_some e2
  unfold onC at e4
  cases y <;> first | (cases e4; done) | skip
  rename_i c' gs
  dsimp only at e4
  split at e4
  case isFalse => cases e4
  rename_i hc
  subst hc
  refine ha ap H0 B0 B σ env H p _ _ p1 k e1 fun B1 H1 v n1 hp1 r1 => ?_
  have k1 := k.nxt n1 hp1
  obtain ⟨a', dx, fs, rfl, h2, h3, h4⟩ := rep_ins T r1
  refine ⟨a', dx, fs, rfl, n1.bh _ _ h2, lookup_no (by rw [h3]; exact hx), ht ap H0 B0 B1 σ env H1 p1 _ ds p2 k1 e3 fun B2 H2 vs n2 hp2 r2 => ?_⟩
  have k2 := k1.nxt n2 hp2
  have rr : Reps K cs ap B2 (.ins c' gs :: ds) (.ref a' :: (vs ++ [])) := by
    rw [List.append_nil]
    exact reps_cons (r1.mono n2.bb) r2
  exact ⟨ap, B2, _, p2, d, p', by rw [rr.length, hn _ p2 d p' e4], k2.bh, hp2, k2.bap, rr, e4, fun B' H' w n3 hp3 r3 => q B' H' w ((n1.trans n2).trans n3) hp3 r3⟩
theorem p_meth {n : Nat} {x : Str} {apos : Pos} {mm : Env' → Mo (List D)} {pl : Sem Bool} (T : ClsAt X.K cs c C fn) (hm : Meth X.K C x f) (F : FnD false X.prog X.w X.K X.mg X.base k f fd ps (spD X.K cs n fm)) (hr : Room k X.A) (hb : Binds X.K fd ps []) (ho : PED cs X a ma) (ha : PAD cs X (e :: es) mm) (hx : x ∉ fn := by decide +kernel)
    (hst : starEach (e :: es) X.env = (false, eval e X.env) :: starEach es X.env := by rfl) (hpl : (backTo pos (starEach es X.env)).any (·.1) = false := by rfl)
    (ht : eval (.Call (.Attribute a x apos) (e :: es) [] pos) X.env = (do
      let ov ← eval a X.env
      standAt apos.atName
      let (f, first) ← holding [ov] (getMethod ov x pl)
      callWith pos f first (backTo pos (starEach (e :: es) X.env)) (backToKw pos (keywordEach [] X.env))) := by rfl) :
    PED cs X (.Call (.Attribute a x apos) (e :: es) [] pos) (mMeth c (lenM n fm) ma mm) := by
  obtain ⟨ta, a1, a2⟩ := ho.ex
  obtain ⟨t, t1, t2⟩ := ha.ex
  have F' : FnOk X.prog X.w X.K X.mg X.base CX0 k f fd ps (spD X.K cs n (lenM n fm)) := F.ok.imp fun vs H Q E h => spD_len h
  exact ⟨_, pe_meth a1 T.cl hm F' hr hb .nil pass0 t1 hst hpl ht, meth_ev T hx a2 t2 lenM_len⟩
theorem p_meth0 {n : Nat} {x : Str} {apos : Pos} {pl : Sem Bool} (T : ClsAt X.K cs c C fn) (hm : Meth X.K C x f) (F : FnD false X.prog X.w X.K X.mg X.base k f fd ps (spD X.K cs n fm)) (hr : Room k X.A) (hb : Binds X.K fd ps []) (ho : PED cs X a ma) (hx : x ∉ fn := by decide +kernel)
    (ht : eval (.Call (.Attribute a x apos) [] [] pos) X.env = (do
      let ov ← eval a X.env
      standAt apos.atName
      let (f, first) ← holding [ov] (getMethod ov x pl)
      callWith pos f first (backTo pos (starEach [] X.env)) (backToKw pos (keywordEach [] X.env))) := by rfl) :
    PED cs X (.Call (.Attribute a x apos) [] [] pos) (mMeth c (lenM n fm) ma mNil) := by
  obtain ⟨ta, a1, a2⟩ := ho.ex
  have F' : FnOk X.prog X.w X.K X.mg X.base CX0 k f fd ps (spD X.K cs n (lenM n fm)) := F.ok.imp fun vs H Q E h => spD_len h
  refine ⟨_, pe_meth0 a1 T.cl hm F' hr hb .nil pass0 ht, meth_ev T hx a2 (fun ap H0 B0 B σ env H p Q d p' k hm q => ?_) lenM_len⟩
  cases hm
  exact q B H [] (Nxt.refl k.bh) k.pot reps_nil
/-- e.f, a property -/
def mProp (c : Nat) (f : List D → Mo D) (a : Env' → Mo D) : Env' → Mo D := fun env => bindM (a env) fun x => onC c f [x]
theorem p_prop {x : Str} {pa : Addr} (T : ClsAt X.K cs c C fn) (hp : PropOf X.K C x pa f) (F : FnD false X.prog X.w X.K X.mg X.base k f fd ps (spD X.K cs 1 fm)) (hr : Room (k + 1) X.A) (hb : Binds X.K fd ps []) (ha : PED cs X e ma) (hab : attributeBase e x X.env (eval e X.env) = eval e X.env := by rfl) :
    PED cs X (.Attribute e x pos) (mProp c fm ma) := by
  obtain ⟨ta, a1, a2⟩ := ha.ex
  refine ⟨_, pe_prop a1 T.cl hp F.ok hr hb .nil pass0 hab, fun ap H0 B0 B σ env H p Q d p' k hm q => ?_⟩
  obtain ⟨y, p1, e1, e2⟩ := bindM_some hm
  unfold onC at e2
  cases y <;> first | (cases e2; done) | skip
  rename_i c' gs
  dsimp only at e2
  split at e2
  case isFalse => cases e2
  rename_i hc
  subst hc
  refine a2 ap H0 B0 B σ env H p _ _ p1 k e1 fun B1 H1 v n1 hp1 r1 => ?_
  have k1 := k.nxt n1 hp1
  obtain ⟨a', dx, fs, rfl, h2, h3, h4⟩ := rep_ins T r1
  exact ⟨a', dx, fs, rfl, n1.bh _ _ h2, ap, B1, _, p1, d, p', rfl, k1.bh, hp1, k1.bap, reps_cons r1 reps_nil, e2, fun B' H' w n3 hp3 r3 => q B' H' w (n1.trans n3) hp3 r3⟩
/-- a new instance: the promise of C(..) -/
def spMk (K : PySem.W.Frag) (cs : CT) (C : Addr) (n : Nat) (f : List D → Mo D) : Sp := fun vs H Q _ => ∃ x dx H1 us, vs = .ref x :: us ∧ us.length = n ∧ H = upd (upd H1 dx (.own x)) x (.ins C dx []) ∧ H1 x = none ∧ H1 dx = none ∧ dx ≠ x ∧ ∃ ap B ds p d p', Ex B H1 ∧ PotAt ap H1 p ∧ B ap = none ∧ Reps K cs ap B ds us ∧ f ds p = some (d, p') ∧
  ∀ B' H' , Nxt ap B H1 B' H' → PotAt ap H' p' → Rep K cs ap B' d (.ref x) → Q .non H'
theorem p_make {n : Nat} {x : Str} {p : Pos} {mm : Env' → Mo (List D)} {dvs : List V} {dds : List D} {dus : List Value} (M : Mk X.K C f) (F : FnOk X.prog X.w X.K X.mg X.base CX0 k f fd ps (spMk X.K cs C (n + dvs.length) fm)) (hr : Room (k + 1) X.A) (hm : X.mg x = some (.ref C)) (hb : Binds X.K fd ps dus) (hd : Vals dvs dus) (hrd : ∀ ap B, Reps X.K cs ap B dds dvs)
    (ha : PAD cs X (e :: es) mm) (hg : Gl X x := by rfl) (hdb : (x == ("__debug__" : Str)) = false := by decide) (he : starEach (e :: es) X.env = (false, eval e X.env) :: starEach es X.env := by rfl) (hpl : (backTo pos (starEach es X.env)).any (·.1) = false := by rfl) :
    PED cs X (.Call (.Name x p) (e :: es) [] pos) (mCall (fun ds => lenM n (fun ds => fm (ds ++ dds)) ds) mm) := by
  obtain ⟨ta, a1, a2⟩ := ha.ex
  refine ⟨_, pe_make M F hr hg hm hb hd pass0 a1 hdb he hpl, fun ap H0 B0 B σ env H p Q d p' k hm q => ?_⟩
  obtain ⟨ds, p1, e1, e2⟩ := bindM_some hm
  unfold lenM at e2
  split at e2
  case isFalse => cases e2
  rename_i hl
  refine a2 ap H0 B0 B σ env H p _ ds p1 k e1 fun B1 H1 vs n1 hp1 r1 x' dx hx hdx hne => ?_
  have k1 := k.nxt n1 hp1
  exact ⟨x', dx, H1, _, rfl, by rw [List.length_append, r1.length, hl], rfl, hx, hdx, hne, ap, B1, ds ++ dds, p1, d, p', k1.bh, hp1, k1.bap, r1.append (hrd ap B1), e2, fun B' H' n2 hp2 r2 => ⟨rfl, q B' H' _ (n1.trans n2) hp2 r2⟩⟩
/-! ### own operators -/
structure TyF (K : PySem.W.Frag) (C : Addr) : Prop where
  cl : Cls K C
  ca : PySem.W.findIn K (.ref C) "__class__" = some (some (.builtin "object.__class__"))
  sg : PySem.W.specialIn K (.builtin "object.__class__") "__get__" = some (some (.builtin "getset_descriptor.__get__"))
  tk : PySem.W.takesIn K (.builtin "object.__class__") = some true
  mo : PySem.W.mroIn K C (.type "object") = some true
/-- what an own operator wants of the class -/
structure OpF (K : PySem.W.Frag) (C f : Addr) (op : Operator) : Prop where
  sf : PySem.W.selfFirst K C = true
  at_ : PySem.W.findIn K (.ref C) (PySem.dunder op.info.2) = some (some (.ref f))
  fn : PySem.W.isFn K (.ref f) = true
  rf : ∃ rc, PySem.W.findIn K (.ref C) (dunderR op.info.2) = some rc ∧ (rc = none ∨ ∃ g : Addr, rc = some (.ref g))
  i1 : ∃ fo, PySem.W.findIn K (.type "int") (PySem.dunder op.info.2) = some fo
  i2 : ∃ ro, PySem.W.findIn K (.type "int") (dunderR op.info.2) = some ro
  sb : PySem.W.subIn K (.type "int") (.ref C) = some false
def dUser (c : Nat) (f : List D → Mo D) : D → D → Mo D := fun x y => match x, y with
  | .ins c' gs, .int j => if c' = c then f [.ins c' gs, .int j] else failM
  | .ins c' gs, .ins c'' hs => if c' = c ∧ c'' = c then f [.ins c' gs, .ins c'' hs] else failM
  | _, _ => failM
def rUser (K : PySem.W.Frag) (cs : CT) (C : Addr) (fm : List D → Mo D) : R2 := fun x y H Q => ∃ a dx fs, x = .ref a ∧ H a = some (.ins C dx fs) ∧ ((∃ j, y = .int j) ∨ ∃ b dy gs, y = .ref b ∧ H b = some (.ins C dy gs)) ∧ spD K cs 2 fm [x, y] H Q E0
theorem rel_back {v : V} {u : Value} {Q : Value → Shared → Prop} {s : Shared} (r : L2.RelV v u) (h : Q u s) : PySem.W.CmpBack Q u s := by
  cases v <;> simp only [L2.RelV] at r <;> first | (subst r; exact h) | (obtain ⟨t, rfl⟩ := r; exact h)
theorem opR_user {op : Operator} (O : OpF X.K C f op) (F : FnD false X.prog X.w X.K X.mg X.base k f fd ps (spD X.K cs 2 fm)) (hr : Room k X.A) (hb : Binds X.K fd ps []) : OpR X (binaryOp op) (rUser X.K cs C fm) := by
  intro pins s σ H x y v u Q I rx ry h
  obtain ⟨a', dx, fs, rfl, ha, hy, hs⟩ := h
  cases rx
  obtain ⟨mA, J, _⟩ := ins_get I.hok ha
  obtain ⟨od, J, _⟩ := J.look
  obtain ⟨m', hF⟩ := I.fr
  have hlen : ps.length = 2 := (F.len _ _ _ _ hs).symm
  have run : ∀ w, L2.RelV y w → wpAny (model X.prog X.w) X.A (call (.ref f) [.ref a', w]) (PySem.W.CmpBack (EP X pins σ Q)) X.xe s := fun w rw' => by
    have hb1 := hb s [.ref a', w] I.kIn (by rw [List.append_nil, hlen]; rfl)
    rw [List.append_nil] at hb1
    refine thn (call_d (pv := [.ref a', w]) (kw := []) F hr (fun z => nomatch z) hb1 I (.cons (show L2.RelV (V.ref a') (Value.ref a') from rfl) (.cons rw' .nil)) hs) fun w2 s2 hq => ?_
    obtain ⟨v2, H2, I2, r2, q2⟩ := hq
    exact rel_back r2 ⟨v2, H2, I2, r2, q2⟩
  rcases hy with ⟨j, rfl⟩ | ⟨b', dy, gs, rfl, hb'⟩
  · obtain ⟨t, rfl⟩ := ry
    obtain ⟨rc, r1, r2⟩ := O.rf
    obtain ⟨fo, i1⟩ := O.i1
    obtain ⟨ro, i2⟩ := O.i2
    exact PySem.W.ksp_binT hF I.ok.mod.kin J rfl O.sf O.at_ O.fn r1 r2 i1 i2 O.sb (run _ ⟨t, rfl⟩)
  · cases ry
    obtain ⟨mB, J', _⟩ := ins_get I.hok hb'
    obtain ⟨od', J', _⟩ := J'.look
    exact PySem.W.binop_K hF I.ok.mod.kin J J'.type O.sf O.at_ O.fn (run _ rfl)
theorem opD_user {op : Operator} (T : ClsAt X.K cs c C fn) (O : OpF X.K C f op) (F : FnD false X.prog X.w X.K X.mg X.base k f fd ps (spD X.K cs 2 fm)) (hr : Room k X.A) (hb : Binds X.K fd ps []) : OpD cs X (binaryOp op) (dUser c fm) := by
  refine ⟨_, opR_user O F hr hb, fun ap B H p x y v u Q d p' e hp hbp rx ry hm q => ?_⟩
  unfold dUser at hm
  split at hm
  · split at hm
    case isFalse => cases hm
    rename_i hc
    subst hc
    obtain ⟨a', dx, fs, rfl, h2, h3, h4⟩ := rep_ins T rx
    have ry' := ry
    simp only [Rep] at ry'
    subst ry'
    exact ⟨a', dx, fs, rfl, e _ _ h2, .inl ⟨_, rfl⟩, ap, B, _, p, d, p', rfl, e, hp, hbp, reps_cons rx (reps_cons ry reps_nil), hm, q⟩
  · split at hm
    case isFalse => cases hm
    rename_i hc
    obtain ⟨hc, hc'⟩ := hc
    subst hc; subst hc'
    obtain ⟨a', dx, fs, rfl, h2, h3, h4⟩ := rep_ins T rx
    obtain ⟨b', dy, gs, rfl, g2, g3, g4⟩ := rep_ins T ry
    exact ⟨a', dx, fs, rfl, e _ _ h2, .inr ⟨b', dy, gs, rfl, e _ _ g2⟩, ap, B, _, p, d, p', rfl, e, hp, hbp, reps_cons rx (reps_cons ry reps_nil), hm, q⟩
  · cases hm
/-! ### isinstance -/
inductive IT where
  | ty (n : String) | cl (c : Nat)
/-- the built-in type of a datum -/
def tyN : D → Option String
  | .non => some "NoneType"
  | .bl _ => some "bool"
  | .int _ => some "int"
  | .str _ => some "str"
  | .lst _ => some "list"
  | .tup _ => some "tuple"
  | _ => none
def tyNames : List String := ["NoneType", "bool", "int", "str", "list", "tuple"]
/-- the answers that are used -/
def isT : String → D → Option Bool
  | "int", .int _ => some true
  | "int", .bl _ => some true
  | "int", .non => some false
  | "int", .str _ => some false
  | "int", .lst _ => some false
  | "int", .tup _ => some false
  | "int", .ins _ _ => some false
  | "bool", .bl _ => some true
  | "bool", .int _ => some false
  | "bool", .non => some false
  | "bool", .str _ => some false
  | "bool", .lst _ => some false
  | "bool", .tup _ => some false
  | "bool", .ins _ _ => some false
  | "list", .lst _ => some true
  | "list", .bl _ => some false
  | "list", .int _ => some false
  | "list", .non => some false
  | "list", .str _ => some false
  | "list", .tup _ => some false
  | "list", .ins _ _ => some false
  | "tuple", .tup _ => some true
  | "tuple", .bl _ => some false
  | "tuple", .int _ => some false
  | "tuple", .non => some false
  | "tuple", .str _ => some false
  | "tuple", .lst _ => some false
  | "tuple", .ins _ _ => some false
  | "str", .str _ => some true
  | "str", .bl _ => some false
  | "str", .int _ => some false
  | "str", .non => some false
  | "str", .lst _ => some false
  | "str", .tup _ => some false
  | "str", .ins _ _ => some false
  | _, _ => none
def isC (c : Nat) : D → Option Bool
  | .ins c' _ => some (c' == c)
  | .non => some false
  | .bl _ => some false
  | .int _ => some false
  | .str _ => some false
  | .lst _ => some false
  | .tup _ => some false
  | _ => none
/-- what is known of the classes: their own type, that they are no built-in ones, that they are unlike -/
structure IsiF (K : PySem.W.Frag) (cs : CT) : Prop where
  ty : ∀ c C fn, cs c = some (C, fn) → TyF K C
  b : ∀ c C fn, cs c = some (C, fn) → ∀ n ∈ ["int", "bool", "list", "tuple", "str"], PySem.W.kitOne K (.ref C) (.type n) = some false
  o : ∀ c C fn, cs c = some (C, fn) → ∀ n ∈ tyNames, PySem.W.kitOne K (.type n) (.ref C) = some false
  cc : ∀ c C fn c' C' fn', cs c = some (C, fn) → cs c' = some (C', fn') → PySem.W.kitOne K (.ref C) (.ref C') = some (c == c')
/-- a datum's type for the library -/
theorem ty_of {K : PySem.W.Frag} {ap : Addr} {B H : Hp} {d : D} {v : V} (I : IsiF K cs) (e : Ex B H) (r : Rep K cs ap B d v) : (∃ n, tyN d = some n ∧ n ∈ tyNames ∧ TyX K H v (.type n)) ∨ (∃ c ds C fn, d = .ins c ds ∧ cs c = some (C, fn) ∧ TyX K H v (.ref C)) ∨ d = .pot := by
  cases d with
  | non => simp only [Rep] at r; subst r; exact .inl ⟨_, rfl, by decide, .base .non⟩
  | bl b => simp only [Rep] at r; subst r; exact .inl ⟨_, rfl, by decide, .base (.bl b)⟩
  | int i => simp only [Rep] at r; subst r; exact .inl ⟨_, rfl, by decide, .base (.int i)⟩
  | str x => simp only [Rep] at r; subst r; exact .inl ⟨_, rfl, by decide, .base (.str x)⟩
  | lst ds => simp only [Rep] at r; obtain ⟨a, xs, rfl, h, _⟩ := r; exact .inl ⟨_, rfl, by decide, .base (.lst (e _ _ h))⟩
  | tup ds =>
    simp only [Rep] at r
    obtain ⟨a, xs, rfl, h, _⟩ := r
    refine .inl ⟨_, rfl, by decide, ?_⟩
    rcases h with (h | ⟨o, h⟩) | ⟨o, its, n, h, hc, _⟩
    · exact .base (.tup (e _ _ h))
    · exact .fTuple (e _ _ h)
    · exact .kTuple h hc
  | ins c ds =>
    simp only [Rep] at r
    obtain ⟨a, C, fn, dx, fs, rfl, h1, h2, _⟩ := r
    have t := I.ty c C fn h1
    exact .inr (.inl ⟨c, ds, C, fn, rfl, h1, .base (.ins (e _ _ h2) t.cl t.ca t.sg t.tk t.mo)⟩)
  | pot => exact .inr (.inr rfl)
theorem isT_kit {K : PySem.W.Frag} {n T : String} {d : D} {b : Bool} (h : tyN d = some n) (hb : isT T d = some b) : PySem.W.kitOne K (.type n) (.type T) = some b := by
  refine kit_ty ?_
  unfold isT at hb
  split at hb <;> first | (cases hb; done) | (simp only [tyN] at h; cases h; done) | (simp only [tyN] at h; cases h; cases hb; decide +kernel)
theorem isT_mem {T : String} {d : D} {b : Bool} (hb : isT T d = some b) : T ∈ ["int", "bool", "list", "tuple", "str"] := by
  unfold isT at hb
  split at hb <;> first | (cases hb; done) | decide
theorem isT_ins {T : String} {c : Nat} {ds : List D} {b : Bool} (hb : isT T (.ins c ds) = some b) : b = false := by
  unfold isT at hb
  split at hb <;> first | (cases hb; done) | (cases hb; rfl) | skip
  all_goals (rename_i h; cases h)
def mIsT (T : String) (a : Env' → Mo D) : Env' → Mo D := fun env => bindM (a env) fun x => match isT T x with
  | some b => retM (.bl b)
  | none => failM
def mIsC (c : Nat) (a : Env' → Mo D) : Env' → Mo D := fun env => bindM (a env) fun x => match isC c x with
  | some b => retM (.bl b)
  | none => failM
/-- (T, U) -/
def mIsT2 (T U : String) (a : Env' → Mo D) : Env' → Mo D := fun env => bindM (a env) fun x => match isT T x, isT U x with
  | some b, some b' => retM (.bl (b || b'))
  | _, _ => failM
theorem kit_T {K : PySem.W.Frag} {ap : Addr} {B H : Hp} {d : D} {v : V} {T : String} {b : Bool} (I : IsiF K cs) (e : Ex B H) (r : Rep K cs ap B d v) (hb : isT T d = some b) : ∃ t, TyX K H v t ∧ PySem.W.kitOne K t (.type T) = some b := by
  rcases ty_of I e r with ⟨n, h1, h2, h3⟩ | ⟨c, ds, C, fn, rfl, h1, h2⟩ | rfl
  · exact ⟨_, h3, isT_kit h1 hb⟩
  · have := isT_ins hb
    subst this
    exact ⟨_, h2, I.b c C fn h1 T (isT_mem hb)⟩
  · unfold isT at hb
    split at hb <;> cases hb <;> rename_i h <;> cases h
end
end DL
end

section
set_option Elab.async false
set_option linter.all false
set_option maxRecDepth 100000
set_option maxHeartbeats 4000000
/-! == and != of lists and tuples whose items may run code, both answers. -/
namespace DQ
open PySem PySem.SeqAt
open AutoSeq1 (wpAny_loadPart')
open MeetsSeq MeetsSeq2 MeetsSeq3 SeqRoads2
section
variable {prog : Program} {w : World} {A : Around} {R : Result → Shared → Prop}
/-- the lists, as they are read -/
def Two (s : Shared) (l b : Addr) (N : Nat) (items items2 : Array Value) : Prop := (∃ n, s.heap.get? l = some { cls := .type "list", data := .seq items n }) ∧ (∃ n, s.heap.get? b = some { cls := .type "list", data := .seq items2 n }) ∧ items.size = N ∧ items2.size = N
def opI (ne : Bool) : Int := if ne then 3 else 2
theorem loopB (ne : Bool) (l b : Addr) (N : Nat) (I : Nat → Shared → Prop) (J : Nat → Shared → Prop)
    (hl : ∀ i s, I i s → ∃ items items2, Two s l b N items items2 ∧ ∀ (h1 : i < items.size) (h2 : i < items2.size), wpAny (model prog w) A.in1 (eqBool items[i] items2[i]) (fun r s' => if r = true then I (i + 1) s' else J i s') (fun e s' => R (.error e) s') s)
    (hJ : ∀ i s, J i s → (∃ items items2, Two s l b N items items2) ∧ R (.ok (.ret (.bool ne))) s)
    (fin : ∀ s, I N s → R (.ok (.ret (.bool (!ne)))) s) (k : Nat) :
    ∀ i : Nat, N - i = k → i ≤ N → ∀ s, I i s →
      wpAny (model prog w) A.in1 (Builtin.«list.__eq__.loop» ⟨[.ref l, .ref b, rawInt i, rawInt (opI ne)], []⟩) (GQ.FinOf prog w A R) (fun e s' => R (.error e) s') s := by
  induction k with
  | zero =>
    intro i hk hi s h
    obtain ⟨items, items2, ⟨⟨n, hl1⟩, ⟨n2, hb1⟩, hs1, hs2⟩, _⟩ := hl _ _ h
    have hi' : i = N := by omega
    have hR := fin s (hi' ▸ h)
    have hi1 : items[((i : Nat) : Int).toNat]? = none := by simp; omega
    have hi2 : items2[((i : Nat) : Int).toNat]? = none := by simp; omega
    obtain ⟨hp, g, d, tk, os⟩ := s
    cases ne with
    | false =>
      wp_walk using wpAny_loadPart' hl1, wpAny_loadPart' hb1
      rw [hi1, hi2]
      wp_walk using wpAny_loadPart' hl1, wpAny_loadPart' hb1
      show R (.ok (.ret (.bool (items.size == items2.size)))) _
      rw [hs1, hs2]
      simpa using hR
    | true =>
      wp_walk using wpAny_loadPart' hl1, wpAny_loadPart' hb1
      rw [hi1, hi2]
      wp_walk using wpAny_loadPart' hl1, wpAny_loadPart' hb1
      show R (.ok (.ret (.bool (items.size != items2.size)))) _
      rw [hs1, hs2]
      simpa using hR
  | succ k ih =>
    intro i hk hi s h
    obtain ⟨items, items2, ⟨⟨n, hl1⟩, ⟨n2, hb1⟩, hs1, hs2⟩, turn⟩ := hl _ _ h
    have hlt : i < items.size := by omega
    have hlt2 : i < items2.size := by omega
    have ht := turn hlt hlt2
    have hi1 : items[((i : Nat) : Int).toNat]? = some items[i] := by simp [hlt]
    have hi2 : items2[((i : Nat) : Int).toNat]? = some items2[i] := by simp [hlt2]
    have hc : ((i : Int) + 1) = ((i + 1 : Nat) : Int) := by omega
    obtain ⟨hp, g, d, tk, os⟩ := s
    cases ne with
    | false =>
      wp_walk using wpAny_loadPart' hl1, wpAny_loadPart' hb1
      rw [hi1, hi2]
      refine wpAny_bind (wpAny_mono ht (fun r s2 h2 => ?_) fun _ _ x => x)
      cases r with
      | true =>
        rw [if_pos rfl] at h2
        have hrec := ih (i + 1) (by omega) (by omega) s2 h2
        obtain ⟨hp2, g2, d2, tk2, os2⟩ := s2
        wp_walk
        rw [hc]
        exact ⟨plainId_quiet plain_eq_loop _, codeAny_builtin entry_eq_loop (by
          rw [Around.under_plainId plain_eq_loop _]
          exact hrec)⟩
      | false =>
        rw [if_neg (by decide)] at h2
        obtain ⟨⟨it1, it2, ⟨m1, q1⟩, ⟨m2, q2⟩, z1, z2⟩, hR⟩ := hJ i s2 h2
        have y1 : it1[((i : Nat) : Int).toNat]? = some it1[i] := by simp
        have y2 : it2[((i : Nat) : Int).toNat]? = some it2[i] := by simp
        obtain ⟨hp2, g2, d2, tk2, os2⟩ := s2
        wp_walk using wpAny_loadPart' q1, wpAny_loadPart' q2
        rw [y1, y2]
        wp_walk
        exact hR
    | true =>
      wp_walk using wpAny_loadPart' hl1, wpAny_loadPart' hb1
      rw [hi1, hi2]
      refine wpAny_bind (wpAny_mono ht (fun r s2 h2 => ?_) fun _ _ x => x)
      cases r with
      | true =>
        rw [if_pos rfl] at h2
        have hrec := ih (i + 1) (by omega) (by omega) s2 h2
        obtain ⟨hp2, g2, d2, tk2, os2⟩ := s2
        wp_walk
        rw [hc]
        exact ⟨plainId_quiet plain_eq_loop _, codeAny_builtin entry_eq_loop (by
          rw [Around.under_plainId plain_eq_loop _]
          exact hrec)⟩
      | false =>
        rw [if_neg (by decide)] at h2
        obtain ⟨⟨it1, it2, ⟨m1, q1⟩, ⟨m2, q2⟩, z1, z2⟩, hR⟩ := hJ i s2 h2
        have y1 : it1[((i : Nat) : Int).toNat]? = some it1[i] := by simp
        have y2 : it2[((i : Nat) : Int).toNat]? = some it2[i] := by simp
        obtain ⟨hp2, g2, d2, tk2, os2⟩ := s2
        wp_walk using wpAny_loadPart' q1, wpAny_loadPart' q2
        rw [y1, y2]
        wp_walk
        exact hR
/-- the two lists compared: of one length, item by item; else at once -/
theorem listB (ne : Bool) (l b : Addr) (N : Nat) (I : Nat → Shared → Prop) (J : Nat → Shared → Prop)
    (hl : ∀ i s, I i s → ∃ items items2, Two s l b N items items2 ∧ ∀ (h1 : i < items.size) (h2 : i < items2.size), wpAny (model prog w) A.in1 (eqBool items[i] items2[i]) (fun r s' => if r = true then I (i + 1) s' else J i s') (fun e s' => R (.error e) s') s)
    (hJ : ∀ i s, J i s → (∃ items items2, Two s l b N items items2) ∧ R (.ok (.ret (.bool ne))) s)
    (fin : ∀ s, I N s → R (.ok (.ret (.bool (!ne)))) s) {s : Shared} (h : I 0 s) :
    wpAny (model prog w) A.in1 ((if ne then Builtin.«list.__ne__» else Builtin.«list.__eq__») ⟨[.ref l, .ref b], []⟩) (GQ.FinOf prog w A R) (fun e s' => R (.error e) s') s := by
  obtain ⟨items, items2, ⟨⟨n, hl1⟩, ⟨n2, hb1⟩, hs1, hs2⟩, _⟩ := hl _ _ h
  have hrec := loopB (A := A) (R := R) ne l b N I J hl hJ fin _ 0 rfl (Nat.zero_le _) s h
  obtain ⟨hp, g, d, tk, os⟩ := s
  have f3 := AutoSeq1.sub_list_list
  have hne : ¬ (items.size != items2.size) = true := by simp [hs1, hs2]
  cases ne with
  | false =>
    rw [if_neg (by decide)]
    wp_walk using wpAny_loadPart' hl1, wpAny_loadPart' hb1
    exact ⟨plainId_quiet plain_eq_loop _, codeAny_builtin entry_eq_loop (by
      rw [Around.under_plainId plain_eq_loop _]
      exact hrec)⟩
  | true =>
    rw [if_pos rfl]
    wp_walk using wpAny_loadPart' hl1, wpAny_loadPart' hb1
    exact ⟨plainId_quiet plain_eq_loop _, codeAny_builtin entry_eq_loop (by
      rw [Around.under_plainId plain_eq_loop _]
      exact hrec)⟩
theorem listU (ne : Bool) {l b : Addr} {items items2 : Array Value} {n n2 : Nat} {s : Shared} (hl1 : s.heap.get? l = some { cls := .type "list", data := .seq items n }) (hb1 : s.heap.get? b = some { cls := .type "list", data := .seq items2 n2 }) (hz : items.size ≠ items2.size) (h : R (.ok (.ret (.bool ne))) s) :
    wpAny (model prog w) A.in1 ((if ne then Builtin.«list.__ne__» else Builtin.«list.__eq__») ⟨[.ref l, .ref b], []⟩) (GQ.FinOf prog w A R) (fun e s' => R (.error e) s') s := by
  have f3 := AutoSeq1.sub_list_list
  have hne : (items.size != items2.size) = true := by simpa using hz
  obtain ⟨hp, g, d, tk, os⟩ := s
  cases ne with
  | false =>
    rw [if_neg (by decide)]
    wp_walk using wpAny_loadPart' hl1, wpAny_loadPart' hb1
    exact h
  | true =>
    rw [if_pos rfl]
    wp_walk using wpAny_loadPart' hl1, wpAny_loadPart' hb1
    exact h
end
end DQ
end

section
set_option Elab.async false
set_option linter.all false
set_option maxRecDepth 100000
set_option maxHeartbeats 4000000
/-! == of tuples, both answers; == and != of data. -/
namespace DQ
open PySem PySem.SeqAt
open AutoSeq1 (wpAny_loadPart')
open MeetsSeq MeetsSeq2 MeetsSeq3 SeqRoads2
section
variable {prog : Program} {w : World} {A : Around} {R : Result → Shared → Prop}
/-- tuples: item by item, J behind an unequal pair; then the lengths -/
theorem tupB (ne : Bool) (l b : Addr) (xs ys : Array Value) (n n2 : Nat) (dd dd2 : Option Addr) (sl sl2 : Array (Option Value)) (I J : Nat → Shared → Prop)
    (turn : ∀ i (h1 : i < xs.size) (h2 : i < ys.size) s, I i s → wpAny (model prog w) A.in1 (eqBool xs[i] ys[i]) (fun r s' => if r = true then I (i + 1) s' else J i s') (fun e s' => R (.error e) s') s)
    (hJ : ∀ i s, J i s → R (.ok (.ret (.bool ne))) s) (fin : ∀ s, I (min xs.size ys.size) s → R (.ok (.ret (.bool ((xs.size == ys.size) != ne)))) s)
    {s : Shared} (hl1 : s.heap.get? l = some { cls := .type "tuple", dict := dd, data := .seq xs n, slots := sl }) (hb1 : s.heap.get? b = some { cls := .type "tuple", dict := dd2, data := .seq ys n2, slots := sl2 }) (h : I 0 s) :
    wpAny (model prog w) A.in1 ((if ne then Builtin.«tuple.__ne__» else Builtin.«tuple.__eq__») ⟨[.ref l, .ref b], []⟩) (GQ.FinOf prog w A R) (fun e s' => R (.error e) s') s := by
  have f2 := AutoSeq1.sub_tuple_tuple
  have hZ : (xs.toList.zip ys.toList).length = min xs.size ys.size := by simp
  have h0 := h
  obtain ⟨hp, g, d, tk, os⟩ := s
  cases ne with
  | false =>
    rw [if_neg (by decide)]
    wp_walk using wpAny_loadPart' hl1, wpAny_loadPart' hb1, wpAny_forIn_list _ (fun rest b s' => b.1 = none ∧ ∃ i, rest = (xs.toList.zip ys.toList).drop i ∧ i ≤ min xs.size ys.size ∧ I i s') _
    case turn =>
      rintro ⟨y, x⟩ rest b s' ⟨hb', i, hz, hi, hI⟩
      have hlt : i < (xs.toList.zip ys.toList).length := by
        rcases Nat.lt_or_ge i (xs.toList.zip ys.toList).length with h' | h'
        · exact h'
        · rw [List.drop_of_length_le h'] at hz; cases hz
      have hm : i < min xs.size ys.size := hZ ▸ hlt
      have h1 : i < xs.size := Nat.lt_of_lt_of_le hm (Nat.min_le_left _ _)
      have h2 : i < ys.size := Nat.lt_of_lt_of_le hm (Nat.min_le_right _ _)
      rw [List.drop_eq_getElem_cons hlt] at hz
      injection hz with hyx hrest
      have hy : y = xs[i] := by have := congrArg Prod.fst hyx; simpa using this
      have hx : x = ys[i] := by have := congrArg Prod.snd hyx; simpa using this
      subst hy hx
      refine wpAny_bind (wpAny_mono (turn i h1 h2 s' hI) (fun r s2 q2 => ?_) fun _ _ x => x)
      cases r with
      | true =>
        rw [if_pos rfl] at q2
        wp_walk
        exact ⟨rfl, i + 1, hrest, hm, q2⟩
      | false =>
        rw [if_neg (by decide)] at q2
        have q3 := hJ i s2 q2
        wp_walk
        exact q3
    case fin =>
      rintro ⟨b1, b2⟩ s' ⟨hb', i, hz, hi, hI⟩
      simp only at hb'
      subst hb'
      have hge : min xs.size ys.size ≤ i := by
        rcases Nat.lt_or_ge i (xs.toList.zip ys.toList).length with h' | h'
        · rw [List.drop_eq_getElem_cons h'] at hz; cases hz
        · exact hZ ▸ h'
      have hi' : i = min xs.size ys.size := by omega
      have hR := fin s' (hi' ▸ hI)
      wp_walk
      simpa [Builtin.Tuple.tupleCompareSizes, bne] using hR
    case h =>
      exact ⟨rfl, 0, rfl, Nat.zero_le _, h0⟩
  | true =>
    rw [if_pos rfl]
    wp_walk using wpAny_loadPart' hl1, wpAny_loadPart' hb1, wpAny_forIn_list _ (fun rest b s' => b.1 = none ∧ ∃ i, rest = (xs.toList.zip ys.toList).drop i ∧ i ≤ min xs.size ys.size ∧ I i s') _
    case turn =>
      rintro ⟨y, x⟩ rest b s' ⟨hb', i, hz, hi, hI⟩
      have hlt : i < (xs.toList.zip ys.toList).length := by
        rcases Nat.lt_or_ge i (xs.toList.zip ys.toList).length with h' | h'
        · exact h'
        · rw [List.drop_of_length_le h'] at hz; cases hz
      have hm : i < min xs.size ys.size := hZ ▸ hlt
      have h1 : i < xs.size := Nat.lt_of_lt_of_le hm (Nat.min_le_left _ _)
      have h2 : i < ys.size := Nat.lt_of_lt_of_le hm (Nat.min_le_right _ _)
      rw [List.drop_eq_getElem_cons hlt] at hz
      injection hz with hyx hrest
      have hy : y = xs[i] := by have := congrArg Prod.fst hyx; simpa using this
      have hx : x = ys[i] := by have := congrArg Prod.snd hyx; simpa using this
      subst hy hx
      refine wpAny_bind (wpAny_mono (turn i h1 h2 s' hI) (fun r s2 q2 => ?_) fun _ _ x => x)
      cases r with
      | true =>
        rw [if_pos rfl] at q2
        wp_walk
        exact ⟨rfl, i + 1, hrest, hm, q2⟩
      | false =>
        rw [if_neg (by decide)] at q2
        have q3 := hJ i s2 q2
        wp_walk
        exact q3
    case fin =>
      rintro ⟨b1, b2⟩ s' ⟨hb', i, hz, hi, hI⟩
      simp only at hb'
      subst hb'
      have hge : min xs.size ys.size ≤ i := by
        rcases Nat.lt_or_ge i (xs.toList.zip ys.toList).length with h' | h'
        · rw [List.drop_eq_getElem_cons h'] at hz; cases hz
        · exact hZ ▸ h'
      have hi' : i = min xs.size ys.size := by omega
      have hR := fin s' (hi' ▸ hI)
      wp_walk
      simpa [Builtin.Tuple.tupleCompareSizes, bne] using hR
    case h =>
      exact ⟨rfl, 0, rfl, Nat.zero_le _, h0⟩
end
section
variable {prog : Program} {w : World} {A : Around} {E : Value → Shared → Prop} {s : Shared}
def opC (ne : Bool) : CmpOp := if ne then .NotEq else .Eq
theorem rcL (ne : Bool) {l b : Addr} {N : Nat} {Q : Value → Shared → Prop} (hu : A.units < cLine) (I J : Nat → Shared → Prop)
    (hl : ∀ i s, I i s → ∃ xs ys, Two s l b N xs ys ∧ ∀ (h1 : i < xs.size) (h2 : i < ys.size), wpAny (model prog w) A.in1 (eqBool xs[i] ys[i]) (fun r s' => if r = true then I (i + 1) s' else J i s') E s)
    (hJ : ∀ i s, J i s → (∃ xs ys, Two s l b N xs ys) ∧ Q (.bool ne) s)
    (fin : ∀ s, I N s → Q (.bool (!ne)) s) (h : I 0 s) : wpAny (model prog w) A (richCompare (opC ne) (.ref l) (.ref b)) Q E s := by
  obtain ⟨xs, ys, ⟨⟨n, hl1⟩, ⟨n2, hb1⟩, _, _⟩, _⟩ := hl _ _ h
  have key := listB (prog := prog) (w := w) (A := A) (R := wants (fun v s' => v ≠ .notImplemented ∧ Q v s') E) ne l b N I J hl (fun i s' q => ⟨(hJ i s' q).1, (fun x => nomatch x), (hJ i s' q).2⟩) (fun s' q => ⟨(fun x => nomatch x), fin s' q⟩) h
  cases ne with
  | false => exact wpAny_richCompare_same_room (op := .Eq) ⟨_, hl1, rfl⟩ ⟨_, hb1, rfl⟩ F.slot_list_eq (GQ.call_here F.slot_list_eq ⟨_, hl1, rfl⟩ F.entry_list_eq (F.args_list_eq_2 _ _) key) hu
  | true => exact wpAny_richCompare_same_room (op := .NotEq) ⟨_, hl1, rfl⟩ ⟨_, hb1, rfl⟩ F.slot_list_ne (GQ.call_here F.slot_list_ne ⟨_, hl1, rfl⟩ F.entry_list_ne (F.args_list_ne_2 _ _) key) hu
theorem rcU (ne : Bool) {l b : Addr} {xs ys : Array Value} {n n2 : Nat} {Q : Value → Shared → Prop} (hu : A.units < cLine) (hl1 : s.heap.get? l = some { cls := .type "list", data := .seq xs n }) (hb1 : s.heap.get? b = some { cls := .type "list", data := .seq ys n2 }) (hz : xs.size ≠ ys.size)
    (h : Q (.bool ne) s) : wpAny (model prog w) A (richCompare (opC ne) (.ref l) (.ref b)) Q E s := by
  have key := listU (prog := prog) (w := w) (A := A) (R := wants (fun v s' => v ≠ .notImplemented ∧ Q v s') E) ne hl1 hb1 hz ⟨(fun x => nomatch x), h⟩
  cases ne with
  | false => exact wpAny_richCompare_same_room (op := .Eq) ⟨_, hl1, rfl⟩ ⟨_, hb1, rfl⟩ F.slot_list_eq (GQ.call_here F.slot_list_eq ⟨_, hl1, rfl⟩ F.entry_list_eq (F.args_list_eq_2 _ _) key) hu
  | true => exact wpAny_richCompare_same_room (op := .NotEq) ⟨_, hl1, rfl⟩ ⟨_, hb1, rfl⟩ F.slot_list_ne (GQ.call_here F.slot_list_ne ⟨_, hl1, rfl⟩ F.entry_list_ne (F.args_list_ne_2 _ _) key) hu
theorem rcT (ne : Bool) {l b : Addr} {xs ys : Array Value} {Q : Value → Shared → Prop} (hu : A.units < cLine) (I J : Nat → Shared → Prop) (ha : s.heap.IsTuple l xs) (hb : s.heap.IsTuple b ys)
    (turn : ∀ i (h1 : i < xs.size) (h2 : i < ys.size) s, I i s → wpAny (model prog w) A.in1 (eqBool xs[i] ys[i]) (fun r s' => if r = true then I (i + 1) s' else J i s') E s)
    (hJ : ∀ i s, J i s → Q (.bool ne) s) (fin : ∀ s, I (min xs.size ys.size) s → Q (.bool ((xs.size == ys.size) != ne)) s) (h : I 0 s) : wpAny (model prog w) A (richCompare (opC ne) (.ref l) (.ref b)) Q E s := by
  obtain ⟨⟨cls, dd, data, sl⟩, ho, hc, n, hd⟩ := id ha
  obtain ⟨⟨cls2, dd2, data2, sl2⟩, ho2, hc2, n2, hd2⟩ := id hb
  simp only at hc hd hc2 hd2
  subst hc hd hc2 hd2
  have key := tupB (prog := prog) (w := w) (A := A) (R := wants (fun v s' => v ≠ .notImplemented ∧ Q v s') E) ne l b xs ys n n2 dd dd2 sl sl2 I J turn (fun i s' q => ⟨(fun x => nomatch x), hJ i s' q⟩) (fun s' q => ⟨(fun x => nomatch x), fin s' q⟩) ho ho2 h
  cases ne with
  | false => exact wpAny_richCompare_same_room (op := .Eq) ⟨_, ho, rfl⟩ ⟨_, ho2, rfl⟩ F.slot_tuple_eq (GQ.call_here F.slot_tuple_eq ⟨_, ho, rfl⟩ F.entry_tuple_eq (F.args_tuple_eq_2 _ _) key) hu
  | true => exact wpAny_richCompare_same_room (op := .NotEq) ⟨_, ho, rfl⟩ ⟨_, ho2, rfl⟩ F.slot_tuple_ne (GQ.call_here F.slot_tuple_ne ⟨_, ho, rfl⟩ F.entry_tuple_ne (F.args_tuple_ne_2 _ _) key) hu
end
end DQ
end

section
set_option Elab.async false
set_option linter.all false
set_option maxRecDepth 100000
set_option maxHeartbeats 4000000
/-! DL: == and != of data. -/
namespace DL
open PySem PySem.Spec PyProof.Rows L2
open Evl (Ex)
def flV : D → Option V
  | .non => some .non
  | .bl b => some (.bl b)
  | .int i => some (.int i)
  | .str x => some (.str x)
  | _ => none
def flatQ (x y : D) : Option Bool := match flV x, flV y with
  | some v, some u => some (eqV v u)
  | _, _ => none
/-- item by item, lists of one length -/
def eqL (f : D → D → Option Bool) : List D → List D → Option Bool
  | x :: xs, y :: ys => match f x y with
    | some true => eqL f xs ys
    | r => r
  | [], [] => some true
  | _, _ => none
/-- item by item, then the lengths -/
def eqT (f : D → D → Option Bool) : List D → List D → Option Bool
  | x :: xs, y :: ys => match f x y with
    | some true => eqT f xs ys
    | r => r
  | [], [] => some true
  | _, _ => some false
/-- x == y by data; u: of instances; none: nothing is said -/
def deq (u : Nat → List D → List D → Option Bool) : Nat → D → D → Option Bool
  | 0, x, y => flatQ x y
  | n + 1, x, y => match x, y with
    | .lst a, .lst b => if a.length = b.length then eqL (deq u n) a b else some false
    | .tup a, .tup b => eqT (deq u n) a b
    | .ins c fs, .ins c' gs => if c = c' then u c fs gs else none
    | x, y => flatQ x y
/-- the own == of the classes -/
structure UEq (X : Cx) (cs : CT) (k : Nat) (u : Nat → List D → List D → Option Bool) : Prop where
  of : ∀ c fs gs b, u c fs gs = some b → ∃ C fn f fd ps fm, ClsAt X.K cs c C fn ∧ PySem.W.findIn X.K (.ref C) "__eq__" = some (some (.ref f)) ∧ PySem.W.isFn X.K (.ref f) = true ∧ FnD false X.prog X.w X.K X.mg X.base k f fd ps (spD X.K cs 2 fm) ∧ Binds X.K fd ps [] ∧ ∀ p, fm [.ins c fs, .ins c gs] p = some (.bl b, p)
  rf : ∀ c fs b, u c fs fs = some b → b = true
  inj : ∀ c c' C fn fn', cs c = some (C, fn) → cs c' = some (C, fn') → c = c'

section
variable {K : PySem.W.Frag} {cs : CT} {ap : Addr} {B : Hp}
/-- a value is one datum -/
theorem rep_inj (hinj : ∀ c c' C fn fn', cs c = some (C, fn) → cs c' = some (C, fn') → c = c') (hT : ∀ a xs ys, SqT K B a xs → SqT K B a ys → xs = ys) (hL : ∀ a zs, B a = some (.lst zs) → ∀ ys, ¬ SqT K B a ys) (hI : ∀ a C dx fs, B a = some (.ins C dx fs) → ∀ ys, ¬ SqT K B a ys) (hP : ∀ ys, ¬ SqT K B ap ys) (hB : B ap = none) :
    ∀ d, ∀ e v, Rep K cs ap B d v → Rep K cs ap B e v → d = e := by
  intro d
  refine D.rec (motive_1 := fun d => ∀ e v, Rep K cs ap B d v → Rep K cs ap B e v → d = e) (motive_2 := fun ds => ∀ es xs, Reps K cs ap B ds xs → Reps K cs ap B es xs → ds = es) ?_ ?_ ?_ ?_ ?_ ?_ ?_ ?_ ?_ ?_ d
  · intro e v h h'
    simp only [Rep] at h
    subst h
    cases e <;> simp only [Rep] at h' <;> first | rfl | (cases h'; done) | (obtain ⟨_, _, z, _⟩ := h'; exact absurd z (fun y => nomatch y)) | (obtain ⟨_, _, _, _, _, z, _⟩ := h'; exact absurd z (fun y => nomatch y))
  · intro b e v h h'
    simp only [Rep] at h
    subst h
    cases e <;> simp only [Rep] at h' <;> first | (cases h'; rfl) | (cases h'; done) | (obtain ⟨_, _, z, _⟩ := h'; exact absurd z (fun y => nomatch y)) | (obtain ⟨_, _, _, _, _, z, _⟩ := h'; exact absurd z (fun y => nomatch y))
  · intro b e v h h'
    simp only [Rep] at h
    subst h
    cases e <;> simp only [Rep] at h' <;> first | (cases h'; rfl) | (cases h'; done) | (obtain ⟨_, _, z, _⟩ := h'; exact absurd z (fun y => nomatch y)) | (obtain ⟨_, _, _, _, _, z, _⟩ := h'; exact absurd z (fun y => nomatch y))
  · intro b e v h h'
    simp only [Rep] at h
    subst h
    cases e <;> simp only [Rep] at h' <;> first | (cases h'; rfl) | (cases h'; done) | (obtain ⟨_, _, z, _⟩ := h'; exact absurd z (fun y => nomatch y)) | (obtain ⟨_, _, _, _, _, z, _⟩ := h'; exact absurd z (fun y => nomatch y))
  · intro ds ih e v h h'
    simp only [Rep] at h
    obtain ⟨a, xs, rfl, h1, h2⟩ := h
    cases e <;> simp only [Rep] at h' <;> first | (cases h'; done) | skip
    · obtain ⟨a', ys, z, g1, g2⟩ := h'
      cases z
      rw [h1] at g1
      cases g1
      rw [ih _ _ h2 g2]
    · obtain ⟨a', ys, z, g1, g2⟩ := h'
      cases z
      exact absurd g1 (hL _ _ h1 _)
    · obtain ⟨a', C, fn, dx, fs, z, g0, g1, g2⟩ := h'
      cases z
      rw [h1] at g1
      cases g1
    · cases h'
      rw [hB] at h1
      cases h1
  · intro ds ih e v h h'
    simp only [Rep] at h
    obtain ⟨a, xs, rfl, h1, h2⟩ := h
    cases e <;> simp only [Rep] at h' <;> first | (cases h'; done) | skip
    · obtain ⟨a', ys, z, g1, g2⟩ := h'
      cases z
      exact absurd h1 (hL _ _ g1 _)
    · obtain ⟨a', ys, z, g1, g2⟩ := h'
      cases z
      rw [hT _ _ _ h1 g1] at h2
      rw [ih _ _ h2 g2]
    · obtain ⟨a', C, fn, dx, fs, z, g0, g1, g2⟩ := h'
      cases z
      exact absurd h1 (hI _ _ _ _ g1 _)
    · cases h'
      exact absurd h1 (hP _)
  · intro c ds ih e v h h'
    simp only [Rep] at h
    obtain ⟨a, C, fn, dx, fs, rfl, h0, h1, h2, h3⟩ := h
    cases e <;> simp only [Rep] at h' <;> first | (cases h'; done) | skip
    · obtain ⟨a', ys, z, g1, g2⟩ := h'
      cases z
      rw [h1] at g1
      cases g1
    · obtain ⟨a', ys, z, g1, g2⟩ := h'
      cases z
      exact absurd g1 (hI _ _ _ _ h1 _)
    · obtain ⟨a', C', fn', dx', fs', z, g0, g1, g2, g3⟩ := h'
      cases z
      rw [h1] at g1
      cases g1
      rw [hinj _ _ _ _ _ h0 g0, ih _ _ h3 g3]
    · cases h'
      rw [hB] at h1
      cases h1
  · intro e v h h'
    simp only [Rep] at h
    subst h
    cases e <;> simp only [Rep] at h' <;> first | rfl | (cases h'; done) | skip
    · obtain ⟨a', ys, z, g1, g2⟩ := h'
      cases z
      rw [hB] at g1
      cases g1
    · obtain ⟨a', ys, z, g1, g2⟩ := h'
      cases z
      exact absurd g1 (hP _)
    · obtain ⟨a', C, fn, dx, fs, z, g0, g1, g2⟩ := h'
      cases z
      rw [hB] at g1
      cases g1
  · intro es xs h h'
    simp only [Reps] at h
    subst h
    cases es with
    | nil => rfl
    | cons d ds => simp only [Reps] at h'; obtain ⟨_, _, z, _⟩ := h'; cases z
  · intro d ds i1 i2 es xs h h'
    simp only [Reps] at h
    obtain ⟨x, r, rfl, h1, h2⟩ := h
    cases es with
    | nil => simp only [Reps] at h'; cases h'
    | cons e es =>
      simp only [Reps] at h'
      obtain ⟨x', r', z, g1, g2⟩ := h'
      cases z
      rw [i1 _ _ h1 g1, i2 _ _ h2 g2]
end
section
variable {X : Cx} {cs : CT} {pins : List (Addr × Obj)} {σ : L2.St} {H : Hp} {s : Shared} {ap : Addr} {B : Hp} {p : Pt}
theorem tup_cls (I : Inv X pins σ H s) {a : Addr} {xs : List V} (h : SqT X.K H a xs) : ∃ o, s.heap.get? a = some o ∧ o.cls = .type "tuple" := by
  obtain ⟨its, r, ⟨o, h1, h2, _⟩, _⟩ := I.tuple h
  exact ⟨o, h1, h2⟩
theorem obj_cls (I : Inv X pins σ H s) {a : Addr} {xs ys : List V} (h : H a = some (.lst xs)) : ¬ SqT X.K H a ys := fun z => by
  obtain ⟨o, h1, h2⟩ := tup_cls I z
  obtain ⟨_, its, n, _, h3⟩ := (show ObjOk X.prog X.w H s.heap a (.lst xs) from I.hok a _ h)
  rw [h1] at h3
  cases h3
  exact absurd (Value.type.inj h2) (by decide)
theorem ins_cls (I : Inv X pins σ H s) {a C dx : Addr} {fs : List (Str × V)} {ys : List V} (h : H a = some (.ins C dx fs)) : ¬ SqT X.K H a ys := fun z => by
  obtain ⟨o, h1, h2⟩ := tup_cls I z
  obtain ⟨mA, J, _⟩ := ins_get I.hok h
  obtain ⟨od, J, _⟩ := J.look
  have e := J.at_
  rw [h1] at e
  cases e
  have e2 := J.cls
  rw [h2] at e2
  cases e2
/-- by the state: a value is one datum -/
theorem rep_one (I : Inv X pins σ H s) (hinj : ∀ c c' C fn fn', cs c = some (C, fn) → cs c' = some (C, fn') → c = c') (e : Ex B H) (hp : PotAt ap H p) (hb : B ap = none) {d d' : D} {v : V} (h : Rep X.K cs ap B d v) (h' : Rep X.K cs ap B d' v) : d = d' :=
  rep_inj hinj (fun a xs ys z z' => I.tuple_inj (Evl.ex_t e z) (Evl.ex_t e z')) (fun a zs z ys y => obj_cls (ys := ys) I (e _ _ z) (Evl.ex_t e y)) (fun a C dx fs z ys y => ins_cls (ys := ys) I (e _ _ z) (Evl.ex_t e y)) (fun ys y => obj_cls (ys := ys) I hp (Evl.ex_t e y)) hb d d' v h h'
theorem eqV_refl (v : V) (h : flatV v = true) : eqV v v = true := by
  cases v <;> simp [flatV] at h <;> simp [eqV]
theorem flat_refl {d : D} {b : Bool} (h : flatQ d d = some b) : b = true := by
  unfold flatQ at h
  cases d <;> simp [flV, eqV] at h <;> first | exact h.symm | exact h
theorem eqL_refl {f : D → D → Option Bool} (hf : ∀ d b, f d d = some b → b = true) : ∀ {ds : List D} {b : Bool}, eqL f ds ds = some b → b = true
  | [], b, h => by cases h; rfl
  | d :: ds, b, h => by
    unfold eqL at h
    rcases z : f d d with _ | _ | _
    · rw [z] at h; cases h
    · exact absurd (hf _ _ z) (by decide)
    · rw [z] at h; exact eqL_refl hf h
theorem eqT_refl {f : D → D → Option Bool} (hf : ∀ d b, f d d = some b → b = true) : ∀ {ds : List D} {b : Bool}, eqT f ds ds = some b → b = true
  | [], b, h => by cases h; rfl
  | d :: ds, b, h => by
    unfold eqT at h
    rcases z : f d d with _ | _ | _
    · rw [z] at h; cases h
    · exact absurd (hf _ _ z) (by decide)
    · rw [z] at h; exact eqT_refl hf h
theorem deq_refl {u : Nat → List D → List D → Option Bool} (hu : ∀ c fs b, u c fs fs = some b → b = true) : ∀ n d b, deq u n d d = some b → b = true
  | 0, d, b, h => flat_refl h
  | n + 1, d, b, h => by
    unfold deq at h
    cases d with
    | lst ds => dsimp only at h; rw [if_pos rfl] at h; exact eqL_refl (deq_refl hu n) h
    | tup ds => exact eqT_refl (deq_refl hu n) h
    | ins c ds => dsimp only at h; rw [if_pos rfl] at h; exact hu _ _ _ h
    | _ => exact flat_refl h
/-- behind a comparison: more may be known -/
def Aft (X : Cx) (pins : List (Addr × Obj)) (σ : L2.St) (ap : Addr) (B H : Hp) (p : Pt) (s' : Shared) : Prop := ∃ B' H', Inv X pins σ H' s' ∧ Nxt ap B H B' H' ∧ PotAt ap H' p
theorem rep_flat {d : D} {v w : V} (h : flV d = some w) (r : Rep X.K cs ap B d v) : v = w ∧ flatV v = true := by
  cases d <;> simp only [flV] at h <;> first | (cases h; done) | (cases h; simp only [Rep] at r; subst r; exact ⟨rfl, rfl⟩)
/-- u == v by the model, behind the data -/
def EqS (X : Cx) (cs : CT) (n : Nat) (f : D → D → Option Bool) : Prop :=
  ∀ (A : Around) (pins : List (Addr × Obj)) (s : Shared) (σ : L2.St) (H B : Hp) (ap : Addr) (p : Pt) (x y : D) (v w : V) (v' w' : Value) (b : Bool), Sub X n A → Inv X pins σ H s → Ex B H → PotAt ap H p → B ap = none → Rep X.K cs ap B x v → Rep X.K cs ap B y w → L2.RelV v v' → L2.RelV w w' → f x y = some b →
    wpAny (model X.prog X.w) A (eqBool v' w') (fun r s' => r = b ∧ Aft X pins σ ap B H p s') X.xe s
/-- v == u, v != u as an expression -/
def RcS (X : Cx) (cs : CT) (n : Nat) (f : D → D → Option Bool) : Prop :=
  ∀ (ne : Bool) (A : Around) (pins : List (Addr × Obj)) (s : Shared) (σ : L2.St) (H B : Hp) (ap : Addr) (p : Pt) (x y : D) (v w : V) (v' w' : Value) (b : Bool), Sub X n A → Inv X pins σ H s → Ex B H → PotAt ap H p → B ap = none → Rep X.K cs ap B x v → Rep X.K cs ap B y w → L2.RelV v v' → L2.RelV w w' → f x y = some b →
    wpAny (model X.prog X.w) A (richCompare (DQ.opC ne) v' w') (fun r s' => r = .bool (b != ne) ∧ Aft X pins σ ap B H p s') X.xe s
theorem eqS_flat : EqS X cs 0 flatQ := by
  intro A pins s σ H B ap p x y v w v' w' b sb I e hp hb rx ry rv rw' h
  unfold flatQ at h
  cases hx : flV x with
  | none => rw [hx] at h; cases h
  | some v1 =>
    cases hy : flV y with
    | none => rw [hx, hy] at h; cases h
    | some w1 =>
      rw [hx, hy] at h
      cases h
      obtain ⟨rfl, f1⟩ := rep_flat hx rx
      obtain ⟨rfl, f2⟩ := rep_flat hy ry
      exact eqAt_V (A := A) (s := s) rv rw' f1 f2 X.prog X.w X.xe _ ⟨rfl, B, H, I, Nxt.refl e, hp⟩
/-- one turn in a list's or a tuple's comparison -/
theorem eq_turn {n : Nat} {f : D → D → Option Bool} (h : EqS X cs n f) {A : Around} (sb : Sub X (n + 1) A) (g : (D → D → Option Bool) → List D → List D → Option Bool) (hg : ∀ x xs y ys, g f (x :: xs) (y :: ys) = match f x y with | some true => g f xs ys | r => r)
    {xs ys : List D} {vs ws : List V} {its its2 : List Value} (hp : PotAt ap H p) (hb : B ap = none) (r1 : Reps X.K cs ap B xs vs) (r2 : Reps X.K cs ap B ys ws) (r : Vals vs its) (r' : Vals ws its2) {b : Bool}
    (i : Nat) (h1 : i < its.toArray.size) (h2 : i < its2.toArray.size) (s' : Shared) (l : Aft X pins σ ap B H p s' ∧ g f (xs.drop i) (ys.drop i) = some b) :
    wpAny (model X.prog X.w) A.in1 (eqBool its.toArray[i] its2.toArray[i]) (fun r s2 => if r = true then Aft X pins σ ap B H p s2 ∧ g f (xs.drop (i + 1)) (ys.drop (i + 1)) = some b else Aft X pins σ ap B H p s2 ∧ b = false) X.xe s' := by
  obtain ⟨⟨B1, H1, I1, n1, hp1⟩, hq⟩ := l
  have g1 : its[i]? = some its.toArray[i] := by
    have h1' : i < its.length := by simpa using h1
    rw [List.getElem?_eq_getElem h1'] <;> simp
  have g2 : its2[i]? = some its2.toArray[i] := by
    have h2' : i < its2.length := by simpa using h2
    rw [List.getElem?_eq_getElem h2'] <;> simp
  have k1 : i < vs.length := by rw [r.length]; simpa using h1
  have k2 : i < ws.length := by rw [r'.length]; simpa using h2
  have j1 : i < xs.length := by rw [← r1.length]; exact k1
  have j2 : i < ys.length := by rw [← r2.length]; exact k2
  obtain ⟨u, hu, ru⟩ := r.get (List.getElem?_eq_getElem k1)
  obtain ⟨v, hv, rv⟩ := r'.get (List.getElem?_eq_getElem k2)
  rw [g1] at hu
  rw [g2] at hv
  rw [Option.some.inj hu, Option.some.inj hv]
  obtain ⟨x, hx, rx⟩ := r1.get (List.getElem?_eq_getElem j1)
  obtain ⟨y, hy, ry⟩ := r2.get (List.getElem?_eq_getElem j2)
  rw [List.getElem?_eq_getElem k1] at hx
  rw [List.getElem?_eq_getElem k2] at hy
  rw [Option.some.inj hx] at ru
  rw [Option.some.inj hy] at rv
  rw [List.drop_eq_getElem_cons j1, List.drop_eq_getElem_cons j2, hg] at hq
  have hbB : B1 ap = none := n1.nw _ (by rw [show H ap = _ from hp]; exact (fun z => nomatch z)) hb
  rcases z : f xs[i] ys[i] with _ | b'
  · rw [z] at hq; cases hq
  · rw [z] at hq
    refine wpAny_mono (h A.in1 pins s' σ H1 B1 ap p _ _ _ _ _ _ b' sb.in1 I1 n1.bh hp1 hbB (rx.mono n1.bb) (ry.mono n1.bb) ru rv z) (fun r s2 q => ?_) fun _ _ x => x
    obtain ⟨rfl, B2, H2, I2, n2, hp2⟩ := q
    have a2 : Aft X pins σ ap B H p s2 := ⟨B2, H2, I2, n1.trans n2, hp2⟩
    cases r with
    | true => rw [if_pos rfl]; exact ⟨a2, hq⟩
    | false => rw [if_neg (by decide)]; cases hq; exact ⟨a2, rfl⟩
theorem eqL_end {f : D → D → Option Bool} : ∀ {xs ys : List D} {b : Bool}, eqL f xs ys = some b → xs = [] ∨ ys = [] → b = true
  | [], [], b, h, _ => by cases h; rfl
  | [], y :: ys, b, h, _ => by cases h
  | x :: xs, [], b, h, _ => by cases h
  | x :: xs, y :: ys, b, h, z => by rcases z with z | z <;> cases z
theorem eqT_end {f : D → D → Option Bool} : ∀ {xs ys : List D} {b : Bool}, eqT f xs ys = some b → xs = [] ∨ ys = [] → b = (xs.length == ys.length)
  | [], [], b, h, _ => by cases h; rfl
  | [], y :: ys, b, h, _ => by cases h; rfl
  | x :: xs, [], b, h, _ => by cases h; rfl
  | x :: xs, y :: ys, b, h, z => by rcases z with z | z <;> cases z
theorem bne_flip (b : Bool) : (true != b) = !b := by cases b <;> rfl
theorem bne_f (b : Bool) : (false != b) = b := by cases b <;> rfl
/-- == of list, tuple, instance -/
theorem rcS_step {n k : Nat} {f : D → D → Option Bool} {u : Nat → List D → List D → Option Bool} (h : EqS X cs n f) (U : UEq X cs k u) (hk : k ≤ n + 1) {ne : Bool} {A : Around} {pins : List (Addr × Obj)} {s : Shared} {σ : L2.St} {H B : Hp} {ap : Addr} {p : Pt} {x y : D} {v w : V} {v' w' : Value} {b : Bool} (sb : Sub X (n + 1) A) (I : Inv X pins σ H s) (e : Ex B H) (hp : PotAt ap H p) (hb : B ap = none)
    (rx : Rep X.K cs ap B x v) (ry : Rep X.K cs ap B y w) (rv : L2.RelV v v') (rw' : L2.RelV w w')
    (hq : (∃ xs ys, x = .lst xs ∧ y = .lst ys ∧ (if xs.length = ys.length then eqL f xs ys else some false) = some b) ∨ (∃ xs ys, x = .tup xs ∧ y = .tup ys ∧ eqT f xs ys = some b) ∨ ∃ c fs gs, x = .ins c fs ∧ y = .ins c gs ∧ u c fs gs = some b ∧ ne = false) :
    wpAny (model X.prog X.w) A (richCompare (DQ.opC ne) v' w') (fun r s' => r = .bool (b != ne) ∧ Aft X pins σ ap B H p s') X.xe s := by
  have a0 : Aft X pins σ ap B H p s := ⟨B, H, I, Nxt.refl e, hp⟩
  rcases hq with ⟨xs, ys, rfl, rfl, hq⟩ | ⟨xs, ys, rfl, rfl, hq⟩ | ⟨c, fs, gs, rfl, rfl, hq, rfl⟩
  · simp only [Rep] at rx ry
    obtain ⟨l, vs, rfl, h1, r1⟩ := rx
    obtain ⟨l', ws, rfl, h2, r2⟩ := ry
    cases rv
    cases rw'
    have two : ∀ s', Aft X pins σ ap B H p s' → ∃ its its2 : List Value, Vals vs its ∧ Vals ws its2 ∧ (∃ k, s'.heap.get? l = some { cls := .type "list", data := .seq its.toArray k }) ∧ (∃ k, s'.heap.get? l' = some { cls := .type "list", data := .seq its2.toArray k }) := fun s' ⟨B1, H1, I1, n1, hp1⟩ => by
      obtain ⟨z, its, k, r, e1⟩ := I1.hok l _ (n1.bh _ _ (n1.bb _ _ h1))
      obtain ⟨z2, its2, k2, r2, e2⟩ := I1.hok l' _ (n1.bh _ _ (n1.bb _ _ h2))
      exact ⟨its, its2, r, r2, ⟨k, e1⟩, ⟨k2, e2⟩⟩
    by_cases hz : xs.length = ys.length
    · rw [if_pos hz] at hq
      refine DQ.rcL ne (N := vs.length) sb.room.units0 (fun i s' => Aft X pins σ ap B H p s' ∧ eqL f (xs.drop i) (ys.drop i) = some b) (fun _ s' => Aft X pins σ ap B H p s' ∧ b = false) (fun i s' q => ?_) (fun i s' q => ?_) (fun s' q => ?_) ⟨a0, hq⟩
      · obtain ⟨its, its2, r, r', k1, k2⟩ := two s' q.1
        exact ⟨its.toArray, its2.toArray, ⟨k1, k2, by rw [List.size_toArray, ← r.length], by rw [List.size_toArray, ← r'.length, r2.length, r1.length, hz]⟩, fun g1 g2 => eq_turn h sb eqL (fun _ _ _ _ => rfl) hp hb r1 r2 r r' i g1 g2 s' q⟩
      · obtain ⟨its, its2, r, r', k1, k2⟩ := two s' q.1
        exact ⟨⟨its.toArray, its2.toArray, k1, k2, by rw [List.size_toArray, ← r.length], by rw [List.size_toArray, ← r'.length, r2.length, r1.length, hz]⟩, by rw [q.2, bne_f], q.1⟩
      · have : b = true := eqL_end q.2 (.inl (List.drop_eq_nil_of_le (by rw [r1.length]; exact Nat.le_refl _)))
        exact ⟨by rw [this, bne_flip], q.1⟩
    · rw [if_neg hz] at hq
      cases hq
      obtain ⟨its, its2, r, r', ⟨k1, e1⟩, ⟨k2, e2⟩⟩ := two s a0
      exact DQ.rcU ne sb.room.units0 e1 e2 (by rw [List.size_toArray, List.size_toArray, ← r.length, ← r'.length, r2.length, r1.length]; exact hz) ⟨by rw [bne_f], a0⟩
  · simp only [Rep] at rx ry
    obtain ⟨l, vs, rfl, h1, r1⟩ := rx
    obtain ⟨l', ws, rfl, h2, r2⟩ := ry
    cases rv
    cases rw'
    obtain ⟨its, r, e1, z⟩ := I.tuple (Evl.ex_t e h1)
    obtain ⟨its2, r', e2, z2⟩ := I.tuple (Evl.ex_t e h2)
    refine DQ.rcT ne sb.room.units0 (fun i s' => Aft X pins σ ap B H p s' ∧ eqT f (xs.drop i) (ys.drop i) = some b) (fun _ s' => Aft X pins σ ap B H p s' ∧ b = false) e1 e2 (fun i g1 g2 s' q => eq_turn h sb eqT (fun _ _ _ _ => rfl) hp hb r1 r2 r r' i g1 g2 s' q) (fun i s' q => ⟨by rw [q.2, bne_f], q.1⟩) (fun s' q => ⟨?_, q.1⟩) ⟨a0, hq⟩
    have l1 : its.length = xs.length := by rw [← r.length, r1.length]
    have l2 : its2.length = ys.length := by rw [← r'.length, r2.length]
    have q2 := q.2
    rw [List.size_toArray, List.size_toArray, l1, l2] at q2
    have hb2 := eqT_end q2 (by
      rcases Nat.le_total xs.length ys.length with g | g
      · rw [Nat.min_eq_left g]; exact .inl (List.drop_eq_nil_of_le (Nat.le_refl _))
      · rw [Nat.min_eq_right g]; exact .inr (List.drop_eq_nil_of_le (Nat.le_refl _)))
    rw [List.length_drop, List.length_drop] at hb2
    rw [List.size_toArray, List.size_toArray, l1, l2, hb2]
    congr 2
    rw [Bool.eq_iff_iff, beq_iff_eq, beq_iff_eq]
    omega
  · obtain ⟨C, fn, f', fd, ps, fm, T, hs, hf, F, hbd, hfm⟩ := U.of c fs gs b hq
    obtain ⟨a', dx, fs', rfl, g1, g2, g3⟩ := rep_ins T rx
    obtain ⟨b', dy, gs', rfl, k1, k2, k3⟩ := rep_ins T ry
    cases rv
    cases rw'
    obtain ⟨mA, J, _⟩ := ins_get I.hok (e _ _ g1)
    obtain ⟨mB, J', _⟩ := ins_get I.hok (e _ _ k1)
    obtain ⟨od, J, _⟩ := J.look
    obtain ⟨od', J', _⟩ := J'.look
    obtain ⟨m, hF⟩ := I.fr
    refine PySem.W.cmp_K (op := .Eq) (tb := .ref C) sb.room.units0 hF I.ok.mod.kin J J'.type (by simp [PySem.W.notFirst]) hs hf ?_
    have hsp : spD X.K cs 2 fm [.ref a', .ref b'] H (fun v H' => v = .bl b ∧ ∃ B', Nxt ap B H B' H' ∧ PotAt ap H' p) E0 := ⟨ap, B, _, p, _, p, rfl, e, hp, hb, reps_cons rx (reps_cons ry reps_nil), hfm p, fun B' H' v n hp' r' => by
      simp only [Rep] at r'
      exact ⟨r', B', n, hp'⟩⟩
    have e0 : Env0 X.prog X.w X.K X.mg X.base A X.stack s H := by
      have z := I.env0
      exact ⟨by rw [sb.fr]; exact z.frames, z.mod, z.bs, z.bsz, z.funs, z.frf, z.hok, z.bare⟩
    have hl := F.len _ _ _ _ hsp
    have r2 : Vals [V.ref a', V.ref b'] [Value.ref a', Value.ref b'] := .cons rfl (.cons rfl .nil)
    refine wpAny_call (codeAny_mono (F.run A X.stack s H ⟨[.ref a', .ref b'], []⟩ [.ref a', .ref b'] [.ref a', .ref b'] _ E0 (sb.room.mono hk) (fun z => nomatch z) e0 (by
      have := hbd s [.ref a', .ref b'] I.kIn (by simpa using hl)
      simpa using this) r2 hsp) fun r s' hq => ?_)
    cases r with
    | error e => exact hq.elim
    | ok fl =>
      cases fl with
      | ret w =>
        obtain ⟨z, H', I', rz, ez, B', n', hp'⟩ := I.after hq
        subst ez
        cases rz
        exact ⟨by rw [show (b != false) = b by cases b <;> rfl], B', H', I', n', hp'⟩
      | next => exact hq.elim
      | brk => exact hq.elim
      | cont => exact hq.elim
theorem EqS.mono {n m : Nat} {f : D → D → Option Bool} (h : EqS X cs n f) (hn : n ≤ m) : EqS X cs m f := fun A pins s σ H B ap p x y v w v' w' b sb => h A pins s σ H B ap p x y v w v' w' b (sb.mono hn)
theorem deq_cases {u : Nat → List D → List D → Option Bool} {n : Nat} {x y : D} {b : Bool} (h : deq u (n + 1) x y = some b) :
    flatQ x y = some b ∨ (∃ xs ys, x = .lst xs ∧ y = .lst ys ∧ (if xs.length = ys.length then eqL (deq u n) xs ys else some false) = some b) ∨ (∃ xs ys, x = .tup xs ∧ y = .tup ys ∧ eqT (deq u n) xs ys = some b) ∨ ∃ c fs gs, x = .ins c fs ∧ y = .ins c gs ∧ u c fs gs = some b := by
  unfold deq at h
  split at h
  · exact .inr (.inl ⟨_, _, rfl, rfl, h⟩)
  · exact .inr (.inr (.inl ⟨_, _, rfl, rfl, h⟩))
  · split at h
    · rename_i hc
      subst hc
      exact .inr (.inr (.inr ⟨_, _, _, rfl, rfl, h⟩))
    · cases h
  · exact .inl h
theorem rep_ref {x y : D} {v w : V} {v' w' : Value} (h : (∃ xs ys, x = .lst xs ∧ y = .lst ys) ∨ (∃ xs ys, x = .tup xs ∧ y = .tup ys) ∨ ∃ c c' fs gs, x = .ins c fs ∧ y = .ins c' gs) (rx : Rep X.K cs ap B x v) (ry : Rep X.K cs ap B y w) : ∃ a b, v = .ref a ∧ w = .ref b := by
  rcases h with ⟨xs, ys, rfl, rfl⟩ | ⟨xs, ys, rfl, rfl⟩ | ⟨c, c', fs, gs, rfl, rfl⟩
  · simp only [Rep] at rx ry
    obtain ⟨a, _, h1, _⟩ := rx
    obtain ⟨b, _, h2, _⟩ := ry
    exact ⟨a, b, h1, h2⟩
  · simp only [Rep] at rx ry
    obtain ⟨a, _, h1, _⟩ := rx
    obtain ⟨b, _, h2, _⟩ := ry
    exact ⟨a, b, h1, h2⟩
  · simp only [Rep] at rx ry
    obtain ⟨a, _, _, _, _, h1, _⟩ := rx
    obtain ⟨b, _, _, _, _, h2, _⟩ := ry
    exact ⟨a, b, h1, h2⟩
theorem eqS_deq {k : Nat} {u : Nat → List D → List D → Option Bool} (U : UEq X cs k u) : ∀ n, EqS X cs (k + n) (deq u n)
  | 0 => EqS.mono eqS_flat (Nat.zero_le _)
  | n + 1 => by
    intro A pins s σ H B ap p x y v w v' w' b sb I e hp hb rx ry rv rw' h
    have key : ∀ (hr : ∃ a b, v = .ref a ∧ w = .ref b) (h2 : (∃ xs ys, x = .lst xs ∧ y = .lst ys ∧ (if xs.length = ys.length then eqL (deq u n) xs ys else some false) = some b) ∨ (∃ xs ys, x = .tup xs ∧ y = .tup ys ∧ eqT (deq u n) xs ys = some b) ∨ ∃ c fs gs, x = .ins c fs ∧ y = .ins c gs ∧ u c fs gs = some b),
        wpAny (model X.prog X.w) A (eqBool v' w') (fun r s' => r = b ∧ Aft X pins σ ap B H p s') X.xe s := by
      intro hr h2
      obtain ⟨a1, b1, rfl, rfl⟩ := hr
      cases rv
      cases rw'
      by_cases hab : a1 = b1
      · subst hab
        have hxy := rep_one I U.inj e hp hb rx ry
        subst hxy
        have hbt := deq_refl U.rf _ _ _ h
        subst hbt
        exact SeqAt.EqAt.same (A := A) (s := s) (.ref a1) X.prog X.w X.xe _ ⟨rfl, B, H, I, Nxt.refl e, hp⟩
      · refine GQ.eqBool_refG hab (wpAny_mono (rcS_step (ne := false) (n := k + n) (eqS_deq U n) U (by omega) sb I e hp hb rx ry rfl rfl (by
          rcases h2 with h2 | h2 | ⟨c, fs, gs, h3, h4, h5⟩
          · exact .inl h2
          · exact .inr (.inl h2)
          · exact .inr (.inr ⟨c, fs, gs, h3, h4, h5, rfl⟩))) (fun r s' q => ?_) fun _ _ x => x)
        exact ⟨b, by rw [q.1, show (b != false) = b by cases b <;> rfl], rfl, q.2⟩
    rcases deq_cases h with h1 | h1 | h1 | h1
    · exact EqS.mono eqS_flat (Nat.zero_le _) A pins s σ H B ap p x y v w v' w' b sb I e hp hb rx ry rv rw' h1
    · obtain ⟨xs, ys, hx, hy, _⟩ := id h1
      exact key (rep_ref (v' := v') (w' := w') (.inl ⟨xs, ys, hx, hy⟩) rx ry) (.inl h1)
    · obtain ⟨xs, ys, hx, hy, _⟩ := id h1
      exact key (rep_ref (v' := v') (w' := w') (.inr (.inl ⟨xs, ys, hx, hy⟩)) rx ry) (.inr (.inl h1))
    · obtain ⟨c, fs, gs, hx, hy, _⟩ := id h1
      exact key (rep_ref (v' := v') (w' := w') (.inr (.inr ⟨c, c, fs, gs, hx, hy⟩)) rx ry) (.inr (.inr h1))
/-- the top of x == y, x != y -/
def isIns : D → Bool
  | .ins _ _ => true
  | _ => false
def dEqO (u : Nat → List D → List D → Option Bool) (n : Nat) (ne : Bool) : D → D → Mo D := fun x y => if (isIns x && ne) = true then failM else match x, y with
    | .lst _, .lst _ => match deq u (n + 1) x y with
      | some b => retM (.bl (b != ne))
      | none => failM
    | .tup _, .tup _ => match deq u (n + 1) x y with
      | some b => retM (.bl (b != ne))
      | none => failM
    | .ins _ _, .ins _ _ => match deq u (n + 1) x y with
      | some b => retM (.bl (b != ne))
      | none => failM
    | _, _ => failM
def dEqF (ne : Bool) : D → D → Mo D := fun x y => match flV x with
  | some v => match flV y with
    | some w => if scal v w = true then retM (.bl (decide (v = w) != ne)) else failM
    | none => failM
  | none => failM
theorem dOr_cases {f g : D → D → Mo D} {x y : D} {p : Pt} {r : D × Pt} (h : dOr f g x y p = some r) : f x y p = some r ∨ g x y p = some r := by
  unfold dOr at h
  rcases z : f x y p with _ | w
  · rw [z] at h; exact .inr h
  · rw [z] at h; exact .inl h
def dEqR (u : Nat → List D → List D → Option Bool) (n : Nat) (ne : Bool) : D → D → Mo D := dOr (dEqF ne) (dEqO u n ne)
def rEqR (X : Cx) (cs : CT) (u : Nat → List D → List D → Option Bool) (n : Nat) (ne : Bool) : R2 := fun v w H Q => (scal v w = true ∧ Q (.bl (decide (v = w) != ne)) H) ∨
  ∃ ap B p x y b, Ex B H ∧ PotAt ap H p ∧ B ap = none ∧ Rep X.K cs ap B x v ∧ Rep X.K cs ap B y w ∧ ((∃ xs ys, x = .lst xs ∧ y = .lst ys) ∨ (∃ xs ys, x = .tup xs ∧ y = .tup ys) ∨ ∃ c c' fs gs, x = .ins c fs ∧ y = .ins c' gs ∧ ne = false) ∧ deq u (n + 1) x y = some b ∧
    ∀ B' H', Nxt ap B H B' H' → PotAt ap H' p → Q (.bl (b != ne)) H'
theorem opR_eqR {k : Nat} {u : Nat → List D → List D → Option Bool} (n : Nat) (U : UEq X cs k u) (hr : Room (k + n + 1) X.A) (ne : Bool) : OpR X (compareOp (DQ.opC ne)) (rEqR X cs u n ne) := by
  intro pins s σ H v w v' w' Q I rv rw' h
  rcases h with ⟨h, q⟩ | ⟨ap, B, p, x, y, b, e, hp, hb, rx, ry, hs, hq, q⟩
  · cases ne with
    | false => exact op_eq pins s σ H v w v' w' Q I rv rw' ⟨h, by rw [show (decide (v = w) != false) = decide (v = w) by cases decide (v = w) <;> rfl] at q; exact q⟩
    | true => exact op_ne pins s σ H v w v' w' Q I rv rw' ⟨h, by rw [show (decide (v = w) != true) = !decide (v = w) by cases decide (v = w) <;> rfl] at q; exact q⟩
  · have key : wpAny (model X.prog X.w) X.A (richCompare (DQ.opC ne) v' w') (fun r s' => r = .bool (b != ne) ∧ Aft X pins σ ap B H p s') X.xe s := by
      refine rcS_step (n := k + n) (eqS_deq U n) U (by omega) ⟨hr, rfl⟩ I e hp hb rx ry rv rw' ?_
      rcases hs with ⟨xs, ys, rfl, rfl⟩ | ⟨xs, ys, rfl, rfl⟩ | ⟨c, c', fs, gs, rfl, rfl, hne⟩
      · exact .inl ⟨xs, ys, rfl, rfl, hq⟩
      · exact .inr (.inl ⟨xs, ys, rfl, rfl, hq⟩)
      · unfold deq at hq
        dsimp only at hq
        split at hq
        · rename_i hc
          subst hc
          exact .inr (.inr ⟨c, fs, gs, rfl, rfl, hq, hne⟩)
        · cases hq
    have fin : wpAny (model X.prog X.w) X.A (richCompare (DQ.opC ne) v' w') (EP X pins σ Q) X.xe s := by
      refine wpAny_mono key (fun r s' z => ?_) fun _ _ x => x
      obtain ⟨rfl, B', H', I', n', hp'⟩ := z
      exact ⟨.bl (b != ne), H', I', rfl, q B' H' n' hp'⟩
    cases ne <;> exact fin
theorem opD_eqR {k : Nat} {u : Nat → List D → List D → Option Bool} (n : Nat) (U : UEq X cs k u) (hr : Room (k + n + 1) X.A) (ne : Bool) : OpD cs X (compareOp (DQ.opC ne)) (dEqR u n ne) := by
  refine ⟨_, opR_eqR n U hr ne, fun ap B H p x y v w Q d p' e hp hb rx ry hm q => ?_⟩
  have fin : ∀ b, deq u (n + 1) x y = some b → ((∃ xs ys, x = .lst xs ∧ y = .lst ys) ∨ (∃ xs ys, x = .tup xs ∧ y = .tup ys) ∨ ∃ c c' fs gs, x = .ins c fs ∧ y = .ins c' gs ∧ ne = false) → (∀ B' H', Nxt ap B H B' H' → PotAt ap H' p → Q (.bl (b != ne)) H') → rEqR X cs u n ne v w H Q :=
    fun b h1 h2 h3 => .inr ⟨ap, B, p, x, y, b, e, hp, hb, rx, ry, h2, h1, h3⟩
  rcases dOr_cases hm with z | z
  · unfold dEqF at z
    rcases hv : flV x with _ | v1
    · rw [hv] at z; cases z
    · rcases hw : flV y with _ | w1
      · rw [hv, hw] at z; cases z
      · rw [hv, hw] at z
        dsimp only at z
        split at z
        · rename_i hs
          cases z
          obtain ⟨rfl, _⟩ := rep_flat hv rx
          obtain ⟨rfl, _⟩ := rep_flat hw ry
          exact .inl ⟨hs, q B H _ (Nxt.refl e) hp (by simp only [Rep])⟩
        · cases z
  · unfold dEqO at z
    split at z
    · cases z
    · rename_i hne
      split at z
      · rename_i a b
        rcases hb' : deq u (n + 1) (.lst a) (.lst b) with _ | r
        · rw [hb'] at z; cases z
        · rw [hb'] at z
          cases z
          exact fin r hb' (.inl ⟨_, _, rfl, rfl⟩) fun B' H' n' hp' => q B' H' _ n' hp' (by simp only [Rep])
      · rename_i a b
        rcases hb' : deq u (n + 1) (.tup a) (.tup b) with _ | r
        · rw [hb'] at z; cases z
        · rw [hb'] at z
          cases z
          exact fin r hb' (.inr (.inl ⟨_, _, rfl, rfl⟩)) fun B' H' n' hp' => q B' H' _ n' hp' (by simp only [Rep])
      · rename_i c a c' b
        rcases hb' : deq u (n + 1) (.ins c a) (.ins c' b) with _ | r
        · rw [hb'] at z; cases z
        · rw [hb'] at z
          cases z
          refine fin r hb' (.inr (.inr ⟨_, _, _, _, rfl, rfl, ?_⟩)) fun B' H' n' hp' => q B' H' _ n' hp' (by simp only [Rep])
          cases ne with
          | false => rfl
          | true => exact absurd rfl hne
      · cases z
end
end DL
end

section
set_option Elab.async false
set_option linter.all false
set_option maxRecDepth 100000
set_option maxHeartbeats 4000000
/-! != between two instances whose class has an own == and no own !=. -/
namespace PySem.W
open PySem PySem.Calls PyProof.Rows Builtin
section
variable {prog : Program} {w : World} {A : Around} {E : Value → Shared → Prop} {s : Shared} {K : Frag} {x C L f : Addr} {h₀ : Heap} {m : Str → Option Value} {ox : Obj} {od : Option Obj} {b tb : Value}
theorem ne_bind (self : Value) : bindSpecial (.builtin "object.__ne__") self = pure (.builtin "object.__ne__", [self]) := PySem.F.cmp_object.ne.bind self
theorem ne_args (a b : Value) : argsOk "object.__ne__" ⟨[a, b], []⟩ := PySem.F.cmpArgs_ne a b
theorem ifBound_B {M : Model} {name i : Str} {id : String} {args : List Value} {Q : Option Value → Shared → Prop} (X : K.In s.heap) (I : InstAt s.heap x ox C od) (hs : findIn K (.ref C) name = some (some (.builtin id))) (hb : ∀ self, bindSpecial (.builtin id) self = pure (.builtin id, [self]))
    (h : wpAny M A (call (.builtin id) (.ref x :: args)) (fun v => Q (some v)) E s) : wpAny M A (callSpecialIfBound? (.ref x) name args) Q E s := by
  simp only [callSpecialIfBound?, bindSpecialIfBound?]
  refine wpAny_holding (wpAny_bind (wpAny_bind (wpAny_bind (I.type.here ((looks_findIn X hs).here ?_)))))
  refine wpAny_bind (wpAny_askSetting (wpAny_ite ?_))
  have fin : wpAny M A (call (.builtin id) ([.ref x] ++ args) >>= fun v => pure (some v)) Q E s := wpAny_bind (wpAny_mono h (fun v s' h' => wpAny_pure h') fun _ _ h' => h')
  rw [hb]
  split
  · exact wpAny_bind (wpAny_pure (wpAny_pure (by exact fin)))
  · exact wpAny_tryCatch (wpAny_bind (wpAny_pure (wpAny_pure (by exact fin))))
theorem objNe_K (X : K.In s.heap) (I : InstAt s.heap x ox C od) (he : findIn K (.ref C) "__eq__" = some (some (.ref f))) (hf : isFn K (.ref f) = true) (hu : A.units < cLine) {Q : Fin → Shared → Prop}
    (hcall : wpAny (model prog w) A (call (.ref f) [.ref x, b]) (fun v s' => ∃ c, v = .bool c ∧ Q (.done (.ret (.bool (!c)))) s') E s) :
    wpAny (model prog w) A (Builtin.«object.__ne__» ⟨[.ref x, b], []⟩) Q E s := by
  unfold Builtin.«object.__ne__»
  repeat (first
    | with_reducible refine wpAny_cRoomFor hu ?_
    | (refine wpAny_bind (m := callSpecialIfBound? (.ref x) (Str.ofString "__eq__") [b])
        (ifBound_K X I he hf (wpAny_mono hcall (fun r s' hr => by
          obtain ⟨c, rfl, hq⟩ := hr
          repeat (first | exact hq | exact wpAny_pure hq | exact wpAny_truthy_bool hq | (refine wpAny_bind (m := truthy (.bool _)) (wpAny_truthy_bool ?_)) | wp_step)) fun _ _ e => e)))
    | wp_step)
theorem cmpNe_K {Q : Value → Shared → Prop} (hu : A.units + 1 < cLine) (F : Fr h₀ L s.heap m) (X₀ : K.In h₀) (I : InstAt s.heap x ox C od) (hb : Looks (model prog w) s.heap (typeOf b) tb) (hn : notFirst K C tb = true)
    (hs : findIn K (.ref C) "__ne__" = some (some (.builtin "object.__ne__"))) (hm : mroIn K C (.type "object") = some true)
    (he : findIn K (.ref C) "__eq__" = some (some (.ref f))) (hf : isFn K (.ref f) = true)
    (h : wpAny (model prog w) A.in1 (call (.ref f) [.ref x, b]) (fun v s' => ∃ c, v = .bool c ∧ Q (.bool (!c)) s') E s) : wpAny (model prog w) A (richCompare .NotEq (.ref x) b) Q E s := by
  have X := X₀.keeps F.keep
  have one : wpAny (model prog w) A (tryCompare (.ref x) "__ne__" b) (fun r s' => ∃ v, r = some v ∧ Q v s') E s := by
    unfold tryCompare
    have inst : Looks (model prog w) s.heap (isInstance (.ref x) (.type "object")) true := I.type.andThen (looks_mroIn X hm)
    refine wpAny_bind (ifBound_B (name := "__ne__") (i := "__ne__") X I hs ne_bind (wpAny_call (codeAny_call_builtin PySem.F.cmp_object.ne.plain PySem.F.cmpEntry_ne
      (check_slot PySem.F.cmpKind_ne PySem.F.cmpSplit_ne inst (ne_args _ _) (objNe_K (A := A.in1) X I he hf hu (wpAny_mono h (fun v s' hv => ?_) fun _ _ e => e))))))
    obtain ⟨c, rfl, hq⟩ := hv
    first | exact ⟨c, rfl, wpAny_pure ⟨_, rfl, hq⟩⟩ | exact ⟨c, rfl, wpAny_pure (wpAny_pure ⟨_, rfl, hq⟩)⟩ | exact ⟨c, rfl, ⟨_, rfl, hq⟩⟩
  unfold richCompare
  simp only [oneThing_ref]
  refine wpAny_holding (wpAny_bind (wpAny_cRoomFor (Nat.lt_of_succ_lt hu) ?_))
  rw [cmpInfo_NotEq]
  dsimp only
  refine wpAny_bind (I.type.here (wpAny_bind (hb.here ?_)))
  split
  · rename_i q
    have e : subIn K tb (.ref C) = some false := by
      rcases Bool.or_eq_true_iff.mp hn with e | e
      · rw [beq_iff_eq.mp e] at q; simp at q
      · exact beq_iff_eq.mp e
    refine wpAny_bind ((looks_subIn X e).here ?_)
    simp only [Bool.false_eq_true, if_false]
    refine wpAny_bind (wpAny_mono one (fun r s' z => ?_) fun _ _ e => e)
    obtain ⟨v, rfl, hq⟩ := z
    exact wpAny_pure hq
  · refine wpAny_bind (wpAny_pure ?_)
    simp only [Bool.false_eq_true, if_false]
    refine wpAny_bind (wpAny_mono one (fun r s' z => ?_) fun _ _ e => e)
    obtain ⟨v, rfl, hq⟩ := z
    exact wpAny_pure hq
end
end PySem.W
end

section
set_option Elab.async false
set_option linter.all false
set_option maxRecDepth 100000
set_option maxHeartbeats 4000000
/-! DL: repr of data, own __repr__ among them. -/
namespace DL
open PySem PySem.Spec PyProof.Rows L2
open Evl (Ex)
open PySem.Builtin
def flT : D → Option Str
  | .non => some "None"
  | .bl b => some (if b then "True" else "False")
  | .int i => if i.natAbs.log2 < 1920 then some (toString i) else none
  | .str x => some (reprText x)
  | _ => none
def repL (f : D → Option Str) : List D → Option (List Str)
  | [] => some []
  | d :: ds => match f d with
    | some t => match repL f ds with
      | some ts => some (t :: ts)
      | none => none
    | none => none
/-- the text of a datum; u: of an instance -/
def repT (u : Nat → List D → Option Str) : Nat → D → Option Str
  | 0, d => flT d
  | n + 1, d => match d with
    | .lst ds => match repL (repT u n) ds with
      | some ts => some (listText ts)
      | none => none
    | .tup ds => match repL (repT u n) ds with
      | some ts => some (tupleText ts)
      | none => none
    | .ins c fs => u c fs
    | d => flT d
theorem repL_get {f : D → Option Str} : ∀ {ds : List D} {ts : List Str} {i : Nat} {d : D}, repL f ds = some ts → ds[i]? = some d → ∃ t, f d = some t ∧ ts[i]? = some t
  | [], _, _, _, _, h => by simp at h
  | d :: ds, ts, i, d', h, hi => by
    unfold repL at h
    rcases z : f d with _ | t
    · rw [z] at h; cases h
    · rw [z] at h
      rcases z2 : repL f ds with _ | ts'
      · rw [z2] at h; cases h
      · rw [z2] at h
        cases h
        cases i with
        | zero => simp at hi; subst hi; exact ⟨t, z, rfl⟩
        | succ i =>
          simp at hi
          obtain ⟨t', h1, h2⟩ := repL_get z2 hi
          exact ⟨t', h1, by simpa using h2⟩
theorem repL_len {f : D → Option Str} : ∀ {ds : List D} {ts : List Str}, repL f ds = some ts → ts.length = ds.length
  | [], _, h => by cases h; rfl
  | d :: ds, ts, h => by
    unfold repL at h
    rcases z : f d with _ | t
    · rw [z] at h; cases h
    · rw [z] at h
      rcases z2 : repL f ds with _ | ts'
      · rw [z2] at h; cases h
      · rw [z2] at h
        cases h
        rw [List.length_cons, List.length_cons, repL_len z2]
theorem size_mem {d : D} {ds : List D} (h : d ∈ ds) : sizeOf d < sizeOf (D.lst ds) ∧ sizeOf d < sizeOf (D.tup ds) := by
  have := List.sizeOf_lt_of_mem h
  constructor
  · rw [D.lst.sizeOf_spec]; omega
  · rw [D.tup.sizeOf_spec]; omega
section
variable {A : Around} {args : Args}
theorem loop_depth : (A.under (.builtin "list.__repr__.loop" args)).depth = A.depth + 1 := by
  first | rfl | simp [Around.under, Code.weight, Code.isCreation, Code.isGuard, Code.isCaller, Code.frames, Code.isFrame, guardIds]
theorem loop_frames : (A.under (.builtin "list.__repr__.loop" args)).frames = A.frames := by
  first | rfl | simp [Around.under, Code.envs, Code.isFrame, pushEnvs]
theorem loop_hd : (A.under (.builtin "list.__repr__.loop" args)).handled = A.handled := rfl
theorem tupr_depth {id : String} (h : id = "tuple.__repr__" ∨ id = "tuple.__repr__.under") : (A.under (.builtin id args)).depth = A.depth + 1 := by
  rcases h with rfl | rfl
  · first | rfl | simp [Around.under, Code.weight, Code.isCreation, Code.isGuard, Code.isCaller, Code.frames, Code.isFrame, guardIds]
  · first | rfl | simp [Around.under, Code.weight, Code.isCreation, Code.isGuard, Code.isCaller, Code.frames, Code.isFrame, guardIds]
theorem tupr_frames {id : String} (h : id = "tuple.__repr__" ∨ id = "tuple.__repr__.under") : (A.under (.builtin id args)).frames = A.frames := by
  rcases h with rfl | rfl
  · first | rfl | simp [Around.under, Code.envs, Code.isFrame, pushEnvs]
  · first | rfl | simp [Around.under, Code.envs, Code.isFrame, pushEnvs]
end
/-- the guards under way are of greater data -/
def GCl (K : PySem.W.Frag) (cs : CT) (ap : Addr) (B : Hp) (g : List Code) (d : D) : Prop := ∀ id v rest kw, Code.builtin id ⟨v :: rest, kw⟩ ∈ g → ∃ a e, v = .ref a ∧ Rep K cs ap B e (.ref a) ∧ sizeOf d < sizeOf e
theorem GCl.mono {K : PySem.W.Frag} {cs : CT} {ap : Addr} {B B' : Hp} {g : List Code} {d : D} (h : GCl K cs ap B g d) (e : Ex B B') : GCl K cs ap B' g d := fun id v rest kw hm => by
  obtain ⟨a, x, h1, h2, h3⟩ := h id v rest kw hm
  exact ⟨a, x, h1, h2.mono e, h3⟩
theorem GCl.push {K : PySem.W.Frag} {cs : CT} {ap : Addr} {B : Hp} {g : List Code} {d e : D} {a : Addr} {id : String} {rest : List Value} (h : GCl K cs ap B g e) (r : Rep K cs ap B e (.ref a)) (hs : sizeOf d < sizeOf e) : GCl K cs ap B (.builtin id ⟨.ref a :: rest, []⟩ :: g) d := fun id' v rest' kw hm => by
  rcases List.mem_cons.mp hm with z | hm
  · cases z
    exact ⟨a, e, rfl, r, hs⟩
  · obtain ⟨b, x, h1, h2, h3⟩ := h id' v rest' kw hm
    exact ⟨b, x, h1, h2, Nat.lt_trans hs h3⟩
/-- the own __repr__ of the classes -/
structure URep (X : Cx) (cs : CT) (k : Nat) (u : Nat → List D → Option Str) : Prop where
  of : ∀ c fs t, u c fs = some t → ∃ C fn f fd ps fm, ClsAt X.K cs c C fn ∧ PySem.W.findIn X.K (.ref C) "__repr__" = some (some (.ref f)) ∧ PySem.W.isFn X.K (.ref f) = true ∧ FnD false X.prog X.w X.K X.mg X.base k f fd ps (spD X.K cs 1 fm) ∧ Binds X.K fd ps [] ∧ ∀ p, fm [.ins c fs] p = some (.str t, p)
  inj : ∀ c c' C fn fn', cs c = some (C, fn) → cs c' = some (C, fn') → c = c'
theorem str_vals : ∀ {acc : List Str} {its : List Value}, Vals (acc.map V.str) its → ∃ done : List (Str × Tok), its = strValues done ∧ done.map (·.1) = acc
  | [], _, h => by cases h; exact ⟨[], rfl, rfl⟩
  | x :: acc, its, h => by
    cases h with
    | cons r t =>
      obtain ⟨tk, rfl⟩ := r
      obtain ⟨done, rfl, h2⟩ := str_vals t
      exact ⟨(x, tk) :: done, rfl, by rw [List.map_cons, h2]⟩
section
variable {X : Cx} {cs : CT}
def RepS (X : Cx) (cs : CT) (n : Nat) (f : D → Option Str) : Prop :=
  ∀ (A : Around) (g : List Code) (pins : List (Addr × Obj)) (s : Shared) (σ : L2.St) (H B : Hp) (ap : Addr) (p : Pt) (base : Nat) (d : D) (v : V) (v' : Value) (t : Str), Sub X n A → A.guards = some g → GCl X.K cs ap B g d → Inv X pins σ H s → Ex B H → PotAt ap H p → B ap = none → Rep X.K cs ap B d v → L2.RelV v v' → f d = some t → base + t.length ≤ sizeLine →
    wpAny (model X.prog X.w) A (pyReprUnder base v') (fun out s' => out = t ∧ Aft X pins σ ap B H p s') X.xe s
theorem RepS.mono {n m : Nat} {f : D → Option Str} (h : RepS X cs n f) (hn : n ≤ m) : RepS X cs m f := fun A g pins s σ H B ap p base d v v' t sb => h A g pins s σ H B ap p base d v v' t (sb.mono hn)
theorem repS_flat : RepS X cs 0 flT := by
  intro A g pins s σ H B ap p base d v v' t sb hg gc I e hp hb r rv h hz
  have fin : ∀ tk, Aft X pins σ ap B H p { s with toks := tk } := fun tk => ⟨B, H, I.tok _, Nxt.refl e, hp⟩
  cases d with
  | non =>
    simp only [Rep] at r
    subst r
    cases rv
    cases h
    exact ReprIs.none base hz A _ s _ fun tk => ⟨rfl, fin tk⟩
  | bl b =>
    simp only [Rep] at r
    subst r
    cases rv
    cases h
    exact ReprIs.bool b base hz A _ s _ fun tk => ⟨rfl, fin tk⟩
  | int i =>
    simp only [Rep] at r
    subst r
    obtain ⟨tk0, rfl⟩ := rv
    unfold flT at h
    dsimp only at h
    split at h
    · rename_i hi
      cases h
      exact ReprIs.int tk0 hi base hz A _ s _ fun tk => ⟨rfl, fin tk⟩
    · cases h
  | str x =>
    simp only [Rep] at r
    subst r
    obtain ⟨tk0, rfl⟩ := rv
    cases h
    exact ReprIs.str x tk0 (by omega) base hz A _ s _ fun tk => ⟨rfl, fin tk⟩
  | _ => cases h
theorem gcl_clear {pins : List (Addr × Obj)} {s : Shared} {σ : L2.St} {H B : Hp} {ap : Addr} {p : Pt} {g : List Code} {d : D} {a : Addr} (hinj : ∀ c c' C fn fn', cs c = some (C, fn) → cs c' = some (C, fn') → c = c') (I : Inv X pins σ H s) (e : Ex B H) (hp : PotAt ap H p) (hb : B ap = none) (r : Rep X.K cs ap B d (.ref a)) (gc : GCl X.K cs ap B g d) : Clear g a := by
  intro id v rest kw hm z
  obtain ⟨b, x, h1, h2, h3⟩ := gc id v rest kw hm
  rw [h1] at z
  cases z
  rw [rep_one I hinj e hp hb r h2] at h3
  exact Nat.lt_irrefl _ h3
theorem sub_loop {n : Nat} {A : Around} {args : Args} (sb : Sub X (n + 1) A) : Sub X n (A.under (.builtin "list.__repr__.loop" args)) :=
  ⟨⟨by rw [loop_hd]; exact sb.room.hd, by rw [loop_depth]; have := sb.room.dp; omega, by rw [units_under_list_loop]; have := sb.room.un; omega⟩, by rw [loop_frames]; exact sb.fr⟩
theorem sub_tupr {n : Nat} {A : Around} {args : Args} {id : String} (h : id = "tuple.__repr__" ∨ id = "tuple.__repr__.under") (hu : (A.under (.builtin id args)).units = A.units + 1) (sb : Sub X (n + 1) A) : Sub X n (A.under (.builtin id args)) :=
  ⟨⟨sb.room.hd, by rw [tupr_depth h]; have := sb.room.dp; omega, by rw [hu]; have := sb.room.un; omega⟩, by rw [tupr_frames h]; exact sb.fr⟩
theorem take_str {ts : List Str} {i : Nat} {t : Str} (h : ts[i]? = some t) : ts.take i ++ [t] = ts.take (i + 1) := by
  rw [List.take_add_one, h]; rfl
/-- the list's loop -/
theorem repr_loop {n : Nat} {f : D → Option Str} (h : RepS X cs n f) {A : Around} (sb : Sub X (n + 1) A) {g : List Code} {pins : List (Addr × Obj)} {σ : L2.St} {H B : Hp} {ap a P : Addr} {p : Pt} {ds : List D} {vs : List V} {ts : List Str} {base : Nat} {R : Result → Shared → Prop}
    (hg : A.guards = some g) (gc : GCl X.K cs ap B g (.lst ds)) (hap : B ap = none) (hpH : PotAt ap H p) (hx : ∀ e s, X.xe e s → R (.error e) s) (ha : B a = some (.lst vs)) (r : Reps X.K cs ap B ds vs) (ht : repL f ds = some ts) (hP : H P = none) (hBP : B P = none) (hsz : base + (listText ts).length ≤ sizeLine)
    (hR : ∀ s' u, Aft X pins σ ap B H p s' → R (.ok (.ret (.str (listText ts) u))) s') :
    ∀ (k i : Nat) (s : Shared) (B1 H1 : Hp), ds.length - i = k → i ≤ ds.length → Inv X pins σ H1 s → Nxt ap B H B1 H1 → PotAt ap H1 p → H1 P = some (.lst ((ts.take i).map V.str)) → B1 P = none →
    codeAny (model X.prog X.w) A (.builtin "list.__repr__.loop" ⟨[.ref a, rawInt i, .ref P, rawInt ((base + piled (ts.take i) : Nat) : Int)], []⟩) R s := by
  have hX : (listText ts).length = (textFrom 0 "[" ts).length + 1 := by
    show (textFrom 0 "[" ts ++ "]").length = _
    rw [strLen_append]; rfl
  have hL := textFrom_len ts 0 "["
  have hlen := repL_len ht
  have hsz2 : ∀ t ∈ ts, t.length ≤ sizeLine := fun t ht => by
    have h2 := hL.2.1 t ht
    omega
  have hsz3 : (listText ts).length ≤ sizeLine := by omega
  have hp3 := piled_le_listText ts
  have rl : Rep X.K cs ap B (.lst ds) (.ref a) := by simp only [Rep]; exact ⟨a, vs, rfl, ha, r⟩
  have Pap : P ≠ ap := fun z => by rw [z] at hP; rw [show H ap = _ from hpH] at hP; cases hP
  intro k
  induction k with
  | zero =>
    intro i s B1 H1 hk hi I n1 hp1 hPl hB1
    have hin : i = ds.length := by omega
    obtain ⟨its, m, rv, ho, _⟩ := I.lst (n1.bh _ _ (n1.bb _ _ ha))
    obtain ⟨its2, m2, rv2, ho2, _⟩ := I.lst hPl
    obtain ⟨done, hd1, hd2⟩ := str_vals rv2
    have hl1 : its.length = ds.length := by rw [← rv.length, r.length]
    refine codeAny_builtin F.entry_list_repr_loop ?_
    show wpAny _ _ («list.__repr__.loop» ⟨[.ref a, .int i 0, .ref P, .int ((base + piled (ts.take i) : Nat) : Int) 0], []⟩) _ _ s
    rw [repr_loop_tree]
    refine wpAny_bind (wpAny_listItems ho rfl ?_)
    have hnone : its.toArray[(i : Int).toNat]? = none := by simp [hin, hl1]
    simp only [hnone]
    unfold reprEnd
    refine wpAny_bind (wpAny_listItems ho2 rfl ?_)
    rw [show its2.toArray.toList = strValues done by rw [hd1], repr_fold]
    refine wpAny_bind (wpAny_pure ?_)
    have hall : done.map (·.1) = ts := by rw [hd2, hin, ← hlen, List.take_length]
    rw [hall]
    refine wpAny_bind (wpAny_mkStr (wpAny_pure ?_) hsz3)
    exact hR _ _ ⟨B1, H1, I.tok _, n1, hp1⟩
  | succ k ih =>
    intro i s B1 H1 hk hi I n1 hp1 hPl hB1
    have hlt : i < ds.length := by omega
    obtain ⟨its, m, rv, ho, _⟩ := I.lst (n1.bh _ _ (n1.bb _ _ ha))
    have hl1 : its.length = ds.length := by rw [← rv.length, r.length]
    obtain ⟨w, hw, rw'⟩ := r.get (List.getElem?_eq_getElem hlt)
    obtain ⟨w', hw', rww⟩ := rv.get hw
    obtain ⟨t, hft, hti⟩ := repL_get ht (List.getElem?_eq_getElem hlt)
    have hp1' := piled_take_succ hti
    have hp2' := piled_take_le ts (i + 1)
    refine codeAny_builtin F.entry_list_repr_loop ?_
    show wpAny _ _ («list.__repr__.loop» ⟨[.ref a, .int i 0, .ref P, .int ((base + piled (ts.take i) : Nat) : Int) 0], []⟩) _ _ s
    rw [repr_loop_tree]
    refine wpAny_bind (wpAny_listItems ho rfl ?_)
    have hsome : its.toArray[(i : Int).toNat]? = some w' := by simpa using hw'
    simp only [hsome]
    rw [Int.toNat_natCast]
    have hmem : ds[i] ∈ ds := List.getElem_mem hlt
    have apH : H ap ≠ none := by rw [show H ap = _ from hpH]; exact (fun z => nomatch z)
    have gc' : GCl X.K cs ap B1 (.builtin "list.__repr__.loop" ⟨[.ref a, .int i 0, .ref P, .int ((base + piled (ts.take i) : Nat) : Int) 0], []⟩ :: g) ds[i] := (gc.push rl (size_mem hmem).1).mono n1.bb
    refine wpAny_bind (wpAny_holding (wpAny_mono (h _ _ pins s σ H1 B1 ap p (base + piled (ts.take i) + 1) ds[i] w w' t (sub_loop sb) (guards_under_guard (isGuard_list_loop _) hg) gc' I n1.bh hp1 (n1.nw _ apH hap) (rw'.mono n1.bb) rww hft (by omega)) (fun out s2 q => ?_) fun e s2 q => hx e s2 q))
    obtain ⟨rfl, B2, H2, I2, n2, hp2⟩ := q
    refine wpAny_bind (wpAny_mkStr ?_ (hsz2 out (List.mem_of_getElem? hti)))
    refine wpAny_bind ?_
    show wpAny _ _ (updateSeq P _) _ _ _
    have hP2 : H2 P = some (.lst ((ts.take i).map V.str)) := n2.fr _ _ hPl Pap
    have hB2 : B2 P = none := n2.nw _ (by rw [hPl]; exact (fun z => nomatch z)) hB1
    obtain ⟨its2, m2, rv2, ho2, hz2⟩ := I2.lst hP2
    have hq2 : its2.length ≤ sizeLine := by rw [← rv2.length]; exact hz2
    have hti2 : (ts.take i).length ≤ i := by rw [List.length_take]; omega
    have hnew : ((ts.take (i + 1)).map V.str).length ≤ sizeLine := by
      rw [List.length_map, List.length_take]
      have h1 := hL.1
      rw [if_neg (Nat.lt_irrefl 0)] at h1
      omega
    have hv2 : Vals ((ts.take (i + 1)).map V.str) (its2 ++ [.str out s2.toks]) := by
      rw [← take_str hti, List.map_append]
      exact rv2.append (.cons ⟨_, rfl⟩ .nil)
    refine wpAny_updateSeq (o := { cls := .type "list", data := .seq its2.toArray m2 }) ho2 rfl (wpAny_pure ⟨F.quiet_list_repr_loop _, ?_⟩) (by simpa using hq2) (by rw [Array.size_push]; simpa using hq2)
    have e1 : ((i : Int) + 1) = ((i + 1 : Nat) : Int) := by omega
    have e2 : base + piled (ts.take i) + (out.length + 2) = base + piled (ts.take (i + 1)) := by omega
    rw [e1, e2]
    have I3 := I2.lset (t' := s2.toks + 1) (f := (·.push (Value.str out s2.toks))) (its' := its2 ++ [.str out s2.toks]) hP2 ho2 (by simp) hv2 hnew
    have n12 := n1.trans n2
    refine ih (i + 1) _ B2 (upd H2 P (.lst ((ts.take (i + 1)).map V.str))) (by omega) hlt I3 ?_ ?_ upd_same hB2
    · refine ⟨n12.bb, fun b o hbo => ?_, n12.nw, fun b o hbo hap' => ?_, fun b hbo => ?_⟩
      · have e9 : b ≠ P := fun z => by rw [z, hB2] at hbo; cases hbo
        rw [upd_ne e9]; exact n12.bh _ _ hbo
      · have e9 : b ≠ P := fun z => by rw [z, hP] at hbo; cases hbo
        rw [upd_ne e9]; exact n12.fr _ _ hbo hap'
      · have e9 : b ≠ P := fun z => hbo (by rw [z]; exact hP)
        rw [upd_ne e9]; exact n12.nn _ hbo
    · unfold PotAt; rw [upd_ne (fun z => Pap z.symm)]; exact hp2
/-- what repr of a list runs, behind its own check -/
theorem list_at {n : Nat} {f : D → Option Str} (h : RepS X cs n f) {A : Around} (sb : Sub X (n + 1) A) {g : List Code} {pins : List (Addr × Obj)} {s : Shared} {σ : L2.St} {H B : Hp} {ap a : Addr} {p : Pt} {x : D} {ds : List D} {vs : List V} {ts : List Str} {base : Nat} {R : Result → Shared → Prop}
    (hinj : ∀ c c' C fn fn', cs c = some (C, fn) → cs c' = some (C, fn') → c = c') (hg : A.guards = some g) (gc : GCl X.K cs ap B g (.lst (x :: ds))) (hap : B ap = none) (hpH : PotAt ap H p) (hx : ∀ e s, X.xe e s → R (.error e) s) (I : Inv X pins σ H s) (e : Ex B H) (ha : B a = some (.lst vs)) (r : Reps X.K cs ap B (x :: ds) vs)
    (ht : repL f (x :: ds) = some ts) (hsz : base + (listText ts).length ≤ sizeLine) (hR : ∀ s' u, Aft X pins σ ap B H p s' → R (.ok (.ret (.str (listText ts) u))) s') :
    wpAny (model X.prog X.w) A.in1 (Builtin.listReprAt base ⟨[.ref a], []⟩) (GQ.FinOf X.prog X.w A R) (fun e s' => R (.error e) s') s := by
  have rl : Rep X.K cs ap B (.lst (x :: ds)) (.ref a) := by simp only [Rep]; exact ⟨a, vs, rfl, ha, r⟩
  have hca := gcl_clear hinj I e hpH hap rl gc
  obtain ⟨its, m, rv, ho, hz⟩ := I.lst (e _ _ ha)
  obtain ⟨y, its', rfl⟩ : ∃ y its', its = y :: its' := by
    cases its with
    | nil => have := rv.length; rw [r.length] at this; simp at this
    | cons y its' => exact ⟨y, its', rfl⟩
  refine wpAny_list_repr_head (A := A.in1) hg (fun v rest kw hm => listSameRef_of_ne (hca _ _ _ _ hm)) ho rfl ?_
  refine wpAny_bind (m := newList []) (wpAny_newObj_type ?_)
  refine wpAny_pure ⟨F.quiet_list_repr_loop _, ?_⟩
  have hP : H s.heap.objs.size = none := I.fresh
  have hBP : B s.heap.objs.size = none := Evl.fresh_back e hP
  have I2 := I.lnew (its := []) (ys := []) (t' := s.toks) .nil (Nat.zero_le _)
  have n0 : Nxt ap B H B (upd H s.heap.objs.size (.lst [])) := Nxt.newU e hP
  exact repr_loop (P := s.heap.objs.size) h sb hg gc hap hpH hx ha r ht hP hBP hsz hR _ 0 _ B _ rfl (Nat.zero_le _) I2 n0 (hpH.new hP) upd_same hBP
theorem list_at0 {pins : List (Addr × Obj)} {s : Shared} {σ : L2.St} {H B : Hp} {ap a : Addr} {vs : List V} (I : Inv X pins σ H s) (e : Ex B H) (ha : B a = some (.lst vs)) (r : Reps X.K cs ap B [] vs) :
    ∃ o n, s.heap.get? a = some o ∧ o.cls = .type "list" ∧ o.data = .seq #[] n := by
  obtain ⟨its, m, rv, ho, hz⟩ := I.lst (e _ _ ha)
  have : its = [] := by
    cases its with
    | nil => rfl
    | cons y t => have := rv.length; rw [r.length] at this; simp at this
  subst this
  exact ⟨_, m, ho, rfl, rfl⟩
/-- a tuple's items -/
theorem tup_fold {n : Nat} {f : D → Option Str} (h : RepS X cs n f) {A : Around} (sb : Sub X n A) {g : List Code} {pins : List (Addr × Obj)} {σ : L2.St} {H B : Hp} {ap : Addr} {p : Pt} (hg : A.guards = some g) (hap : B ap = none) (hpH : PotAt ap H p) :
    ∀ (ds : List D) (vs : List V) (its : List Value) (ts : List Str) (acc : Array Str) (m : Nat) (s : Shared) (B1 H1 : Hp) (Q : (Array Str × Nat) → Shared → Prop), (∀ d ∈ ds, GCl X.K cs ap B g d) → Reps X.K cs ap B ds vs → Vals vs its → repL f ds = some ts → m + piled ts ≤ sizeLine → Inv X pins σ H1 s → Nxt ap B H B1 H1 → PotAt ap H1 p →
    (∀ s', Aft X pins σ ap B H p s' → Q ⟨acc ++ ts.toArray, m + piled ts⟩ s') → wpAny (model X.prog X.w) A (forIn its (⟨acc, m⟩ : (Array Str × Nat)) tupBody) Q X.xe s := by
  intro ds
  induction ds with
  | nil =>
    intro vs its ts acc m s B1 H1 Q _ r rv ht _ I n1 hp1 k
    simp only [Reps] at r
    subst r
    cases rv
    cases ht
    have h0 := k s ⟨B1, H1, I, n1, hp1⟩
    simp only [List.forIn_nil]
    exact wpAny_pure (by simpa [piled] using h0)
  | cons d ds ih =>
    intro vs its ts acc m s B1 H1 Q gc r rv ht hm I n1 hp1 k
    simp only [Reps] at r
    obtain ⟨v, vs', rfl, r1, r2⟩ := r
    cases rv with
    | cons rx rr =>
      rename_i v' its'
      unfold repL at ht
      rcases z : f d with _ | t
      · rw [z] at ht; cases ht
      · rw [z] at ht
        rcases z2 : repL f ds with _ | ts'
        · rw [z2] at ht; cases ht
        · rw [z2] at ht
          cases ht
          rw [piled_cons] at hm
          rw [List.forIn_cons]
          have apH : H ap ≠ none := by rw [show H ap = _ from hpH]; exact (fun z => nomatch z)
          refine wpAny_bind (wpAny_bind (wpAny_mono (h A g pins s σ H1 B1 ap p (m + 1) d v v' t sb hg ((gc d List.mem_cons_self).mono n1.bb) I n1.bh hp1 (n1.nw _ apH hap) (r1.mono n1.bb) rx z (by omega)) (fun out s2 q => ?_) fun _ _ x => x))
          obtain ⟨rfl, B2, H2, I2, n2, hp2⟩ := q
          refine wpAny_pure ?_
          refine ih vs' its' ts' (acc.push out) (m + (out.length + 2)) s2 B2 H2 Q (fun d' hd' => gc d' (List.mem_cons_of_mem _ hd')) r2 rr z2 (by omega) I2 (n1.trans n2) hp2 fun s' a' => ?_
          have h1 := k s' a'
          have e : m + piled (out :: ts') = m + (out.length + 2) + piled ts' := by rw [piled_cons]; omega
          rw [e] at h1
          simpa using h1
theorem tup_at {n : Nat} {f : D → Option Str} (h : RepS X cs n f) {A : Around} (sb : Sub X (n + 1) A) {g : List Code} {pins : List (Addr × Obj)} {s : Shared} {σ : L2.St} {H B : Hp} {ap a : Addr} {p : Pt} {ds : List D} {vs : List V} {ts : List Str} {base : Nat} {R : Result → Shared → Prop} {id : String} {rest : List Value}
    (hid : id = "tuple.__repr__" ∨ id = "tuple.__repr__.under") (hcg : (Code.builtin id ⟨.ref a :: rest, []⟩).isGuard = true) (hcu : (A.under (.builtin id ⟨.ref a :: rest, []⟩)).units = A.units + 1)
    (hinj : ∀ c c' C fn fn', cs c = some (C, fn) → cs c' = some (C, fn') → c = c') (hg : A.guards = some g) (gc : GCl X.K cs ap B g (.tup ds)) (hap : B ap = none) (hpH : PotAt ap H p) (hx : ∀ e s, X.xe e s → R (.error e) s) (I : Inv X pins σ H s) (e : Ex B H) (ha : SqT X.K B a vs) (r : Reps X.K cs ap B ds vs)
    (ht : repL f ds = some ts) (hsz : base + (tupleText ts).length ≤ sizeLine) (hR : ∀ s' u, Aft X pins σ ap B H p s' → R (.ok (.ret (.str (tupleText ts) u))) s') :
    wpOwn (model X.prog X.w) A (.builtin id ⟨.ref a :: rest, []⟩) (Builtin.tupleReprAt base ⟨[.ref a], []⟩) (GQ.FinOf X.prog X.w A R) (fun e s' => R (.error e) s') s := by
  have rl : Rep X.K cs ap B (.tup ds) (.ref a) := by simp only [Rep]; exact ⟨a, vs, rfl, ha, r⟩
  have hca := gcl_clear hinj I e hpH hap rl gc
  obtain ⟨its, rv, ⟨o, ho, hc, m, hd⟩, hz⟩ := I.tuple (Evl.ex_t e ha)
  have hlen : ts.length = its.length := by rw [← rv.length, r.length, repL_len ht]
  have hp := piled_le_tupleText ts
  have hsz0 : (tupleText ts).length ≤ sizeLine := by omega
  rw [tuple_repr_tree, tupleReprUnderWay_eq]
  refine wpOwn_bind (wpOwn_stackTailAny hg (tupGuardF_off _) (tupGuardF_pos _) ?_)
  have hn : (g.any fun c => tupGuardF (.ref a) (c, default)) = false := by
    rw [List.any_eq_false]
    intro c hcm
    rw [tupGuardF_of_clear hca c hcm]
    exact Bool.false_ne_true
  rw [hn]
  refine wpOwn_of_wpAny ?_
  show wpAny _ _ (tupleReprRest base (.ref a)) _ _ s
  unfold tupleReprRest Builtin.Tuple.tupleItemsOf
  refine wpAny_bind (wpAny_bind (wpAny_seqItems ho hd (wpAny_pure ?_)))
  rw [← Array.forIn_toList]
  have hk := tup_fold (X := X) (cs := cs) h (sub_tupr hid hcu sb) (pins := pins) (σ := σ) (B := B) (guards_under_guard hcg hg) hap hpH ds vs its ts
  refine wpAny_bind (wpAny_mono (Q := fun b s' => ∃ b2 : Array Str × Nat, b = b2 ∧ Aft X pins σ ap B H p s' ∧ b2.1.toList = ts) (E := X.xe) ?_ (fun b s2 q => ?_) fun e s2 q => hx e s2 q)
  · have hd' : o.data = .seq its.toArray m := hd
    refine hk #[] _ s B H _ (fun d hm => gc.push rl (size_mem hm).2) r rv ht ?_ I (Nxt.refl e) hpH fun s' a' => ⟨_, rfl, a', by simp⟩
    omega
  · obtain ⟨b2, rfl, a2, hb2⟩ := q
    refine wpAny_bind (wpAny_mkStr (wpAny_pure ?_) (by rw [hb2]; simpa [tupleText, hlen] using hsz0))
    obtain ⟨B2, H2, I2, n2, hp2⟩ := a2
    have h1 := hR { s2 with toks := s2.toks + 1 } s2.toks ⟨B2, H2, I2.tok _, n2, hp2⟩
    rw [hb2]
    simpa [tupleText, hlen] using h1
/-- an own __repr__ where a text is wanted -/
theorem ifBoundBy_K {K : PySem.W.Frag} {M : Model} {A : Around} {E : Value → Shared → Prop} {s : Shared} {x C f : Addr} {ox : Obj} {od : Option Obj} {name : Str} {last : Value → List Value → Sem Value} {Q : Option Value → Shared → Prop} (X : K.In s.heap) (I : PySem.W.InstAt s.heap x ox C od)
    (hs : PySem.W.findIn K (.ref C) name = some (some (.ref f))) (hf : PySem.W.isFn K (.ref f) = true) (h : wpAny M A (last (.ref f) [.ref x]) (fun v => Q (some v)) E s) : wpAny M A (callSpecialIfBoundBy? last (.ref x) name) Q E s := by
  simp only [callSpecialIfBoundBy?, bindSpecialIfBound?]
  refine wpAny_holding (wpAny_bind (wpAny_bind (wpAny_bind (I.type.here ((PySem.W.looks_findIn X hs).here ?_)))))
  refine wpAny_bind (wpAny_askSetting (wpAny_ite ?_))
  have fin : wpAny M A (last (.ref f) [.ref x] >>= fun v => pure (some v)) Q E s := wpAny_bind (wpAny_mono h (fun v s' h' => wpAny_pure h') fun _ _ h' => h')
  split
  · exact wpAny_bind ((PySem.W.bind_fn X _ (beq_iff_eq.mp hf)).here (wpAny_pure (by exact fin)))
  · exact wpAny_tryCatch (wpAny_bind ((PySem.W.bind_fn X _ (beq_iff_eq.mp hf)).here (wpAny_pure (by exact fin))))
/-- the own __repr__, called -/
theorem own_repr {k : Nat} {u : Nat → List D → Option Str} (U : URep X cs k u) {A : Around} (sb : Sub X k A) {pins : List (Addr × Obj)} {s : Shared} {σ : L2.St} {H B : Hp} {ap a : Addr} {p : Pt} {c : Nat} {fs : List D} {t : Str} (I : Inv X pins σ H s) (e : Ex B H) (hp : PotAt ap H p) (hb : B ap = none) (r : Rep X.K cs ap B (.ins c fs) (.ref a)) (h : u c fs = some t) :
    ∃ (C f : Addr) (ox : Obj) (od : Option Obj), PySem.W.InstAt s.heap a ox C od ∧ PySem.W.findIn X.K (.ref C) "__repr__" = some (some (.ref f)) ∧ PySem.W.isFn X.K (.ref f) = true ∧
      wpAny (model X.prog X.w) A (call (.ref f) [.ref a]) (fun v s' => ∃ tk, v = .str t tk ∧ Aft X pins σ ap B H p s') X.xe s := by
  obtain ⟨C, fn, f', fd, ps, fm, T, hs, hf, F, hbd, hfm⟩ := U.of c fs t h
  obtain ⟨a', dx, fs', z, g1, g2, g3⟩ := rep_ins T r
  cases z
  obtain ⟨mA, J, _⟩ := ins_get I.hok (e _ _ g1)
  obtain ⟨od, J, _⟩ := J.look
  refine ⟨C, f', _, _, J, hs, hf, ?_⟩
  have hsp : spD X.K cs 1 fm [.ref a] H (fun v H' => v = .str t ∧ ∃ B', Nxt ap B H B' H' ∧ PotAt ap H' p) E0 := ⟨ap, B, _, p, _, p, rfl, e, hp, hb, reps_cons r reps_nil, hfm p, fun B' H' v n hp' r' => by
    simp only [Rep] at r'
    exact ⟨r', B', n, hp'⟩⟩
  have e0 : Env0 X.prog X.w X.K X.mg X.base A X.stack s H := by
    have z := I.env0
    exact ⟨by rw [sb.fr]; exact z.frames, z.mod, z.bs, z.bsz, z.funs, z.frf, z.hok, z.bare⟩
  have hl := F.len _ _ _ _ hsp
  have r2 : Vals [V.ref a] [Value.ref a] := .cons rfl .nil
  refine wpAny_call (codeAny_mono (F.run A X.stack s H ⟨[.ref a], []⟩ [.ref a] [.ref a] _ E0 sb.room (fun z => nomatch z) e0 (by
    have := hbd s [.ref a] I.kIn (by simpa using hl)
    simpa using this) r2 hsp) fun r s' hq => ?_)
  cases r with
  | error e => exact hq.elim
  | ok fl =>
    cases fl with
    | ret w =>
      obtain ⟨z, H', I', rz, ez, B', n', hp'⟩ := I.after hq
      subst ez
      obtain ⟨tk, rfl⟩ := rz
      exact ⟨tk, rfl, B', H', I', n', hp'⟩
    | next => exact hq.elim
    | brk => exact hq.elim
    | cont => exact hq.elim
theorem under_own {K : PySem.W.Frag} {A : Around} {E : Value → Shared → Prop} {prog : Program} {w : World} {s : Shared} {x C f : Addr} {ox : Obj} {od : Option Obj} {b : Nat} {t : Str} {Q : Str → Shared → Prop} (hu : A.units < cLine) (hb : b ≤ sizeLine) (X : K.In s.heap) (I : PySem.W.InstAt s.heap x ox C od)
    (hs : PySem.W.findIn K (.ref C) "__repr__" = some (some (.ref f))) (hf : PySem.W.isFn K (.ref f) = true) (h : wpAny (model prog w) A (call (.ref f) [.ref x]) (fun v s' => ∃ tk, v = .str t tk ∧ Q t s') E s) : wpAny (model prog w) A (pyReprUnder b (.ref x)) Q E s := by
  refine wpAny_pyReprUnder_ref hb ?_
  unfold pyReprObjUnder pyReprObjBy
  refine wpAny_bind (wpAny_cRoomFor hu ?_)
  refine wpAny_bind (wpAny_bind (I.type.here ((PySem.W.looks_findIn X hs).here ?_)))
  show wpAny _ _ (if (some (Value.ref f)).isNone = true then _ else _) _ _ _
  rw [if_neg (by simp)]
  refine wpAny_bind (ifBoundBy_K (name := Str.ofString "__repr__") X I hs hf ?_)
  show wpAny _ _ (call (.ref f) ([.ref x] ++ [])) _ _ _
  refine wpAny_mono h (fun v s' hv => ?_) fun _ _ y => y
  obtain ⟨tk, rfl, q⟩ := hv
  exact wpAny_bind (wpAny_isInstance (T := "str") (b := true) rfl isSubtype_str_str (wpAny_pure ⟨t, tk, rfl, q⟩))
end
end DL
end

section
set_option Elab.async false
set_option linter.all false
set_option maxRecDepth 100000
set_option maxHeartbeats 4000000
/-! DL: repr(x). -/
namespace DL
open PySem PySem.Spec PyProof.Rows L2
open Evl (Ex)
section
variable {X : Cx} {cs : CT}
theorem repT_cases {u : Nat → List D → Option Str} {n : Nat} {d : D} {t : Str} (h : repT u (n + 1) d = some t) :
    flT d = some t ∨ (∃ ds ts, d = .lst ds ∧ repL (repT u n) ds = some ts ∧ t = listText ts) ∨ (∃ ds ts, d = .tup ds ∧ repL (repT u n) ds = some ts ∧ t = tupleText ts) ∨ ∃ c fs, d = .ins c fs ∧ u c fs = some t := by
  unfold repT at h
  split at h
  · rename_i ds
    rcases z : repL (repT u n) ds with _ | ts
    · rw [z] at h; cases h
    · rw [z] at h; cases h; exact .inr (.inl ⟨ds, ts, rfl, z, rfl⟩)
  · rename_i ds
    rcases z : repL (repT u n) ds with _ | ts
    · rw [z] at h; cases h
    · rw [z] at h; cases h; exact .inr (.inr (.inl ⟨ds, ts, rfl, z, rfl⟩))
  · exact .inr (.inr (.inr ⟨_, _, rfl, h⟩))
  · exact .inl h
theorem repS_rep {k : Nat} {u : Nat → List D → Option Str} (U : URep X cs k u) : ∀ n, RepS X cs (k + n) (repT u n)
  | 0 => RepS.mono repS_flat (Nat.zero_le _)
  | n + 1 => by
    intro A g pins s σ H B ap p base d v v' t sb hg gc I e hp hb r rv h hz
    rcases repT_cases h with h1 | ⟨ds, ts, rfl, h1, rfl⟩ | ⟨ds, ts, rfl, h1, rfl⟩ | ⟨c, fs, rfl, h1⟩
    · exact RepS.mono repS_flat (Nat.zero_le _) A g pins s σ H B ap p base d v v' t sb hg gc I e hp hb r rv h1 hz
    · have r' := r
      simp only [Rep] at r'
      obtain ⟨a, vs, rfl, ha, rr⟩ := r'
      cases rv
      have hb0 : base ≤ sizeLine := by omega
      obtain ⟨its, m, _, ho, _⟩ := I.lst (e _ _ ha)
      cases ds with
      | nil =>
        cases h1
        obtain ⟨o, n0, g1, g2, g3⟩ := list_at0 I e ha rr
        exact wpAny_pyReprUnder_ref hb0 (wpAny_pyReprObjUnder_list_empty ⟨_, g1, g2⟩ sb.room.units0 g1 g3 ⟨_, _, rfl, rfl, B, H, I.tok _, Nxt.refl e, hp⟩)
      | cons x ds =>
        refine wpAny_pyReprUnder_ref hb0 (wpAny_pyReprObjUnder_twin (twin := "list.__repr__.under") ⟨_, ho, rfl⟩ F.slot_list_repr.toG rfl sb.room.units0 ?_)
        refine call_twin_plain F.plain_list_repr_under F.entry_list_repr_under F.check_list_repr_under ⟨_, ho, rfl⟩ F.slot_list_repr.toG (F.args_list_repr_1 _) ?_
        exact list_at (R := callEnd _ X.xe) (n := k + n) (repS_rep U n) sb U.inj hg gc hb hp (fun e s' z => z) I e ha rr h1 hz fun s' tk a2 => ⟨⟨_, _, rfl⟩, _, _, rfl, rfl, a2⟩
    · have r' := r
      simp only [Rep] at r'
      obtain ⟨a, vs, rfl, ha, rr⟩ := r'
      cases rv
      have hb0 : base ≤ sizeLine := by omega
      obtain ⟨its, _, ⟨o, ho, hc, m, hd⟩, _⟩ := I.tuple (Evl.ex_t e ha)
      refine wpAny_pyReprUnder_ref hb0 (wpAny_pyReprObjUnder_twin (twin := "tuple.__repr__.under") ⟨_, ho, hc⟩ F.slot_tuple_repr rfl sb.room.units0 ?_)
      refine call_twin_own (F.quiet_tuple_repr_under _) F.entry_tuple_repr_under F.check_tuple_repr_under ⟨_, ho, hc⟩ F.slot_tuple_repr (F.args_tuple_repr_1 _) ?_
      exact tup_at (R := callEnd _ X.xe) (n := k + n) (repS_rep U n) sb (.inr rfl) (isGuard_tuple_repr_under _) (units_under_tuple_repr_under _ _) U.inj hg gc hb hp (fun e s' z => z) I e ha rr h1 hz fun s' tk a2 => ⟨⟨_, _, rfl⟩, _, _, rfl, rfl, a2⟩
    · obtain ⟨a, hv⟩ : ∃ a, v = .ref a := by
        simp only [Rep] at r
        obtain ⟨a, _, _, _, _, z, _⟩ := r
        exact ⟨a, z⟩
      subst hv
      cases rv
      obtain ⟨C, f, ox, od, J, hs, hf, hq⟩ := own_repr U (sb.mono (by omega : k ≤ k + (n + 1))) I e hp hb r h1
      refine under_own (t := t) sb.room.units0 (by omega) I.kIn J hs hf (wpAny_mono hq (fun v s' z => ?_) fun _ _ y => y)
      obtain ⟨tk, rfl, a2⟩ := z
      exact ⟨tk, rfl, rfl, a2⟩
/-- repr(x): an int, a list, a tuple, an instance -/
def cRepr (u : Nat → List D → Option Str) (n : Nat) : List D → Mo D := fun ds => match ds with
  | [.int i] => if i.natAbs.log2 < 1920 then retM (.str (toString i)) else failM
  | [.lst es] => match repT u (n + 1) (.lst es) with
    | some t => if t.length ≤ 10000000 then retM (.str t) else failM
    | none => failM
  | [.tup es] => match repT u (n + 1) (.tup es) with
    | some t => if t.length ≤ 10000000 then retM (.str t) else failM
    | none => failM
  | [.ins c fs] => match repT u (n + 1) (.ins c fs) with
    | some t => if t.length ≤ 10000000 then retM (.str t) else failM
    | none => failM
  | _ => failM
def rRepr (X : Cx) (cs : CT) (u : Nat → List D → Option Str) (n : Nat) : List V → Hp → VK → Prop := fun vs H Q => (∃ i, vs = [.int i] ∧ i.natAbs.log2 < 1920 ∧ Q (.str (toString i)) H) ∨
  ∃ ap B p d v t, vs = [v] ∧ Ex B H ∧ PotAt ap H p ∧ B ap = none ∧ Rep X.K cs ap B d v ∧ ((∃ es, d = .lst es) ∨ (∃ es, d = .tup es) ∨ ∃ c fs, d = .ins c fs) ∧ repT u (n + 1) d = some t ∧ t.length ≤ sizeLine ∧ ∀ B' H', Nxt ap B H B' H' → PotAt ap H' p → Q (.str t) H'
theorem callR_repr {k : Nat} {u : Nat → List D → Option Str} (n : Nat) (U : URep X cs k u) (hr : Room (k + n + 2) X.A) (hg : X.A.guards = some []) : CallR X (.builtin "repr") (rRepr X cs u n) := by
  intro pins s σ H xs us Q I rv h
  rcases h with h | ⟨ap, B, p, d, v, t, rfl, e, hp, hb, r, hs, ht, hz, q⟩
  · exact SkE.call_repr_int pins s σ H xs us Q I rv h
  · obtain ⟨v', rfl, rx⟩ := vals1 rv
    have hu : X.A.units + 1 < cLine := by have := hr.un; omega
    have sb : Sub X (k + n + 1) X.A.in1 := ⟨hr.in1, rfl⟩
    have fin : ∀ {s' : Shared} {tk : Tok}, Aft X pins σ ap B H p s' → EP X pins σ Q (.str t tk) s' := fun {s' tk} ⟨B', H', I', n', hp'⟩ => ⟨.str t, H', I', ⟨tk, rfl⟩, q B' H' n' hp'⟩
    rcases repT_cases ht with h1 | ⟨ds, ts, rfl, h1, rfl⟩ | ⟨ds, ts, rfl, h1, rfl⟩ | ⟨c, fs, rfl, h1⟩
    · rcases hs with ⟨es, rfl⟩ | ⟨es, rfl⟩ | ⟨c, fs, rfl⟩ <;> cases h1
    · have r' := r
      simp only [Rep] at r'
      obtain ⟨a, vs, rfl, ha, rr⟩ := r'
      cases rx
      obtain ⟨its, m, _, ho, _⟩ := I.lst (e _ _ ha)
      refine call_repr_slot hu ⟨_, ho, rfl⟩ F.slot_list_repr.toG ?_
      cases ds with
      | nil =>
        cases h1
        obtain ⟨o, n0, g1, g2, g3⟩ := list_at0 I e ha rr
        exact call_list_repr_empty ⟨_, g1, g2⟩ g1 g3 ⟨_, _, rfl, fin ⟨B, H, I.tok _, Nxt.refl e, hp⟩⟩
      | cons x ds =>
        exact wpAny_call (codeAny_call_builtin F.slot_list_repr.plain F.entry_list_repr (F.slot_list_repr.check _ _ _ _ _ _ _ _ ⟨_, ho, rfl⟩ (F.args_list_repr_1 _)
          (list_at (base := 0) (R := callEnd _ X.xe) (n := k + n) (repS_rep U n) sb U.inj hg (fun id v rest kw z => nomatch z) hb hp (fun e s' z => z) I e ha rr h1 (by omega) fun s' tk a2 => ⟨_, _, rfl, fin a2⟩)))
    · have r' := r
      simp only [Rep] at r'
      obtain ⟨a, vs, rfl, ha, rr⟩ := r'
      cases rx
      obtain ⟨its, _, ⟨o, ho, hc, m, hd⟩, _⟩ := I.tuple (Evl.ex_t e ha)
      refine call_repr_slot hu ⟨_, ho, hc⟩ F.slot_tuple_repr ?_
      exact wpAny_call (codeAny_call_builtin_own (Code.quiet_builtin _ (by decide +kernel)) F.entry_tuple_repr (F.slot_tuple_repr.check _ _ _ _ _ _ _ _ ⟨_, ho, hc⟩ (F.args_tuple_repr_1 _)
        (tup_at (base := 0) (R := callEnd _ X.xe) (n := k + n) (repS_rep U n) sb (.inl rfl) (isGuard_tuple_repr _) (units_under_tuple_repr _ _) U.inj hg (fun id v rest kw z => nomatch z) hb hp (fun e s' z => z) I e ha rr h1 (by omega) fun s' tk a2 => ⟨_, _, rfl, fin a2⟩)))
    · obtain ⟨a, hv⟩ : ∃ a, v = .ref a := by
        simp only [Rep] at r
        obtain ⟨a, _, _, _, _, z, _⟩ := r
        exact ⟨a, z⟩
      subst hv
      cases rx
      obtain ⟨C, f, ox, od, J, hs, hf, hq⟩ := own_repr U (sb.mono (by omega : k ≤ k + n + 1)) I e hp hb r h1
      obtain ⟨m, hF⟩ := I.fr
      refine PySem.W.repr_K (by show X.A.units + 1 < cLine; exact hu) hF I.ok.mod.kin J hs hf (wpAny_mono hq (fun v s' z => ?_) fun _ _ y => y)
      obtain ⟨tk, rfl, a2⟩ := z
      exact fin a2
theorem ca_repr {k : Nat} {u : Nat → List D → Option Str} (n : Nat) (U : URep X cs k u) (hr : Room (k + n + 2) X.A) (hg : X.A.guards = some []) : CaD cs X (.builtin "repr") (cRepr u n) := by
  refine ⟨_, callR_repr n U hr hg, fun ap B H p ds vs Q d p' e hp hb r hm q => ?_⟩
  have fin : ∀ x v t, Rep X.K cs ap B x v → repT u (n + 1) x = some t → ((∃ es, x = .lst es) ∨ (∃ es, x = .tup es) ∨ ∃ c fs, x = .ins c fs) → (if t.length ≤ 10000000 then retM (D.str t) else failM) p = some (d, p') → rRepr X cs u n [v] H Q := by
    intro x v t rx ht hs hm
    split at hm
    · rename_i hz
      cases hm
      exact .inr ⟨ap, B, p, x, v, t, rfl, e, hp, hb, rx, hs, ht, Nat.le_trans hz (by rw [sizeLine_eq]; decide), fun B' H' n' hp' => q B' H' _ n' hp' (by simp only [Rep])⟩
    · cases hm
  unfold cRepr at hm
  split at hm
  · obtain ⟨v, rfl, rv⟩ := reps1 r
    simp only [Rep] at rv
    split at hm
    · rename_i i hi
      cases hm
      exact .inl ⟨i, by rw [rv], hi, q B H _ (Nxt.refl e) hp (by simp only [Rep])⟩
    · cases hm
  · rename_i es
    obtain ⟨v, rfl, rv⟩ := reps1 r
    rcases z : repT u (n + 1) (.lst es) with _ | t
    · rw [z] at hm; cases hm
    · rw [z] at hm; exact fin _ v t rv z (.inl ⟨_, rfl⟩) hm
  · rename_i es
    obtain ⟨v, rfl, rv⟩ := reps1 r
    rcases z : repT u (n + 1) (.tup es) with _ | t
    · rw [z] at hm; cases hm
    · rw [z] at hm; exact fin _ v t rv z (.inr (.inl ⟨_, rfl⟩)) hm
  · rename_i c es
    obtain ⟨v, rfl, rv⟩ := reps1 r
    rcases z : repT u (n + 1) (.ins c es) with _ | t
    · rw [z] at hm; cases hm
    · rw [z] at hm; exact fin _ v t rv z (.inr (.inr ⟨_, _, rfl⟩)) hm
  · cases hm
end
end DL
end

section
set_option Elab.async false
set_option linter.all false
set_option maxRecDepth 100000
set_option maxHeartbeats 4000000
set_option exponentiation.threshold 20000
/-! DL: isinstance, texts, f-strings, lcm, divmod, lists unpacked. -/
namespace DL
open PySem PySem.Spec PyProof.Rows L2
open Evl (Ex)
section
variable {cs : CT} {X : Cx} {e a b : Expr} {es : List Expr} {m ma mb : Env' → Mo D} {pos : Pos}
/-! ### isinstance -/
theorem ta_two {K : PySem.W.Frag} {te : TE} {c : V} (h : EvE K cs te m) {ap : Addr} {H0 B0 B : Hp} {σ : L2.St} {env : Env'} {H : Hp} {p p1 : Pt} {d : D} {Q : List V → Hp → Prop} (k : Ok K cs ap H0 B0 B σ env H p) (e1 : m env p = some (d, p1))
    (q : ∀ B' H' v, Nxt ap B H B' H' → PotAt ap H' p1 → Rep K cs ap B' d v → Q [v, c] H') : tCons te (tCons (tC c) tNil) σ H Q :=
  h ap H0 B0 B σ env H p _ d p1 k e1 fun B' H' v n hp r => q B' H' v n hp r
theorem p_isT (T : String) {x : Str} {fp xp : Pos} (I : IsiF X.K cs) (hm : X.mg "isinstance" = none) (hx : X.mg x = none) (ha : PED cs X e m) (hv : bootBuiltins x = some (.type T) := by decide +kernel) (hb : bootBuiltins "isinstance" = some (.builtin "isinstance") := by decide +kernel) (hg : Gl X "isinstance" := by rfl) (hgx : Gl X x := by rfl)
    (hn : x ≠ "__name__" := by decide) (hd : (x == ("__debug__" : Str)) = false := by decide)
    (he : starEach [e, .Name x xp] X.env = (false, eval e X.env) :: starEach [.Name x xp] X.env := by rfl) (he2 : starEach [.Name x xp] X.env = (false, eval (.Name x xp) X.env) :: starEach [] X.env := by rfl) (hpl : (backTo pos (starEach [.Name x xp] X.env)).any (·.1) = false := by rfl) :
    PED cs X (.Call (.Name "isinstance" fp) [e, .Name x xp] [] pos) (mIsT T m) := by
  obtain ⟨te, h1, h2⟩ := ha.ex
  refine ⟨_, pe_callB call_isi hg hm hb (L2.pa_cons h1 (L2.pa_cons (pe_bltn (v := .ty T) hgx hx hv rfl hn hd) L2.pa_nil he2) he) (by decide) (by decide) he hpl, fun ap H0 B0 B σ env H p Q d p' k hmm q => ?_⟩
  obtain ⟨y, p1, e1, e2⟩ := bindM_some hmm
  rcases z : isT T y with _ | b
  · rw [z] at e2; cases e2
  · rw [z] at e2
    cases e2
    refine ta_two h2 k e1 fun B' H' v n hp r => ?_
    obtain ⟨t, t1, t2⟩ := kit_T I n.bh r z
    exact ⟨v, .ty T, t, .type T, b, rfl, .ty T, t1, t2, q B' H' _ n hp (by simp only [Rep])⟩
theorem isC_kit {K : PySem.W.Frag} {ap : Addr} {B H : Hp} {d : D} {v : V} {c : Nat} {C : Addr} {fn : List Str} {b : Bool} (I : IsiF K cs) (hc : cs c = some (C, fn)) (e : Ex B H) (r : Rep K cs ap B d v) (hb : isC c d = some b) : ∃ t, TyX K H v t ∧ PySem.W.kitOne K t (.ref C) = some b := by
  rcases ty_of I e r with ⟨n, h1, h2, h3⟩ | ⟨c', ds, C', fn', rfl, h1, h2⟩ | rfl
  · have hf : b = false := by
      cases d <;> simp only [tyN] at h1 <;> first | (cases h1; done) | (simp only [isC] at hb; cases hb; rfl)
    subst hf
    exact ⟨_, h3, I.o c C fn hc n h2⟩
  · simp only [isC] at hb
    cases hb
    exact ⟨_, h2, I.cc c' C' fn' c C fn h1 hc⟩
  · simp only [isC] at hb
    cases hb
theorem p_isC {c : Nat} {C : Addr} {fn : List Str} {x : Str} {fp xp : Pos} (I : IsiF X.K cs) (hc : cs c = some (C, fn)) (hm : X.mg "isinstance" = none) (hx : X.mg x = some (.ref C)) (ha : PED cs X e m) (hb : bootBuiltins "isinstance" = some (.builtin "isinstance") := by decide +kernel) (hg : Gl X "isinstance" := by rfl) (hgx : Gl X x := by rfl)
    (hd : (x == ("__debug__" : Str)) = false := by decide)
    (he : starEach [e, .Name x xp] X.env = (false, eval e X.env) :: starEach [.Name x xp] X.env := by rfl) (he2 : starEach [.Name x xp] X.env = (false, eval (.Name x xp) X.env) :: starEach [] X.env := by rfl) (hpl : (backTo pos (starEach [.Name x xp] X.env)).any (·.1) = false := by rfl) :
    PED cs X (.Call (.Name "isinstance" fp) [e, .Name x xp] [] pos) (mIsC c m) := by
  obtain ⟨te, h1, h2⟩ := ha.ex
  refine ⟨_, pe_callB call_isi hg hm hb (L2.pa_cons h1 (L2.pa_cons (pe_glob (v := .ref C) hgx hx rfl hd) L2.pa_nil he2) he) (by decide) (by decide) he hpl, fun ap H0 B0 B σ env H p Q d p' k hmm q => ?_⟩
  obtain ⟨y, p1, e1, e2⟩ := bindM_some hmm
  rcases z : isC c y with _ | b
  · rw [z] at e2; cases e2
  · rw [z] at e2
    cases e2
    refine ta_two h2 k e1 fun B' H' v n hp r => ?_
    obtain ⟨t, t1, t2⟩ := isC_kit I hc n.bh r z
    exact ⟨v, .ref C, t, .ref C, b, rfl, .own C, t1, t2, q B' H' _ n hp (by simp only [Rep])⟩
theorem kit_T2 {K : PySem.W.Frag} {ap : Addr} {B H : Hp} {d : D} {v : V} {T U : String} {b b' : Bool} (I : IsiF K cs) (e : Ex B H) (r : Rep K cs ap B d v) (hb : isT T d = some b) (hb' : isT U d = some b') : ∃ t, TyX K H v t ∧ PySem.W.kitOne K t (.type T) = some b ∧ PySem.W.kitOne K t (.type U) = some b' := by
  rcases ty_of I e r with ⟨n, h1, h2, h3⟩ | ⟨c, ds, C, fn, rfl, h1, h2⟩ | rfl
  · exact ⟨_, h3, isT_kit h1 hb, isT_kit h1 hb'⟩
  · have e1 := isT_ins hb
    have e2 := isT_ins hb'
    subst e1; subst e2
    exact ⟨_, h2, I.b c C fn h1 T (isT_mem hb), I.b c C fn h1 U (isT_mem hb')⟩
  · unfold isT at hb
    split at hb <;> cases hb <;> rename_i h <;> cases h
theorem p_isT2 (T U : String) {x y : Str} {fp xp yp tp : Pos} {kk} (I : IsiF X.K cs) (hm : X.mg "isinstance" = none) (hx : X.mg x = none) (hy : X.mg y = none) (ha : PED cs X e m) (hv : bootBuiltins x = some (.type T) := by decide +kernel) (hw : bootBuiltins y = some (.type U) := by decide +kernel)
    (hb : bootBuiltins "isinstance" = some (.builtin "isinstance") := by decide +kernel) (hg : Gl X "isinstance" := by rfl) (hgx : Gl X x := by rfl) (hgy : Gl X y := by rfl)
    (hn : x ≠ "__name__" := by decide) (hd : (x == ("__debug__" : Str)) = false := by decide) (hn' : y ≠ "__name__" := by decide) (hd' : (y == ("__debug__" : Str)) = false := by decide)
    (he : starEach [e, .Tuple [.Name x xp, .Name y yp] kk tp] X.env = (false, eval e X.env) :: starEach [.Tuple [.Name x xp, .Name y yp] kk tp] X.env := by rfl) (he2 : starEach [.Tuple [.Name x xp, .Name y yp] kk tp] X.env = (false, eval (.Tuple [.Name x xp, .Name y yp] kk tp) X.env) :: starEach [] X.env := by rfl)
    (ht1 : starEach [.Name x xp, .Name y yp] X.env = (false, eval (.Name x xp) X.env) :: starEach [.Name y yp] X.env := by rfl) (ht2 : starEach [.Name y yp] X.env = (false, eval (.Name y yp) X.env) :: starEach [] X.env := by rfl)
    (hpl : (backTo pos (starEach [.Tuple [.Name x xp, .Name y yp] kk tp] X.env)).any (·.1) = false := by rfl) :
    PED cs X (.Call (.Name "isinstance" fp) [e, .Tuple [.Name x xp, .Name y yp] kk tp] [] pos) (mIsT2 T U m) := by
  obtain ⟨te, h1, h2⟩ := ha.ex
  refine ⟨_, pe_callB call_isiT hg hm hb (L2.pa_cons h1 (L2.pa_cons (pe_tup (L2.pa_cons (pe_bltn (v := .ty T) hgx hx hv rfl hn hd) (L2.pa_cons (pe_bltn (v := .ty U) hgy hy hw rfl hn' hd') L2.pa_nil ht2) ht1)) L2.pa_nil he2) he) (by decide) (by decide) he hpl, fun ap H0 B0 B σ env H p Q d p' k hmm q => ?_⟩
  obtain ⟨w, p1, e1, e2⟩ := bindM_some hmm
  rcases z : isT T w with _ | b
  · rw [z] at e2; cases e2
  · rcases z2 : isT U w with _ | b'
    · rw [z, z2] at e2; cases e2
    · rw [z, z2] at e2
      cases e2
      refine h2 ap H0 B0 B σ env H p _ w p' k e1 fun B1 H1 v n hp r => ⟨sz100 (by simp only [List.length_cons, List.length_nil]; omega), fun t ht => ?_⟩
      have n2 : Nxt ap B1 H1 (upd B1 t (.tup [.ty T, .ty U])) (upd H1 t (.tup [.ty T, .ty U])) := Nxt.new n.bh ht
      obtain ⟨t1, g1, g2, g4⟩ := kit_T2 I n2.bh (r.mono n2.bb) z z2
      refine ⟨v, t, [.ty T, .ty U], t1, [.type T, .type U], b || b', rfl, upd_same, .cons (.ty T) (.cons (.ty U) .nil), g1, ?_, q _ _ _ (n.trans n2) (hp.new ht) (by simp only [Rep])⟩
      refine kitAny_cons g2 (fun hb => ?_) (fun hb => by rw [hb]; rfl)
      subst hb
      exact kitAny_cons g4 (fun hb => by subst hb; rfl) (fun hb => by rw [hb]; rfl)
/-! ### is None -/
def dIsN (neg : Bool) : D → D → Mo D := fun x y => match y with
  | .non => match x with
    | .non => retM (.bl (!neg))
    | .pot => failM
    | _ => retM (.bl neg)
  | _ => failM
theorem isN_val {K : PySem.W.Frag} {ap : Addr} {B : Hp} {x : D} {v : V} (r : Rep K cs ap B x v) : decide (v = V.non) = (match x with | .non => true | _ => false) := by
  cases x with
  | non => simp only [Rep] at r; subst r; simp
  | bl b => simp only [Rep] at r; subst r; simp
  | int b => simp only [Rep] at r; subst r; simp
  | str b => simp only [Rep] at r; subst r; simp
  | lst ds => simp only [Rep] at r; obtain ⟨a, _, rfl, _⟩ := r; simp
  | tup ds => simp only [Rep] at r; obtain ⟨a, _, rfl, _⟩ := r; simp
  | ins c ds => simp only [Rep] at r; obtain ⟨a, _, _, _, _, rfl, _⟩ := r; simp
  | pot => simp only [Rep] at r; subst r; simp
theorem op_isND : OpD cs X (compareOp .Is) (dIsN false) := by
  refine ⟨_, op_isN, fun ap B H p x y v u Q d p' e hp hb rx ry hm q => ?_⟩
  unfold dIsN at hm
  split at hm
  · simp only [Rep] at ry
    refine ⟨ry, ?_⟩
    rw [isN_val rx]
    cases x <;> first | (cases hm; done) | (cases hm; exact q B H _ (Nxt.refl e) hp (by first | (simp only [Rep]; done) | (simp only [Rep]; rfl)))
  · cases hm
theorem op_notND : OpD cs X (compareOp .IsNot) (dIsN true) := by
  refine ⟨_, op_notN, fun ap B H p x y v u Q d p' e hp hb rx ry hm q => ?_⟩
  unfold dIsN at hm
  split at hm
  · simp only [Rep] at ry
    refine ⟨ry, ?_⟩
    rw [isN_val rx]
    cases x <;> first | (cases hm; done) | (cases hm; exact q B H _ (Nxt.refl e) hp (by first | (simp only [Rep]; done) | (simp only [Rep]; rfl)))
  · cases hm
/-! ### a minus sign -/
def dNegI : D → Mo D := fun x => match x with
  | .int i => retM (.int (-i))
  | _ => failM
theorem p_neg (ha : PED cs X a ma) : PED cs X (.UnaryOp .USub a pos) (mUn dNegI ma) := by
  obtain ⟨ta, a1, a2⟩ := ha.ex
  refine ⟨_, pe_un un_neg a1, fun ap H0 B0 B σ env H p Q d p' k hm q => ?_⟩
  obtain ⟨x, p1, e1, e2⟩ := bindM_some hm
  cases x <;> first | (cases e2; done) | skip
  rename_i i
  cases e2
  refine a2 ap H0 B0 B σ env H p _ _ p' k e1 fun B1 H1 v n1 hp1 r1 => ?_
  simp only [Rep] at r1
  exact ⟨i, r1, q B1 H1 _ n1 hp1 (by simp only [Rep])⟩
/-! ### texts -/
def cStr : List D → Mo D
  | [.int i] => if i.natAbs.log2 < 1920 then retM (.str (toString i)) else failM
  | _ => failM
theorem ca_str : CaD cs X (.type "str") cStr := by
  refine ⟨_, call_str_int, fun ap B H p ds vs Q d p' e hp hb r hm q => ?_⟩
  unfold cStr at hm
  split at hm
  · split at hm
    · rename_i hi
      cases hm
      obtain ⟨v, rfl, rv⟩ := reps1 r
      simp only [Rep] at rv
      exact ⟨_, by rw [rv], hi, q B H _ (Nxt.refl e) hp (by simp only [Rep])⟩
    · cases hm
  · cases hm
def mSlS (a : Env' → Mo D) (lo hi : Env' → Mo (Option Int)) : Env' → Mo D := fun env => bindM (a env) fun x => bindM (lo env) fun l => bindM (hi env) fun h => match x with
  | .str z => if z.length ≤ 10000000 then retM (.str (cutS z l h)) else failM
  | _ => failM
theorem str_fits {z : Str} (h : z.length ≤ 10000000) : z.length ≤ sizeLine := Nat.le_trans h (by rw [sizeLine_eq]; decide)
theorem p_slS {lo hi : Option Expr} {p2 : Pos} {ml mh : Env' → Mo (Option Int)} (ha : PED cs X a ma) (hl : POx cs X lo ml) (hh : POx cs X hi mh) : PED cs X (.Subscript a (.Slice lo hi none p2) pos) (mSlS ma ml mh) := by
  obtain ⟨ta, a1, a2⟩ := ha.ex
  obtain ⟨tl, l1, l2⟩ := hl.ex
  obtain ⟨th, u1, u2⟩ := hh.ex
  refine ⟨_, pe_slice sl_str a1 l1 u1, fun ap H0 B0 B σ env H p Q d p' k hm q => ?_⟩
  obtain ⟨x, p1, e1, e2⟩ := bindM_some hm
  obtain ⟨l, p2, e3, e4⟩ := bindM_some e2
  obtain ⟨u, p3, e5, e6⟩ := bindM_some e4
  split at e6
  · rename_i z
    split at e6
    · rename_i hz
      cases e6
      refine a2 ap H0 B0 B σ env H p _ _ p1 k e1 fun B1 H1 v n1 hp1 r1 => ?_
      have k1 := k.nxt n1 hp1
      refine l2 ap H0 B0 B1 σ env H1 p1 _ _ p2 k1 e3 fun B2 H2 n2 hp2 => ?_
      have k2 := k1.nxt n2 hp2
      refine u2 ap H0 B0 B2 σ env H2 p2 _ _ p' k2 e5 fun B3 H3 n3 hp3 => ?_
      simp only [Rep] at r1
      exact ⟨z, r1, str_fits hz, q B3 H3 _ ((n1.trans n2).trans n3) hp3 (by simp only [Rep])⟩
    · cases e6
  · cases e6
/-! ### f-strings -/
def mFmt (a : Env' → Mo D) : Env' → Mo D := fun env => bindM (a env) fun x => match x with
  | .str y => if y.length ≤ 10000000 then retM (.str y) else failM
  | .int i => if i.natAbs.log2 < 1920 then retM (.str (toString i)) else failM
  | _ => failM
theorem p_fmt (ha : PED cs X a ma) : PED cs X (.FormattedValue a (-1) none pos) (mFmt ma) := by
  obtain ⟨ta, a1, a2⟩ := ha.ex
  refine ⟨_, pe_fmt a1, fun ap H0 B0 B σ env H p Q d p' k hm q => ?_⟩
  obtain ⟨x, p1, e1, e2⟩ := bindM_some hm
  split at e2
  · rename_i y
    split at e2
    · rename_i hz
      cases e2
      refine a2 ap H0 B0 B σ env H p _ _ p' k e1 fun B1 H1 v n1 hp1 r1 => ?_
      simp only [Rep] at r1
      exact .inl ⟨y, r1, str_fits hz, q B1 H1 _ n1 hp1 (by simp only [Rep])⟩
    · cases e2
  · rename_i i
    split at e2
    · rename_i hz
      cases e2
      refine a2 ap H0 B0 B σ env H p _ _ p' k e1 fun B1 H1 v n1 hp1 r1 => ?_
      simp only [Rep] at r1
      exact .inr ⟨i, r1, hz, q B1 H1 _ n1 hp1 (by simp only [Rep])⟩
    · cases e2
  · cases e2
def mJoin : List (Env' → Mo D) → Str → Env' → Mo Str
  | [], acc, _ => retM acc
  | m :: ms, acc, env => bindM (m env) fun x => match x with
    | .str y => if (acc ++ y).length ≤ 10000000 then mJoin ms (acc ++ y) env else failM
    | _ => failM
def mJs (ms : List (Env' → Mo D)) : Env' → Mo D := fun env => bindM (mJoin ms Str.empty env) fun t => retM (.str t)
inductive EvJs (K : PySem.W.Frag) (cs : CT) : List TE → List (Env' → Mo D) → Prop where
  | nil : EvJs K cs [] []
  | cons {t : TE} {m : Env' → Mo D} {ts : List TE} {ms : List (Env' → Mo D)} (h : EvE K cs t m) (r : EvJs K cs ts ms) : EvJs K cs (t :: ts) (m :: ms)
structure PJs (cs : CT) (X : Cx) (es : List Expr) (ms : List (Env' → Mo D)) : Prop where
  ex : ∃ ts, PJ X es ts ∧ EvJs X.K cs ts ms
theorem js_nil : PJs cs X [] [] := ⟨[], .nil, .nil⟩
theorem js_cons {ms : List (Env' → Mo D)} (ha : PED cs X a ma) (hr : PJs cs X es ms) : PJs cs X (a :: es) (ma :: ms) := by
  obtain ⟨ta, a1, a2⟩ := ha.ex
  obtain ⟨ts, t1, t2⟩ := hr.ex
  exact ⟨ta :: ts, .cons a1 t1, .cons a2 t2⟩
theorem js_ev {K : PySem.W.Frag} {ts : List TE} {ms : List (Env' → Mo D)} (h : EvJs K cs ts ms) : ∀ ap H0 B0 B σ env H p acc (Q : Str → Hp → Prop) t p', Ok K cs ap H0 B0 B σ env H p → mJoin ms acc env p = some (t, p') → (∀ B' H', Nxt ap B H B' H' → PotAt ap H' p' → Q t H') → tJs ts acc σ H Q := by
  induction h with
  | nil =>
    intro ap H0 B0 B σ env H p acc Q t p' k hm q
    cases hm
    exact q B H (Nxt.refl k.bh) k.pot
  | @cons te m ts ms h r ih =>
    intro ap H0 B0 B σ env H p acc Q t p' k hm q
    obtain ⟨x, p1, e1, e2⟩ := bindM_some (m := m env) hm
    split at e2
    · rename_i y
      split at e2
      · rename_i hz
        refine h ap H0 B0 B σ env H p _ _ p1 k e1 fun B1 H1 v n1 hp1 r1 => ?_
        simp only [Rep] at r1
        exact ⟨y, r1, str_fits hz, ih ap H0 B0 B1 σ env H1 p1 (acc ++ y) Q t p' (k.nxt n1 hp1) e2 fun B2 H2 n2 hp2 => q B2 H2 (n1.trans n2) hp2⟩
      · cases e2
    · cases e2
theorem p_js {v1 v2 : Expr} {rest : List Expr} {ms : List (Env' → Mo D)} (h : PJs cs X (v1 :: v2 :: rest) ms) : PED cs X (.JoinedStr (v1 :: v2 :: rest) pos) (mJs ms) := by
  obtain ⟨ts, t1, t2⟩ := h.ex
  refine ⟨_, pe_joined t1, fun ap H0 B0 B σ env H p Q d p' k hm q => ?_⟩
  obtain ⟨t, p1, e1, e2⟩ := bindM_some hm
  cases e2
  exact js_ev t2 ap H0 B0 B σ env H p Str.empty _ t p' k e1 fun B' H' n hp => q B' H' _ n hp (by simp only [Rep])
theorem p_js1 (ha : PED cs X a ma) : PED cs X (.JoinedStr [a] pos) ma := by
  obtain ⟨ta, a1, a2⟩ := ha.ex
  exact ⟨_, pe_joined1 a1, a2⟩
/-! ### lists unpacked -/
def tgLst (n : Nat) (b : MGs) : MG := fun d env => match d with
  | .lst ds => if ds.length = n then b ds env else none
  | _ => none
theorem lst_ev {K : PySem.W.Frag} {n : Nat} {g : TGs} {b : MGs} {sl : List Nat} (h : EvGs K cs g sl b) : EvG K cs (gLst K n g) sl (tgLst n b) := by
  intro ap H0 B0 B σ env H p Q d v env' k r hm q
  unfold tgLst at hm
  split at hm
  · split at hm
    · rename_i ds hl
      simp only [Rep] at r
      obtain ⟨a, xs, rfl, h1, h2⟩ := r
      exact ⟨a, xs, rfl, SqL.of (k.bh _ _ h1), by rw [h2.length]; exact hl, h ap H0 B0 B σ env H p Q ds xs env' k h2 hm q⟩
    · cases hm
  · cases hm
theorem g_lst {es : List Expr} {kk n : Nat} {b : MGs} {sl : List Nat} (hc : X.calm = true) (h : PGsD cs X es sl b) (hn : (assignEach es X.env).length = n := by rfl) (hst : (assignEach es X.env).findIdx? (·.1) = none := by rfl) : PGD cs X (.Tuple es kk pos) sl (tgLst n b) := by
  obtain ⟨g, g1, g2⟩ := h.ex
  exact ⟨_, pg_lst hc g1 hn hst, lst_ev g2⟩
/-! ### lcm, divmod -/
def cLcm : List D → Mo D
  | [.int i, .int j] => if i.natAbs < bigN ∧ j.natAbs < bigN then retM (.int ((Nat.lcm i.natAbs j.natAbs : Nat) : Int)) else failM
  | _ => failM
theorem lcm_le {a b : Nat} : Nat.lcm a b ≤ a * b := Nat.div_le_self _ _
theorem ca_lcm : CaD cs X (.builtin "math.lcm") cLcm := by
  refine ⟨fun vs H Q => ∃ i j : Int, vs = [.int i, .int j] ∧ i.natAbs < bigN ∧ j.natAbs < bigN ∧ Q (.int ((Nat.lcm i.natAbs j.natAbs : Nat) : Int)) H, ?_, fun ap B H p ds vs Q d p' e hp hb r hm q => ?_⟩
  · intro pins s σ H vs us Q I r h
    obtain ⟨i, j, rfl, hi, hj, q⟩ := h
    obtain ⟨t, u, rfl⟩ := Vals.int2 r
    have h1 : (max 1 i.natAbs).log2 ≤ 4399 := PySem.W.mg_log (by
      have : 1 < 2 ^ (4399 + 1) := by decide +kernel
      show max 1 i.natAbs < 2 ^ (4399 + 1)
      rw [Nat.max_lt]
      exact ⟨this, hi⟩)
    have h2 : (max i.natAbs j.natAbs).log2 ≤ 4399 := PySem.W.mg_log (by
      show max i.natAbs j.natAbs < 2 ^ (4399 + 1)
      rw [Nat.max_lt]
      exact ⟨hi, hj⟩)
    have g := PySem.W.mg_run_lcm i t j u (by omega) (by omega) (by
      rw [Nat.lcm_one_left, Int.natAbs_natCast]
      have h3 : Nat.lcm i.natAbs j.natAbs < 2 ^ (8799 + 1) := by
        refine Nat.lt_of_le_of_lt lcm_le (Nat.lt_of_lt_of_le (Nat.mul_lt_mul'' hi hj) ?_)
        unfold bigN
        rw [← Nat.pow_add]
        exact Nat.le_refl _
      have h4 := PySem.W.mg_log h3
      exact Nat.lt_of_le_of_lt h4 (by decide +kernel))
    rw [Nat.lcm_one_left] at g
    exact call_function_meets PySem.W.MGF.kind_lcm PySem.W.MGF.plain_lcm PySem.W.MGF.entry_lcm (PySem.W.MGF.args_lcm _ _) g.meets ⟨.int _, H, I.tok _, ⟨_, rfl⟩, q⟩
  · unfold cLcm at hm
    split at hm
    · split at hm
      · rename_i hz
        cases hm
        obtain ⟨v, w, rfl, rv, rw'⟩ := reps2 r
        simp only [Rep] at rv rw'
        exact ⟨_, _, by rw [rv, rw'], hz.1, hz.2, q B H _ (Nxt.refl e) hp (by simp only [Rep])⟩
      · cases hm
    · cases hm
end
end DL
end

section
set_option Elab.async false
set_option linter.all false
set_option maxRecDepth 100000
set_option maxHeartbeats 4000000
/-! DL: the drawing pot. -/
namespace DL
open PySem PySem.Spec PyProof.Rows L2
open Evl (Ex)
section
variable {K : PySem.W.Frag} {cs : CT} {ap : Addr} {H0 B0 B H : Hp} {σ : L2.St} {env : Env'} {p : Pt}
theorem Ok.potset (k : Ok K cs ap H0 B0 B σ env H p) (p' : Pt) : Ok K cs ap H0 B0 B σ env (upd H ap (.lst [.int p'.1, .int p'.2])) p' := by
  refine k.nxt ⟨Ex.refl _, fun a o h => ?_, fun a _ h => h, fun a o h ha => ?_, fun a h => ?_⟩ upd_same
  · have e : a ≠ ap := fun z => by rw [z, k.bap] at h; cases h
    rw [upd_ne e]; exact k.bh _ _ h
  · rw [upd_ne ha]; exact h
  · by_cases e : a = ap
    · subst e; rw [upd_same]; exact fun z => nomatch z
    · rw [upd_ne e]; exact h
end
def mPot (i : Nat) (k : Bool) : Env' → Mo D := fun env p => match env[i]? with
  | some (.val .pot) => some (.int (if k = true then p.2 else p.1), p)
  | _ => none
def mSetPot (i : Nat) (k : Bool) (m : Env' → Mo D) : MS := fun env => bindM (m env) fun d p => match d with
  | .int n => match env[i]? with
    | some (.val .pot) => some ((.nx, env), if k = true then (p.1, n) else (n, p.2))
    | _ => none
  | _ => none
def mPotDiv (i j : Nat) (m : Env' → Mo D) : MS := fun env => bindM (m env) fun d p => match d with
  | .tup [.int q, e] => match env[i]? with
    | some (.val .pot) => some ((.nx, env.set j (.val e)), (q, p.2))
    | _ => none
  | _ => none
section
variable {cs : CT} {X : Cx} {e a b : Expr} {es : List Expr} {m ma mb : Env' → Mo D} {pos : Pos}
theorem pot_slot {K : PySem.W.Frag} {ap : Addr} {H0 B0 B : Hp} {σ : L2.St} {env : Env'} {H : Hp} {p : Pt} (k : Ok K cs ap H0 B0 B σ env H p) {i : Nat} (g : env[i]? = some (.val .pot)) : σ[i]? = some (some (.ref ap)) := by
  obtain ⟨v, h1, h2⟩ := k.sl i _ g
  simp only [Rep] at h2
  rw [h1, h2]
theorem p_potIx (i : Nat) (kb : Bool) {n : Int} {x : Str} {p1 p2 : Pos} {kk} (hk : n = (if kb = true then 1 else 0) := by rfl) (hN : X.N[i]? = some x := by rfl) (hv : Vis X.env.scope x := by first | exact Or.inl rfl | exact Or.inr (Or.inl rfl) | exact Or.inr (Or.inr rfl)) (hd : (x == ("__debug__" : Str)) = false := by decide)
    (hcd : (x == ("__classdict__" : Str)) = false := by decide) (hs : PlainIx (.Constant (.int n) kk p2) := by exact fun _ _ => rfl) : PED cs X (.Subscript (.Name x p1) (.Constant (.int n) kk p2) pos) (mPot i kb) := by
  refine ⟨_, pe_ix ix_seq (pe_var hN hv hd hcd) pe_int hs, fun ap H0 B0 B σ env H p Q d p' k hm q => ?_⟩
  unfold mPot at hm
  rcases g : env[i]? with _ | _ | d' | _ | _
  · rw [g] at hm; cases hm
  · rw [g] at hm; cases hm
  · rw [g] at hm
    cases d' <;> first | (cases hm; done) | skip
    cases hm
    refine ⟨.ref ap, pot_slot k g, .inl ⟨ap, _, n, .int (if kb = true then p.2 else p.1), rfl, rfl, SqL.of k.pot, ?_, q B H _ (Nxt.refl k.bh) k.pot (by simp only [Rep])⟩⟩
    subst hk
    cases kb <;> rfl
  · rw [g] at hm; cases hm
  · rw [g] at hm; cases hm
theorem s_setPot (i : Nat) (kb : Bool) {n : Int} {x : Str} {p1 p2 tpos : Pos} {kk} (h : PED cs X e m) (hk : n = (if kb = true then 1 else 0) := by rfl) (hN : X.N[i]? = some x := by rfl) (hv : Vis X.env.scope x := by first | exact Or.inl rfl | exact Or.inr (Or.inl rfl) | exact Or.inr (Or.inr rfl)) (hd : (x == ("__debug__" : Str)) = false := by decide)
    (hcd : (x == ("__classdict__" : Str)) = false := by decide)
    (ha : ∀ v, assign (.Subscript (.Name x p1) (.Constant (.int n) kk p2) tpos) X.env v = (do
      let ov ← holding [v] (eval (.Name x p1) X.env)
      let iv ← holding [v, ov] (eval (.Constant (.int n) kk p2) X.env)
      standAt tpos
      holding [v, ov, iv] (setItem ov iv v)
      release [v, ov, iv] []) := by intro _; rfl)
    (hs : swapsWithSole [.Subscript (.Name x p1) (.Constant (.int n) kk p2) tpos] e pos.line X.env = pure false := by rfl) (hw : swappedStores [.Subscript (.Name x p1) (.Constant (.int n) kk p2) tpos] e X.env = pure none := by rfl)
    (h1 : (assignEach [.Subscript (.Name x p1) (.Constant (.int n) kk p2) tpos] X.env).map (·.2) = [assign (.Subscript (.Name x p1) (.Constant (.int n) kk p2) tpos) X.env] := by rfl) :
    PSD cs X (.Assign [.Subscript (.Name x p1) (.Constant (.int n) kk p2) tpos] e pos) (mSetPot i kb m) := by
  obtain ⟨te, a1, a2⟩ := h.ex
  refine ⟨_, ps_asg a1 (pg_sub (pe_var hN hv hd hcd) pe_int set_list ha) hs hw h1, fun ap H0 B0 B σ env H p E o env' p' k hm q => ?_⟩
  obtain ⟨d, p1, e1, e2⟩ := bindM_some hm
  cases d <;> first | (cases e2; done) | skip
  rename_i nn
  dsimp only at e2
  rcases g : env[i]? with _ | _ | d' | _ | _
  · rw [g] at e2; cases e2
  · rw [g] at e2; cases e2
  · rw [g] at e2
    cases d' <;> first | (cases e2; done) | skip
    cases e2
    refine a2 ap H0 B0 B σ env H p _ _ p1 k e1 fun B1 H1 v n1 hp1 r1 => ?_
    have k1 := k.nxt n1 hp1
    simp only [Rep] at r1
    subst r1
    have fin := q B1 σ _ n1.bb (k1.potset (if kb = true then (p1.1, nn) else (nn, p1.2)))
    refine ⟨.ref ap, pot_slot k1 g, ap, _, n, (if kb = true then 1 else 0), rfl, rfl, hp1, ?_, ?_⟩
    · subst hk
      cases kb <;> rfl
    · cases kb <;> exact fin
  · rw [g] at e2; cases e2
  · rw [g] at e2; cases e2
theorem s_potDiv (i j : Nat) {x y : Str} {p1 p2 tpos py tp : Pos} {kk kt} (hc : X.calm = true) (hNd : X.N.Nodup) (h : PED cs X e m) (hN : X.N[i]? = some x := by rfl) (hv : Vis X.env.scope x := by first | exact Or.inl rfl | exact Or.inr (Or.inl rfl) | exact Or.inr (Or.inr rfl)) (hd : (x == ("__debug__" : Str)) = false := by decide)
    (hcd : (x == ("__classdict__" : Str)) = false := by decide)
    (ha : ∀ v, assign (.Subscript (.Name x p1) (.Constant (.int 0) kk p2) tpos) X.env v = (do
      let ov ← holding [v] (eval (.Name x p1) X.env)
      let iv ← holding [v, ov] (eval (.Constant (.int 0) kk p2) X.env)
      standAt tpos
      holding [v, ov, iv] (setItem ov iv v)
      release [v, ov, iv] []) := by intro _; rfl)
    (hj : X.N[j]? = some y := by rfl) (hy : Loc X.env.scope y := by first | exact Or.inl rfl | exact Or.inr rfl) (hf : X.fn y = true ∨ X.env.scope.names.lookup y = some .local := by first | exact .inl rfl | exact .inr rfl)
    (hg1 : (assignEach [.Subscript (.Name x p1) (.Constant (.int 0) kk p2) tpos, .Name y py] X.env).map (·.2) = assign (.Subscript (.Name x p1) (.Constant (.int 0) kk p2) tpos) X.env :: (assignEach [.Name y py] X.env).map (·.2) := by rfl)
    (hg2 : (assignEach [.Name y py] X.env).map (·.2) = assign (.Name y py) X.env :: (assignEach [] X.env).map (·.2) := by rfl)
    (hn : (assignEach [.Subscript (.Name x p1) (.Constant (.int 0) kk p2) tpos, .Name y py] X.env).length = 2 := by rfl) (hst : (assignEach [.Subscript (.Name x p1) (.Constant (.int 0) kk p2) tpos, .Name y py] X.env).findIdx? (·.1) = none := by rfl)
    (hs : swapsWithSole [.Tuple [.Subscript (.Name x p1) (.Constant (.int 0) kk p2) tpos, .Name y py] kt tp] e pos.line X.env = pure false := by rfl) (hw : swappedStores [.Tuple [.Subscript (.Name x p1) (.Constant (.int 0) kk p2) tpos, .Name y py] kt tp] e X.env = pure none := by rfl)
    (h1 : (assignEach [.Tuple [.Subscript (.Name x p1) (.Constant (.int 0) kk p2) tpos, .Name y py] kt tp] X.env).map (·.2) = [assign (.Tuple [.Subscript (.Name x p1) (.Constant (.int 0) kk p2) tpos, .Name y py] kt tp) X.env] := by rfl) :
    PSD cs X (.Assign [.Tuple [.Subscript (.Name x p1) (.Constant (.int 0) kk p2) tpos, .Name y py] kt tp] e pos) (mPotDiv i j m) := by
  obtain ⟨te, a1, a2⟩ := h.ex
  refine ⟨_, ps_asg a1 (pg_tup hc (pgs_cons (pg_sub (pe_var hN hv hd hcd) pe_int set_list ha) (pgs_cons (pg_name hNd hj hy hf) pgs_nil hg2) hg1) hn hst) hs hw h1, fun ap H0 B0 B σ env H p E o env' p' k hm q => ?_⟩
  obtain ⟨d, p1, e1, e2⟩ := bindM_some hm
  split at e2
  · rename_i qq ee
    rcases g : env[i]? with _ | _ | d' | _ | _
    · rw [g] at e2; cases e2
    · rw [g] at e2; cases e2
    · rw [g] at e2
      cases d' <;> first | (cases e2; done) | skip
      cases e2
      refine a2 ap H0 B0 B σ env H p _ _ p1 k e1 fun B1 H1 v n1 hp1 r1 => ?_
      have k1 := k.nxt n1 hp1
      simp only [Rep] at r1
      obtain ⟨t, xs, rfl, h3, rr⟩ := r1
      obtain ⟨v1, v2, rfl, r1, r2⟩ := reps2 rr
      simp only [Rep] at r1
      subst r1
      refine ⟨t, _, rfl, Evl.ex_t n1.bh h3, rfl, _, _, rfl, ⟨.ref ap, pot_slot k1 g, ap, _, 0, 0, rfl, rfl, hp1, rfl, ?_⟩⟩
      have k2 := k1.potset (qq, p1.2)
      exact ⟨_, _, rfl, rfl, q B1 _ _ n1.bb (k2.setv' r2)⟩
    · rw [g] at e2; cases e2
    · rw [g] at e2; cases e2
  · cases e2
def cDivmod : List D → Mo D
  | [.int i, .int j] => if 0 < j ∧ j < 2 ^ 64 then retM (.tup [.int (i / j), .int (i % j)]) else failM
  | _ => failM
theorem ca_divmod : CaD cs X (.builtin "divmod") cDivmod := by
  refine ⟨_, call_divmodW, fun ap B H p ds vs Q d p' e hp hb r hm q => ?_⟩
  unfold cDivmod at hm
  split at hm
  · split at hm
    · rename_i i j hz
      cases hm
      obtain ⟨v, w, rfl, rv, rw'⟩ := reps2 r
      simp only [Rep] at rv rw'
      have hl : j.natAbs.log2 < 9000 := Nat.lt_of_le_of_lt (PySem.W.mg_log (k := 63) (by have := hz.2; have := hz.1; omega)) (by decide)
      exact ⟨i, j, by rw [rv, rw'], ⟨hz.1, PyProof.noPylong_of_log2 hl⟩, q.newT e hp (reps_cons (by simp only [Rep]) (reps_cons (by simp only [Rep]) reps_nil))⟩
    · cases hm
  · cases hm
end
end DL
end

section
set_option Elab.async false
set_option linter.all false
set_option maxRecDepth 100000
set_option maxHeartbeats 4000000
/-! DL: __init__. -/
namespace DL
open PySem PySem.Spec PyProof.Rows L2
open Evl (Ex)
/-- self.f = e, the next attribute -/
def mFldSet (i : Nat) (m : Env' → Mo D) : MS := fun env => bindM (m env) fun d => match env[i]? with
  | some (.mk c ds) => retM (.nx, env.set i (.mk c (ds ++ [d])))
  | _ => failM
theorem putF_new {f : Str} {v : V} : ∀ {fs : List (Str × V)}, f ∉ fs.map (·.1) → putF f v fs = fs ++ [(f, v)]
  | [], _ => rfl
  | (g, x) :: r, h => by
    rw [List.map_cons, List.mem_cons, not_or] at h
    unfold putF
    rw [if_neg (fun z => h.1 z.symm), putF_new h.2]
    rfl
section
variable {cs : CT} {X : Cx} {e a b : Expr} {es : List Expr} {m ma mb : Env' → Mo D} {pos : Pos} {C f : Addr} {fn : List Str} {c k : Nat} {fd : FuncData} {ps : List Str} {g : Bool} {fm : List D → Mo D}
/-- which attribute comes next: said by the length -/
def mFldAt (c i n : Nat) (m : Env' → Mo D) : MS := fun env => match env[i]? with
  | some (.mk c' ds) => if c' = c ∧ ds.length = n then mFldSet i m env else failM
  | _ => failM
theorem s_fld (i n : Nat) {x : Str} {fl : Str} {p1 apos : Pos} (T : ClsAt X.K cs c C fn) (hna : NoAttr X.K C fl) (h : PED cs X e m) (hfl : fn[n]? = some fl := by rfl) (hn1 : fn.length < 1000 := by decide)
    (hN : X.N[i]? = some x := by rfl) (hv : Vis X.env.scope x := by first | exact Or.inl rfl | exact Or.inr (Or.inl rfl) | exact Or.inr (Or.inr rfl)) (hd : (x == ("__debug__" : Str)) = false := by decide) (hcd : (x == ("__classdict__" : Str)) = false := by decide)
    (hs : swapsWith e (some (.Attribute (.Name x p1) fl apos)) pos.line X.env = pure false := by rfl) :
    PSD cs X (.Assign [.Attribute (.Name x p1) fl apos] e pos) (mFldAt c i n m) := by
  obtain ⟨te, h1, h2⟩ := h.ex
  refine ⟨_, ps_fld (pe_var hN hv hd hcd) h1 hs, fun ap H0 B0 B σ env H p E o env' p' k hm q => ?_⟩
  unfold mFldAt at hm
  rcases g : env[i]? with _ | _ | d' | _ | ⟨c', ds⟩
  · rw [g] at hm; cases hm
  · rw [g] at hm; cases hm
  · rw [g] at hm; cases hm
  · rw [g] at hm; cases hm
  · rw [g] at hm
    dsimp only at hm
    split at hm
    case isFalse => cases hm
    rename_i hc
    obtain ⟨hc, hl⟩ := hc
    subst hc
    obtain ⟨d, p1, e1, e2⟩ := bindM_some hm
    rw [g] at e2
    cases e2
    obtain ⟨a', C', fn', dx, fs, g1, g2, g3, g4, g5, g6, g7⟩ := k.sl i _ g
    rw [T.at_] at g2
    cases g2
    have nap : a' ≠ ap := fun z => k.hap (z ▸ k.prvNew i _ a' g rfl g1)
    refine h2 ap H0 B0 B σ env H p _ d p' k e1 fun B1 H1 v n1 hp1 r1 => ?_
    have k1 := k.nxt n1 hp1
    have h4 : H1 a' = some (.ins C dx fs) := n1.fr _ _ g4 nap
    have hnd : fl ∉ fs.map (·.1) := fun z => by
      rw [g5, hl] at z
      obtain ⟨j, hj, hz⟩ := List.mem_iff_getElem.mp z
      rw [List.getElem_take] at hz
      have hjn : j < n := by rw [List.length_take] at hj; omega
      have e3 := T.nd
      have e4 := (List.getElem?_eq_some_iff.mp hfl)
      obtain ⟨e5, e6⟩ := e4
      exact (List.pairwise_iff_getElem.mp e3) j n (by omega) e5 hjn (hz.trans e6.symm)
    refine ⟨.ref a', g1, a', C, dx, fs, rfl, h4, T.cl, hna, ?_, ?_⟩
    · rw [g6, hl]
      have := (List.getElem?_eq_some_iff.mp hfl).1
      omega
    · refine q B1 σ _ n1.bb (k1.mutp g rfl g1 (n1.nw _ (by rw [g4]; exact (fun z => nomatch z)) g3) rfl ?_ ?_)
      · rw [putF_new hnd]
        refine ⟨a', C, fn, dx, fs ++ [(fl, v)], rfl, T.at_, n1.nw _ (by rw [g4]; exact (fun z => nomatch z)) g3, upd_same, ?_, ?_, ?_⟩
        · rw [List.map_append, g5, List.length_append, hl]
          show fn.take n ++ [fl] = fn.take (n + 1)
          rw [List.take_add_one, hfl]; rfl
        · rw [List.length_append, List.length_append, g6]; rfl
        · rw [List.map_append]
          exact (g7.mono n1.bb).append (reps_cons r1 reps_nil)
      · exact fun _ _ _ => ⟨_, _, rfl⟩
/-- self.f, self being made -/
def mFldMk (c i n : Nat) : Env' → Mo D := fun env => match env[i]? with
  | some (.mk c' ds) => if c' = c then match ds[n]? with
      | some d => retM d
      | none => failM
    else failM
  | _ => failM
theorem p_fldMk (i n : Nat) {x fl : Str} {p1 : Pos} (T : ClsAt X.K cs c C fn) (hna : NoAttr X.K C fl) (hfl : fn[n]? = some fl := by rfl) (hN : X.N[i]? = some x := by rfl) (hv : Vis X.env.scope x := by first | exact Or.inl rfl | exact Or.inr (Or.inl rfl) | exact Or.inr (Or.inr rfl)) (hd : (x == ("__debug__" : Str)) = false := by decide)
    (hcd : (x == ("__classdict__" : Str)) = false := by decide) (hb : attributeBase (.Name x p1) fl X.env (eval (.Name x p1) X.env) = eval (.Name x p1) X.env := by rfl) : PED cs X (.Attribute (.Name x p1) fl pos) (mFldMk c i n) := by
  refine ⟨_, pe_fld (pe_var hN hv hd hcd) hb, fun ap H0 B0 B σ env H p Q d p' k hm q => ?_⟩
  unfold mFldMk at hm
  rcases g : env[i]? with _ | _ | d' | _ | ⟨c', ds⟩
  · rw [g] at hm; cases hm
  · rw [g] at hm; cases hm
  · rw [g] at hm; cases hm
  · rw [g] at hm; cases hm
  · rw [g] at hm
    dsimp only at hm
    split at hm
    case isFalse => cases hm
    rename_i hc
    subst hc
    rcases z : ds[n]? with _ | d2
    · rw [z] at hm; cases hm
    · rw [z] at hm
      cases hm
      obtain ⟨a', C', fn', dx, fs, g1, g2, g3, g4, g5, g6, g7⟩ := k.sl i _ g
      rw [T.at_] at g2
      cases g2
      obtain ⟨v, hv1, hv2⟩ := g7.get z
      refine ⟨.ref a', g1, a', C, dx, fs, v, rfl, g4, T.cl, hna, lookup_at (by rw [g5]; exact List.Nodup.sublist (List.take_sublist _ _) T.nd) (i := n) ?_ hv1, q B H v (Nxt.refl k.bh) k.pot hv2⟩
      rw [g5, List.getElem?_take, if_pos (List.getElem?_eq_some_iff.mp z).1]
      exact hfl
end
/-- the slots at an __init__'s entry -/
def envI (n c : Nat) (ds : List D) : Env' := .mk c [] :: (ds.map .val ++ List.replicate (n - (ds.length + 1)) .un)
/-- what an __init__ makes -/
def runI (n c nf : Nat) (m : MS) : List D → Mo D := fun ds => bindM (m (envI n c ds)) fun (r : Out × Env') => match r.1 with
  | .nx => match (r.2[0]? : Option SV) with
    | some (.mk c' fs) => if c' = c ∧ fs.length = nf then retM (.ins c fs) else failM
    | _ => failM
  | _ => failM
theorem ok_startI {K : PySem.W.Frag} {cs : CT} {ap : Addr} {B H : Hp} {N : List Str} {c : Nat} {C x dx : Addr} {fn : List Str} {ds : List D} {vs : List V} {p : Pt} (hc : cs c = some (C, fn)) (e : Ex B H) (hp : PotAt ap H p) (hb : B ap = none) (r : Reps K cs ap B ds vs) (hx : H x = none) (hdx : H dx = none) (hne : dx ≠ x) :
    Ok K cs ap (upd H ap (.own x)) B B (L2.start N (.ref x :: vs)) (envI N.length c ds) (upd (upd H dx (.own x)) x (.ins C dx [])) p := by
  have n1 : Nxt ap B H B (upd H dx (.own x)) := Nxt.newU e hdx
  have hx1 : (upd H dx (.own x)) x = none := by rw [upd_ne (fun z => hne z.symm)]; exact hx
  have n2' : Nxt ap B H B (upd (upd H dx (.own x)) x (.ins C dx [])) := n1.trans (Nxt.newU n1.bh hx1)
  have n2 : Nxt ap B (upd H ap (.own x)) B (upd (upd H dx (.own x)) x (.ins C dx [])) := by
    refine ⟨n2'.bb, n2'.bh, fun a _ h => h, fun a o h ha => ?_, fun a h => ?_⟩
    · rw [upd_ne ha] at h; exact n2'.fr a o h ha
    · by_cases z : a = ap
      · subst z; exact n2'.nn _ (by rw [show H a = _ from hp]; exact (fun z => nomatch z))
      · rw [upd_ne z] at h; exact n2'.nn a h
  have hl := r.length
  have prv : ∀ (i : Nat) sv, (envI N.length c ds)[i]? = some sv → sv.prv = true → i = 0 := fun i sv h g => by
    unfold envI at h
    cases i with
    | zero => rfl
    | succ i =>
      rw [List.getElem?_cons_succ, List.getElem?_append] at h
      split at h
      · rw [List.getElem?_map] at h
        cases z : ds[i]? with
        | none => rw [z] at h; cases h
        | some d => rw [z] at h; cases h; cases g
      · rw [List.getElem?_replicate] at h
        split at h
        · cases h; cases g
        · cases h
  have xap : x ≠ ap := fun z => by rw [z] at hx; rw [show H ap = _ from hp] at hx; cases hx
  refine ⟨n2, (hp.new hdx).new hx1, hb, by rw [upd_same]; exact (fun z => nomatch z), fun i sv h => ?_, fun i sv a h g h' => ?_, fun i j sv sv' a hn h h' g g' _ => ?_, by unfold L2.start envI; simp [hl], fun i c' es a h h' => ?_⟩
  · unfold envI at h
    unfold L2.start
    cases i with
    | zero =>
      cases h
      exact ⟨x, C, fn, dx, [], rfl, hc, Evl.fresh_back e hx, upd_same, rfl, rfl, reps_nil⟩
    | succ i =>
      rw [List.getElem?_cons_succ, List.getElem?_append] at h
      rw [List.map_cons, List.cons_append, List.getElem?_cons_succ]
      split at h
      · rename_i hi
        rw [List.getElem?_map] at h
        cases z : ds[i]? with
        | none => rw [z] at h; cases h
        | some d =>
          rw [z] at h
          cases h
          rw [List.length_map] at hi
          rw [List.getElem?_append_left (by rw [List.length_map]; omega)]
          exact reps_map r z
      · rw [List.getElem?_replicate] at h
        split at h
        · cases h; trivial
        · cases h
  · have := prv i sv h g
    subst this
    unfold L2.start at h'
    cases h'
    rw [upd_ne xap]
    exact hx
  · have h1 := prv i sv h g
    have h2 := prv j sv' h' g'
    omega
  · have := prv i _ h rfl
    subst this
    unfold L2.start at h'
    cases h'
    exact upd_same
/-- THE RULE of an __init__ -/
theorem fn_i {g : Bool} {cs : CT} {P : Program} {w : World} {K : PySem.W.Frag} {mg : Str → Option Value} {base : Heap} {k c : Nat} {C f : Addr} {fn : List Str} {name qual : Str} {params : Arguments} {body : List Stmt} {scope : Scope} {dvs : List V} {kws : List (Str × V)} {fd : FuncData} {N ps : List Str} {m : MS} {n : Nat}
    (T : ClsAt K cs c C fn) (F : FunD K name qual params body scope dvs kws f fd) (S : FnScope N ps scope) (hps : ps.length = n + 1)
    (hbody : ∀ (cdv : Value) (A : Around) (outer : List Env) (s : Shared) (H : Hp) (E : XK), Room k (A.deeper (envOfC qual scope s.heap.objs.size f cdv)) → (g = true → A.guards = some []) →
      PSsD cs (cx0 P w K mg base N qual scope f cdv A outer s H E) body m) : FnD g P w K mg base (k + 1) f fd ps (spMk K cs C n (runI N.length c fn.length m)) := by
  refine fn_enter F S (fun vs H Q E h => ?_) fun cdv A outer s H vs Q E hr hg h => ?_
  · obtain ⟨x, dx, H1, us, rfl, hl, _⟩ := h
    rw [List.length_cons, hl, hps]
  · obtain ⟨x, dx, H1, us, rfl, hl, rfl, hx, hdx, hne, ap, B, ds, p, d, p', e, hp, hb, r, hm, q⟩ := h
    obtain ⟨t, ht, hv⟩ := (hbody cdv A outer s _ E hr hg).ex
    refine ⟨t, ht, ?_⟩
    obtain ⟨⟨o, env'⟩, p1, e1, e2⟩ := bindM_some hm
    refine hv ap (upd H1 ap (.own x)) B B _ _ _ p _ o env' p1 (ok_startI T.at_ e hp hb r hx hdx hne) e1 ?_
    cases o with
    | nx =>
      dsimp only at e2
      rcases g : env'[0]? with _ | _ | d' | _ | ⟨c', fs⟩
      · rw [g] at e2; cases e2
      · rw [g] at e2; cases e2
      · rw [g] at e2; cases e2
      · rw [g] at e2; cases e2
      · rw [g] at e2
        dsimp only at e2
        split at e2
        case isFalse => cases e2
        rename_i hc
        obtain ⟨hc, hlen⟩ := hc
        subst hc
        cases e2
        intro B' σ' H' ex k'
        obtain ⟨a, C', fn', dx', fs', g1, g2, g3, g4, g5, g6, g7⟩ := k'.sl 0 _ g
        have hself := k'.mkAt 0 _ _ a g g1
        rw [upd_same] at hself
        cases hself
        rw [T.at_] at g2
        cases g2
        have nxap : x ≠ ap := fun z => by rw [z] at hx; rw [show H1 ap = _ from hp] at hx; cases hx
        have e1 : Ex B' (upd B' x (.ins C dx' fs')) := Ex.new g3
        have nst := k'.st
        refine q (upd B' x (.ins C dx' fs')) H' ⟨nst.bb.trans e1, fun b u hb => ?_, fun b hb hb' => ?_, fun b u hb hn => ?_, fun b hb => ?_⟩ k'.pot ?_
        · by_cases z : b = x
          · subst z; rw [upd_same] at hb; rw [g4]; exact hb
          · rw [upd_ne z] at hb; exact k'.bh _ _ hb
        · have z : b ≠ x := fun z => hb (z ▸ hx)
          rw [upd_ne z]
          by_cases y : b = ap
          · subst y; exact k'.bap
          · exact nst.nw b (by rw [upd_ne y]; exact hb) hb'
        · exact nst.fr b u (by rw [upd_ne hn]; exact hb) hn
        · by_cases y : b = ap
          · subst y; rw [show H' b = _ from k'.pot]; exact (fun z => nomatch z)
          · exact nst.nn b (by rw [upd_ne y]; exact hb)
        · simp only [Rep]
          refine ⟨x, C, fn, dx', fs', rfl, T.at_, upd_same, ?_, g7.mono e1⟩
          rw [g5, hlen, List.take_length]
    | rt d' => cases e2
    | ro ds' => cases e2
    | bk => cases e2
    | ct => cases e2
end DL
end

section
set_option Elab.async false
set_option linter.all false
set_option maxRecDepth 100000
set_option maxHeartbeats 4000000
/-! DL: the facts of the module, read at the head. -/
namespace DL
open PySem PySem.Spec PyProof.Rows L2
abbrev Fr' := PySem.W.Frag
/-- a def by a path of one's own -/
structure DefZ where
  adr : Fr' → Addr
  name : Str
  qual : Str
  params : Arguments
  body : List Stmt
  scope : Scope
  dfl : List He.Dv := []
def fnZ (K : Fr') (a : Addr) : He.FnW := match K.lookup a with
  | some ⟨_, _, .func fd, _⟩ => some (fd.name, fd.qualname, fd.params, fd.body, fd.scope, fd.globals, fd.closure, fd.builtins)
  | _ => none
def DefZ.val (d : DefZ) : He.FnW := some (d.name, d.qual, d.params, .stmts d.body, d.scope, mainGlobals, [], builtinsNs)
def DefZ.dvs (K : Fr') (d : DefZ) : List V := d.dfl.map (He.Dv.v K)
def DefZ.ok (K : Fr') (d : DefZ) : Bool := PySem.W.keepIn K (.ref (d.adr K)) && (match K.lookup (d.adr K) with
  | some ⟨_, _, .func fd, _⟩ => PySem.W.codeIn K fd.code d.qual && (He.dflB K fd.defaults (d.dvs K) && He.kwdB K fd.kwdefaults [])
  | _ => false)
theorem DefZ.funD {K : Fr'} {d : DefZ} (e : fnZ K (d.adr K) = d.val) (c : d.ok K = true) : ∃ fd, FunD K d.name d.qual d.params d.body d.scope (d.dvs K) [] (d.adr K) fd := by
  obtain ⟨kp, c2⟩ := He.ba c
  unfold fnZ at e
  cases q : K.lookup (d.adr K) with
  | none =>
    rw [q] at c2
    cases c2
  | some o =>
    obtain ⟨oc, od, dt, osl⟩ := o
    rw [q] at c2 e
    cases dt with
    | func fd =>
      obtain ⟨n1, n2, n3, n4, n5, n6, n7, n8, n9, n10, n11, n12, n13, n14, n15⟩ := fd
      have e2 : (some (n1, n2, n3, n4, n5, n6, n7, n15) : He.FnW) = some (d.name, d.qual, d.params, .stmts d.body, d.scope, mainGlobals, [], builtinsNs) := e
      simp only [Option.some.injEq, Prod.mk.injEq] at e2
      obtain ⟨h1, h2, h3, h4, h5, h6, h7, h8⟩ := e2
      subst h1 h2 h3 h4 h5 h6 h7 h8
      have c3 : (PySem.W.codeIn K n13 d.qual && (He.dflB K n8 (d.dvs K) && He.kwdB K n9 [])) = true := c2
      obtain ⟨k1, k2⟩ := He.ba c3
      obtain ⟨k3, k4⟩ := He.ba k2
      exact ⟨_, ⟨oc, od, n8, n9, n10, n11, n12, n13, n14, osl, rfl, q, k1, He.dflB_ok k3, He.kwdB_ok k4⟩, kp⟩
    | _ => cases c2
def obsZ (ex : List (Fr' → Bool)) (fn : List DefZ) (K : Fr') : He.AlD := ((ex.all fun f => f K) && fn.all fun d => d.ok K, fn.map fun d => fnZ K (d.adr K))
def valZ (fn : List DefZ) : He.AlD := (true, fn.map DefZ.val)
def SaysZ (ex : List (Fr' → Bool)) (fn : List DefZ) (K : Fr') : Prop := obsZ ex fn K = valZ fn
def obsZG (n : Nat) (ex : List (Fr' → Bool)) (fn : List DefZ) (g : Addr → Option Obj) : He.AlD := obsZ ex fn (He.frG g (He.asD g n))
def hookZ (n : Nat) (ex : List (Fr' → Bool)) (fn : List DefZ) : PySem.W.Hook where
  α := He.AlD
  obs := fun s => obsZG n ex fn s.heap.get?
  val := fun _ => valZ fn
  says := fun _ h => ∃ K : Fr', K.In h ∧ SaysZ ex fn K
  of := fun _ _ e => ⟨_, He.frG_in, e⟩
  keeps := fun _ _ _ ⟨K, hK, c⟩ k => ⟨K, PySem.W.Frag.In.keeps hK k, c⟩
theorem obsZG_eq {n : Nat} {ex : List (Fr' → Bool)} {fn : List DefZ} {g : Addr → Option Obj} {s : Shared} (h : ∀ a, g a = s.heap.get? a) : obsZG n ex fn g = (hookZ n ex fn).obs s := by
  have e : g = s.heap.get? := funext h
  rw [e] <;> rfl
section
variable {ex : List (Fr' → Bool)} {fn : List DefZ} {K : Fr'}
theorem SaysZ.fact (c : SaysZ ex fn K) (i : Nat) {f : Fr' → Bool} (h : ex[i]? = some f := by rfl) : f K = true := by
  have c1 := (He.ba (show ((ex.all fun f => f K) && fn.all fun d => d.ok K) = true from congrArg (fun z : He.AlD => z.1) c)).1
  exact List.all_eq_true.mp c1 f (List.mem_of_getElem? h)
theorem SaysZ.def_ (c : SaysZ ex fn K) (i : Nat) {d : DefZ} (h : fn[i]? = some d := by rfl) : ∃ fd, FunD K d.name d.qual d.params d.body d.scope (d.dvs K) [] (d.adr K) fd := by
  have c2 := (He.ba (show ((ex.all fun f => f K) && fn.all fun d => d.ok K) = true from congrArg (fun z : He.AlD => z.1) c)).2
  have e : fn.map (fun d => fnZ K (d.adr K)) = fn.map DefZ.val := congrArg (fun z : He.AlD => z.2) c
  have e2 : (fn.map fun d => fnZ K (d.adr K))[i]? = (fn.map DefZ.val)[i]? := by rw [e]
  rw [List.getElem?_map, List.getElem?_map, h] at e2
  exact DefZ.funD (Option.some.inj e2) (List.all_eq_true.mp c2 d (List.mem_of_getElem? h))
end
/-! ### tests of the module -/
def tGlo (x : Str) : Fr' → Bool := fun K => (He.Fa.glo x).ok K
def tFree (x : Str) : Fr' → Bool := fun K => (He.Fa.free x).ok K
def tInt (x : Str) (i : Int) : Fr' → Bool := fun K => (He.Fa.int x i).ok K
def tStr (x z : Str) : Fr' → Bool := fun K => (He.Fa.str x z).ok K
def tCls (x : Str) : Fr' → Bool := fun K => (He.Fa.cls x).ok K
def tNoat (x f : Str) : Fr' → Bool := fun K => (He.Fa.noat x f).ok K
def tMeth (x m : Str) : Fr' → Bool := fun K => (He.Fa.meth x m).ok K
def tMkr (x : Str) : Fr' → Bool := fun K => (He.Fa.mkr x).ok K
def tBi (x : Str) (id : String) : Fr' → Bool := fun K => He.eqO (PySem.W.nsIn K mainGlobals x) (some (some (.builtin id)))
theorem tBi_ok {K : Fr'} {h : Heap} {mg : Str → Option Value} {x : Str} {id : String} (X : K.In h) (G : h.Ns mainGlobals mg) (c : tBi x id K = true) : mg x = some (.builtin id) := PySem.W.mg_of X G (He.eqO_ok c)
def csL (l : List (Addr × List Str)) : CT := fun c => l[c]?
def ob (a : Option Bool) (b : Bool) : Bool := decide (a = some b)
def tyfB (K : Fr') (C : Addr) : Bool := He.eqO (PySem.W.findIn K (.ref C) "__class__") (some (some (.builtin "object.__class__"))) && (He.eqO (PySem.W.specialIn K (.builtin "object.__class__") "__get__") (some (some (.builtin "getset_descriptor.__get__"))) &&
  (ob (PySem.W.takesIn K (.builtin "object.__class__")) true && ob (PySem.W.mroIn K C (.type "object")) true))
def isi1 (K : Fr') (C : Addr) : Bool := tyfB K C && ((["int", "bool", "list", "tuple", "str"].all fun n => ob (PySem.W.kitOne K (.ref C) (.type n)) false) && (tyNames.all fun n => ob (PySem.W.kitOne K (.type n) (.ref C)) false))
def isiB (K : Fr') (l : List (Addr × List Str)) : Bool := (l.all fun p => isi1 K p.1) && ((List.range l.length).all fun i => (List.range l.length).all fun j => match l[i]?, l[j]? with
  | some p, some q => ob (PySem.W.kitOne K (.ref p.1) (.ref q.1)) (i == j)
  | _, _ => true)
theorem isiB_ok {K : Fr'} {l : List (Addr × List Str)} (hc : ∀ p ∈ l, Cls K p.1) (h : isiB K l = true) : IsiF K (csL l) := by
  obtain ⟨h1, h2⟩ := He.ba h
  have one : ∀ c C fn, csL l c = some (C, fn) → isi1 K C = true ∧ Cls K C := fun c C fn e => ⟨List.all_eq_true.mp h1 (C, fn) (List.mem_of_getElem? e), hc (C, fn) (List.mem_of_getElem? e)⟩
  refine ⟨fun c C fn e => ?_, fun c C fn e n hn => ?_, fun c C fn e n hn => ?_, fun c C fn c' C' fn' e e' => ?_⟩
  · obtain ⟨a, cl⟩ := one c C fn e
    obtain ⟨a1, a2⟩ := He.ba a
    obtain ⟨b1, b2⟩ := He.ba a1
    obtain ⟨b3, b4⟩ := He.ba b2
    obtain ⟨b5, b6⟩ := He.ba b4
    exact ⟨cl, He.eqO_ok b1, He.eqO_ok b3, of_decide_eq_true b5, of_decide_eq_true b6⟩
  · obtain ⟨a, cl⟩ := one c C fn e
    obtain ⟨a1, a2⟩ := He.ba a
    exact of_decide_eq_true (List.all_eq_true.mp (He.ba a2).1 n hn)
  · obtain ⟨a, cl⟩ := one c C fn e
    obtain ⟨a1, a2⟩ := He.ba a
    exact of_decide_eq_true (List.all_eq_true.mp (He.ba a2).2 n hn)
  · have hi : c < l.length := (List.getElem?_eq_some_iff.mp e).1
    have hj : c' < l.length := (List.getElem?_eq_some_iff.mp e').1
    have h3 := List.all_eq_true.mp (List.all_eq_true.mp h2 c (List.mem_range.mpr hi)) c' (List.mem_range.mpr hj)
    have g1 : l[c]? = some (C, fn) := e
    have g2 : l[c']? = some (C', fn') := e'
    rw [g1, g2] at h3
    exact of_decide_eq_true h3
def opfB (K : Fr') (C f : Addr) (op : Operator) : Bool := PySem.W.selfFirst K C && (He.eqO (PySem.W.findIn K (.ref C) (PySem.dunder op.info.2)) (some (some (.ref f))) && (PySem.W.isFn K (.ref f) &&
  ((match PySem.W.findIn K (.ref C) (dunderR op.info.2) with
    | some none => true
    | some (some (.ref _)) => true
    | _ => false) && ((PySem.W.findIn K (.type "int") (PySem.dunder op.info.2)).isSome && ((PySem.W.findIn K (.type "int") (dunderR op.info.2)).isSome && ob (PySem.W.subIn K (.type "int") (.ref C)) false)))))
theorem opfB_ok {K : Fr'} {C f : Addr} {op : Operator} (h : opfB K C f op = true) : OpF K C f op := by
  obtain ⟨h1, h⟩ := He.ba h
  obtain ⟨h2, h⟩ := He.ba h
  obtain ⟨h3, h⟩ := He.ba h
  obtain ⟨h4, h⟩ := He.ba h
  obtain ⟨h5, h⟩ := He.ba h
  obtain ⟨h6, h7⟩ := He.ba h
  refine ⟨h1, He.eqO_ok h2, h3, ?_, Option.isSome_iff_exists.mp h5, Option.isSome_iff_exists.mp h6, of_decide_eq_true h7⟩
  rcases z : PySem.W.findIn K (.ref C) (dunderR op.info.2) with _ | _ | v
  · rw [z] at h4; cases h4
  · exact ⟨none, rfl, .inl rfl⟩
  · rw [z] at h4
    cases v <;> first | (cases h4; done) | exact ⟨_, rfl, .inr ⟨_, rfl⟩⟩
/-- a property's getter -/
def proA (K : Fr') (C : Addr) (x : Str) : Addr := match PySem.W.findIn K (.ref C) x with
  | some (some (.ref a)) => a
  | _ => 0
/-- the classes at unlike places -/
def injB (l : List (Addr × List Str)) : Bool := decide (l.map (·.1)).Nodup
theorem injB_ok {l : List (Addr × List Str)} (h : injB l = true) : ∀ c c' C fn fn', csL l c = some (C, fn) → csL l c' = some (C, fn') → c = c' := by
  intro c c' C fn fn' e e'
  have nd : (l.map (·.1)).Nodup := of_decide_eq_true h
  have g1 : l[c]? = some (C, fn) := e
  have g2 : l[c']? = some (C, fn') := e'
  obtain ⟨i1, i2⟩ := List.getElem?_eq_some_iff.mp g1
  obtain ⟨j1, j2⟩ := List.getElem?_eq_some_iff.mp g2
  have pw := List.pairwise_iff_getElem.mp nd
  rcases Nat.lt_trichotomy c c' with z | z | z
  · exact absurd (show (l.map (·.1))[c]'(by rw [List.length_map]; exact i1) = (l.map (·.1))[c']'(by rw [List.length_map]; exact j1) by rw [List.getElem_map, List.getElem_map, i2, j2]) (pw c c' _ _ z)
  · exact z
  · exact absurd (show (l.map (·.1))[c']'(by rw [List.length_map]; exact j1) = (l.map (·.1))[c]'(by rw [List.length_map]; exact i1) by rw [List.getElem_map, List.getElem_map, i2, j2]) (pw c' c _ _ z)
/-- what is known of a def that may be called -/
structure Has (g : Bool) (P : Program) (w : World) (K : Fr') (mg : Str → Option Value) (base : Heap) (k : Nat) (f : Addr) (ps : List Str) (sp : Sp) : Prop where
  ex : ∃ fd, FnD g P w K mg base k f fd ps sp ∧ PySem.W.keepIn K (.ref f) = true ∧ Binds K fd ps []
/-- .. by names too -/
theorem FunD.kwB {K : Fr'} {x qual : Str} {params : Arguments} {body : List Stmt} {scope : Scope} {kws : List (Str × V)} {f : Addr} {fd : FuncData} (F : FunD K x qual params body scope [] kws f fd) (ps ks : List Str) (ix : List Nat)
    (h : ∀ (kV doc pm : Value) (an : Option Addr) (cdv ct : Value) (ws : List Value), ws.length = ks.length → bindArgs (PySem.W.fnOf x qual params body scope .none kV doc pm an cdv ct) ⟨[], ks.zip ws⟩ = pure (ps.zip (pick ix ws))) : KwB fd ps ks ix := by
  obtain ⟨oc, od, dV, kV, doc, pm, an, cdv, ct, osl, rfl, lk, hcd, hD, hK⟩ := F.ex
  rcases hD with ⟨_, rfl⟩ | ⟨e, _⟩
  · intro s ws hl
    exact .of_eq (h kV doc pm an cdv ct ws hl)
  · exact absurd rfl e
end DL
end

section
set_option Elab.async false
set_option linter.all false
set_option maxRecDepth 100000
set_option maxHeartbeats 4000000
/-! DL: what the printed walks lean on. -/
namespace DL
open PySem PySem.Spec PyProof.Rows L2
open Evl (Ex)
/-- an own list is a datum from here on; a datum stays one -/
def mFrz (i : Nat) (m : MS) : MS := fun env => match env[i]? with
  | some (.own ds) => m (env.set i (.val (.lst ds)))
  | _ => m env
section
variable {cs : CT} {X : Cx} {e a b : Expr} {es : List Expr} {sts : List Stmt} {m ma mb : Env' → Mo D} {ms : MS} {pos : Pos}
theorem ss_frz (i : Nat) (h : PSsD cs X sts ms) : PSsD cs X sts (mFrz i ms) := by
  obtain ⟨t, a1, a2⟩ := h.ex
  refine ⟨_, a1, fun ap H0 B0 B σ env H p E o env' p' k hm q => ?_⟩
  unfold mFrz at hm
  rcases g : env[i]? with _ | _ | _ | ds | _
  · rw [g] at hm; exact a2 ap H0 B0 B σ _ H p E o env' p' k hm q
  · rw [g] at hm; exact a2 ap H0 B0 B σ _ H p E o env' p' k hm q
  · rw [g] at hm; exact a2 ap H0 B0 B σ _ H p E o env' p' k hm q
  · rw [g] at hm
    obtain ⟨B', ex, k'⟩ := k.freeze g
    exact a2 ap H0 B0 B' σ _ H p E o env' p' k' hm (q.mono ex)
  · rw [g] at hm; exact a2 ap H0 B0 B σ _ H p E o env' p' k hm q
/-! ### a list or a tuple walked -/
theorem pi_or {tg iter : Expr} {w1 w2 : TI} (h1 : PI X tg iter w1) (h2 : PI X tg iter w2) : PI X tg iter (fun σ H R => w1 σ H R ∨ w2 σ H R) :=
  ⟨by
    first
      | exact fun pins s σ H R Q I h => h.elim (h1.run pins s σ H R Q I) (h2.run pins s σ H R Q I)
      | (intros; rename_i h; rcases h with h | h <;> first | (apply h1.run <;> assumption) | (apply h2.run <;> assumption))⟩
def srcS (a : Env' → Mo D) : Env' → Mo (List D) := fun env => bindM (a env) fun x => match x with
  | .lst ds => retM ds
  | .tup ds => retM ds
  | _ => failM
theorem i_seq {tg : Expr} (h : PED cs X e ma) : PID cs X tg e (srcS ma) := by
  obtain ⟨w1, a1, a2⟩ := (i_list (tg := tg) h).ex
  obtain ⟨w2, b1, b2⟩ := (i_tup (tg := tg) h).ex
  refine ⟨_, pi_or a1 b1, fun ap H0 B0 B σ env H p R ds p' k hm q => ?_⟩
  obtain ⟨x, p1, e1, e2⟩ := bindM_some hm
  cases x <;> first | (cases e2; done) | skip
  · exact .inl (a2 ap H0 B0 B σ env H p R ds p' k (show bindM (ma env) _ p = _ by unfold bindM; rw [e1]; exact e2) q)
  · exact .inr (b2 ap H0 B0 B σ env H p R ds p' k (show bindM (ma env) _ p = _ by unfold bindM; rw [e1]; exact e2) q)
theorem op_eqF (ne : Bool) : OpD cs X (compareOp (DQ.opC ne)) (dEqF ne) := by
  have key : OpR X (compareOp (DQ.opC ne)) (fun v w H Q => scal v w = true ∧ Q (.bl (decide (v = w) != ne)) H) := by
    intro pins s σ H v w v' w' Q I rv rw' h
    cases ne with
    | false => exact op_eq pins s σ H v w v' w' Q I rv rw' ⟨h.1, by have q := h.2; rw [show (decide (v = w) != false) = decide (v = w) by cases decide (v = w) <;> rfl] at q; exact q⟩
    | true => exact op_ne pins s σ H v w v' w' Q I rv rw' ⟨h.1, by have q := h.2; rw [show (decide (v = w) != true) = !decide (v = w) by cases decide (v = w) <;> rfl] at q; exact q⟩
  refine ⟨_, key, fun ap B H p x y v u Q d p' e hp hb rx ry hm q => ?_⟩
  unfold dEqF at hm
  rcases hv : flV x with _ | v1
  · rw [hv] at hm; cases hm
  · rcases hw : flV y with _ | w1
    · rw [hv, hw] at hm; cases hm
    · rw [hv, hw] at hm
      dsimp only at hm
      split at hm
      · rename_i hs
        cases hm
        obtain ⟨rfl, _⟩ := rep_flat hv rx
        obtain ⟨rfl, _⟩ := rep_flat hw ry
        exact ⟨hs, q B H _ (Nxt.refl e) hp (by simp only [Rep])⟩
      · cases hm
end
end DL
end

section
set_option Elab.async false
set_option linter.all false
set_option maxRecDepth 100000
set_option maxHeartbeats 4000000
/-! DL: != between two instances. -/
namespace DL
open PySem PySem.Spec PyProof.Rows L2
open Evl (Ex)
/-- a class without an own != -/
def neB (K : PySem.W.Frag) (C : Addr) : Bool := He.eqO (PySem.W.findIn K (.ref C) "__ne__") (some (some (.builtin "object.__ne__"))) && ob (PySem.W.mroIn K C (.type "object")) true
def tNe (x : Str) : Fr' → Bool := fun K => neB K (He.ga K x)
theorem neB_ok {K : PySem.W.Frag} {C : Addr} (h : neB K C = true) : PySem.W.findIn K (.ref C) "__ne__" = some (some (.builtin "object.__ne__")) ∧ PySem.W.mroIn K C (.type "object") = some true := by
  unfold neB at h
  rw [Bool.and_eq_true] at h
  exact ⟨He.eqO_ok h.1, of_decide_eq_true h.2⟩
def neAll (K : Fr') (l : List (Addr × List Str)) : Bool := l.all fun p => neB K p.1
theorem neAll_ok {K : Fr'} {l : List (Addr × List Str)} (h : neAll K l = true) : ∀ c C fn, csL l c = some (C, fn) → neB K C = true := fun c C fn e => by
  unfold neAll at h
  rw [List.all_eq_true] at h
  exact h (C, fn) (List.mem_of_getElem? e)
def dNeI (u : Nat → List D → List D → Option Bool) (ne : Bool) : D → D → Mo D := fun x y => match ne, x, y with
  | true, .ins c fs, .ins c' gs => if c = c' then match u c fs gs with
    | some b => retM (.bl (!b))
    | none => failM else failM
  | _, _, _ => failM
section
variable {X : Cx} {cs : CT}
def rNeI (X : Cx) (cs : CT) (u : Nat → List D → List D → Option Bool) (ne : Bool) : R2 := fun v w H Q =>
  ∃ ap B p c fs gs b, ne = true ∧ Ex B H ∧ PotAt ap H p ∧ B ap = none ∧ Rep X.K cs ap B (.ins c fs) v ∧ Rep X.K cs ap B (.ins c gs) w ∧ u c fs gs = some b ∧
    ∀ B' H', Nxt ap B H B' H' → PotAt ap H' p → Q (.bl (!b)) H'
theorem opR_neI {k : Nat} {u : Nat → List D → List D → Option Bool} (U : UEq X cs k u) (hne : ∀ c C fn, cs c = some (C, fn) → neB X.K C = true) (hr : Room (k + 1) X.A) (ne : Bool) : OpR X (compareOp (DQ.opC ne)) (rNeI X cs u ne) := by
  intro pins s σ H v w v' w' Q I rv rw' h
  obtain ⟨ap, B, p, c, fs, gs, b, rfl, e, hp, hb, rx, ry, hq, q⟩ := h
  have sb0 : Sub X (k + 1) X.A := ⟨hr, rfl⟩
  have sb : Sub X k X.A.in1 := sb0.in1
  obtain ⟨C, fn, f', fd, ps, fm, T, hs, hf, F, hbd, hfm⟩ := U.of c fs gs b hq
  obtain ⟨n1, n2⟩ := neB_ok (hne _ _ _ T.at_)
  obtain ⟨a', dx, fs', rfl, g1, g2, g3⟩ := rep_ins T rx
  obtain ⟨b', dy, gs', rfl, k1, k2, k3⟩ := rep_ins T ry
  cases rv
  cases rw'
  obtain ⟨mA, J, _⟩ := ins_get I.hok (e _ _ g1)
  obtain ⟨mB, J', _⟩ := ins_get I.hok (e _ _ k1)
  obtain ⟨od, J, _⟩ := J.look
  obtain ⟨od', J', _⟩ := J'.look
  obtain ⟨m, hF⟩ := I.fr
  show wpAny (model X.prog X.w) X.A (richCompare .NotEq (.ref a') (.ref b')) (EP X pins σ Q) X.xe s
  refine PySem.W.cmpNe_K (tb := .ref C) sb.room.units0 hF I.ok.mod.kin J J'.type (by simp [PySem.W.notFirst]) n1 n2 hs hf ?_
  have hsp : spD X.K cs 2 fm [.ref a', .ref b'] H (fun v H' => v = .bl b ∧ ∃ B', Nxt ap B H B' H' ∧ PotAt ap H' p) E0 := ⟨ap, B, _, p, _, p, rfl, e, hp, hb, reps_cons rx (reps_cons ry reps_nil), hfm p, fun B' H' v n hp' r' => by
    simp only [Rep] at r'
    exact ⟨r', B', n, hp'⟩⟩
  have e0 : Env0 X.prog X.w X.K X.mg X.base X.A.in1 X.stack s H := by
    have z := I.env0
    exact ⟨by rw [sb.fr]; exact z.frames, z.mod, z.bs, z.bsz, z.funs, z.frf, z.hok, z.bare⟩
  have hl := F.len _ _ _ _ hsp
  have r2 : Vals [V.ref a', V.ref b'] [Value.ref a', Value.ref b'] := .cons rfl (.cons rfl .nil)
  refine wpAny_call (codeAny_mono (F.run X.A.in1 X.stack s H ⟨[.ref a', .ref b'], []⟩ [.ref a', .ref b'] [.ref a', .ref b'] _ E0 sb.room (fun z => nomatch z) e0 (by
    have := hbd s [.ref a', .ref b'] I.kIn (by simpa using hl)
    simpa using this) r2 hsp) fun r s' hq => ?_)
  cases r with
  | error e => exact hq.elim
  | ok fl =>
    cases fl with
    | ret w =>
      obtain ⟨z, H', I', rz, ez, B', n', hp'⟩ := I.after hq
      subst ez
      cases rz
      exact ⟨b, rfl, .bl (!b), H', I', rfl, q B' H' n' hp'⟩
    | next => exact hq.elim
    | brk => exact hq.elim
    | cont => exact hq.elim
theorem opD_neI {k : Nat} {u : Nat → List D → List D → Option Bool} (U : UEq X cs k u) (hne : ∀ c C fn, cs c = some (C, fn) → neB X.K C = true) (hr : Room (k + 1) X.A) (ne : Bool) : OpD cs X (compareOp (DQ.opC ne)) (dNeI u ne) := by
  refine ⟨_, opR_neI U hne hr ne, fun ap B H p x y v w Q d p' e hp hb rx ry hm q => ?_⟩
  unfold dNeI at hm
  split at hm
  · rename_i c fs c' gs
    split at hm
    · rename_i hc
      subst hc
      rcases hb' : u c fs gs with _ | r
      · rw [hb'] at hm; cases hm
      · rw [hb'] at hm
        cases hm
        exact ⟨ap, B, p, c, fs, gs, r, rfl, e, hp, hb, rx, ry, hb', fun B' H' n' hp' => q B' H' _ n' hp' (by simp only [Rep])⟩
    · cases hm
  · cases hm
end
end DL
end

section
set_option Elab.async false
set_option linter.all false
set_option maxRecDepth 100000
set_option maxHeartbeats 4000000
namespace Q
open PySem PySem.Spec PyProof.Rows L2 DL
def top (i : Nat) : Stmt := PySem.Challenge.pw_sheetdeals_k12_whole_lines_together.main.body.getD i (.Pass ⟨0, 0, 0, 0⟩)
def clL (K : Fr') : List (Addr × List Str) := [(He.ga K "Ratio", ["own_top", "own_bottom"])]
def csK (K : Fr') : CT := csL (clL K)
def ex0 : List (Fr' → Bool) := [tFree "len", tFree "range", tFree "abs", tFree "max", tFree "min", tFree "int", tFree "repr", tFree "all", tFree "any", tFree "list", tFree "tuple", tFree "str", tFree "isinstance", tFree "enumerate", tFree "zip", tFree "divmod", tFree "bool", tFree "sorted", tFree "sum", tFree "dict", tFree "set", tFree "type", tGlo "_wall", tGlo "BendError", tGlo "LimitError", tGlo "InvalidLine", tGlo "InvalidNumber", tGlo "DividedByZero", tGlo "TooMany", tGlo "is_integer"]
def ex1 : List (Fr' → Bool) := [tGlo "is_list", tGlo "want_at_most", tGlo "digits_of", tGlo "common_part", tGlo "Ratio", tGlo "told_pair", tGlo "is_number", tGlo "ratio_of", tGlo "want_number", tGlo "wholes", tGlo "is_line", tGlo "trimmed", tGlo "want_line", tGlo "line_over", tGlo "line_sum", tGlo "line_by", tGlo "line_less", tGlo "line_product", tGlo "line_worth", tGlo "line_slope", tGlo "degree_from_nought", tGlo "told", tGlo "degree", tGlo "two_lines", tGlo "plus", tGlo "minus", tGlo "times", tGlo "scaled", tGlo "worth", tGlo "derived"]
def ex2 : List (Fr' → Bool) := [tGlo "_law_pot", tGlo "_law_draw", tGlo "_law_pick", tGlo "_law_low", tGlo "_law_sum", tGlo "_law_by", tGlo "_law_number", tGlo "_law_ratio", tGlo "_law_passed", tGlo "_law_trim", tGlo "_law_line", tGlo "_law_given", tGlo "_law_line_sum", tGlo "_law_line_scaled", tGlo "_law_line_by", tGlo "_law_line_at", tGlo "_law_is_line", tGlo "_law_one_right", tGlo "_law_pair_right", tGlo "_law_bound_right", tGlo "_law_right", tGlo "law", tBi "gcd" "math.gcd", tBi "lcm" "math.lcm", tInt "PART" 1000000000000000000000000000000000000000000000000000000000000, tInt "MOST_LINE" 30, tCls "Ratio", tNoat "Ratio" "own_top", tNoat "Ratio" "own_bottom", tMkr "Ratio"]
def ex3 : List (Fr' → Bool) := [tMeth "Ratio" "__add__", tMeth "Ratio" "__sub__", tMeth "Ratio" "__mul__", tMeth "Ratio" "__eq__", tMeth "Ratio" "__repr__", (fun K => opfB K (He.ga K "Ratio") (He.ma K (He.ga K "Ratio") "__add__") .Add), (fun K => opfB K (He.ga K "Ratio") (He.ma K (He.ga K "Ratio") "__sub__") .Sub), (fun K => opfB K (He.ga K "Ratio") (He.ma K (He.ga K "Ratio") "__mul__") .Mult), (fun K => neAll K (clL K)), (fun K => isiB K (clL K)), (fun K => injB (clL K))]
def ex : List (Fr' → Bool) := ex0 ++ (ex1 ++ (ex2 ++ (ex3)))
def z_is_integer : DefZ := ⟨fun K => He.ga K "is_integer", "is_integer", "is_integer", defArgs (top 10), defBody (top 10), defScope (top 10), []⟩
def z_is_list : DefZ := ⟨fun K => He.ga K "is_list", "is_list", "is_list", defArgs (top 11), defBody (top 11), defScope (top 11), []⟩
def z_want_at_most : DefZ := ⟨fun K => He.ga K "want_at_most", "want_at_most", "want_at_most", defArgs (top 12), defBody (top 12), defScope (top 12), []⟩
def z_digits_of : DefZ := ⟨fun K => He.ga K "digits_of", "digits_of", "digits_of", defArgs (top 15), defBody (top 15), defScope (top 15), []⟩
def z_common_part : DefZ := ⟨fun K => He.ga K "common_part", "common_part", "common_part", defArgs (top 16), defBody (top 16), defScope (top 16), []⟩
def z_Ratio___init__ : DefZ := ⟨fun K => He.ma K (He.ga K "Ratio") "__init__", "__init__", "Ratio.__init__", defArgs (inClass (top 17) 0), defBody (inClass (top 17) 0), defScope (inClass (top 17) 0), [.int 1]⟩
def z_Ratio___add__ : DefZ := ⟨fun K => He.ma K (He.ga K "Ratio") "__add__", "__add__", "Ratio.__add__", defArgs (inClass (top 17) 6), defBody (inClass (top 17) 6), defScope (inClass (top 17) 6), []⟩
def z_Ratio___sub__ : DefZ := ⟨fun K => He.ma K (He.ga K "Ratio") "__sub__", "__sub__", "Ratio.__sub__", defArgs (inClass (top 17) 8), defBody (inClass (top 17) 8), defScope (inClass (top 17) 8), []⟩
def z_Ratio___mul__ : DefZ := ⟨fun K => He.ma K (He.ga K "Ratio") "__mul__", "__mul__", "Ratio.__mul__", defArgs (inClass (top 17) 10), defBody (inClass (top 17) 10), defScope (inClass (top 17) 10), []⟩
def z_Ratio___eq__ : DefZ := ⟨fun K => He.ma K (He.ga K "Ratio") "__eq__", "__eq__", "Ratio.__eq__", defArgs (inClass (top 17) 17), defBody (inClass (top 17) 17), defScope (inClass (top 17) 17), []⟩
def z_Ratio___repr__ : DefZ := ⟨fun K => He.ma K (He.ga K "Ratio") "__repr__", "__repr__", "Ratio.__repr__", defArgs (inClass (top 17) 19), defBody (inClass (top 17) 19), defScope (inClass (top 17) 19), []⟩
def z_told_pair : DefZ := ⟨fun K => He.ga K "told_pair", "told_pair", "told_pair", defArgs (top 18), defBody (top 18), defScope (top 18), []⟩
def z_is_number : DefZ := ⟨fun K => He.ga K "is_number", "is_number", "is_number", defArgs (top 19), defBody (top 19), defScope (top 19), []⟩
def z_ratio_of : DefZ := ⟨fun K => He.ga K "ratio_of", "ratio_of", "ratio_of", defArgs (top 20), defBody (top 20), defScope (top 20), []⟩
def z_want_number : DefZ := ⟨fun K => He.ga K "want_number", "want_number", "want_number", defArgs (top 21), defBody (top 21), defScope (top 21), []⟩
def z_wholes : DefZ := ⟨fun K => He.ga K "wholes", "wholes", "wholes", defArgs (top 22), defBody (top 22), defScope (top 22), []⟩
def z_is_line : DefZ := ⟨fun K => He.ga K "is_line", "is_line", "is_line", defArgs (top 25), defBody (top 25), defScope (top 25), []⟩
def z_trimmed : DefZ := ⟨fun K => He.ga K "trimmed", "trimmed", "trimmed", defArgs (top 26), defBody (top 26), defScope (top 26), []⟩
def z_want_line : DefZ := ⟨fun K => He.ga K "want_line", "want_line", "want_line", defArgs (top 27), defBody (top 27), defScope (top 27), []⟩
def z_line_over : DefZ := ⟨fun K => He.ga K "line_over", "line_over", "line_over", defArgs (top 28), defBody (top 28), defScope (top 28), []⟩
def z_line_sum : DefZ := ⟨fun K => He.ga K "line_sum", "line_sum", "line_sum", defArgs (top 29), defBody (top 29), defScope (top 29), []⟩
def z_line_by : DefZ := ⟨fun K => He.ga K "line_by", "line_by", "line_by", defArgs (top 30), defBody (top 30), defScope (top 30), []⟩
def z_line_less : DefZ := ⟨fun K => He.ga K "line_less", "line_less", "line_less", defArgs (top 31), defBody (top 31), defScope (top 31), []⟩
def z_line_product : DefZ := ⟨fun K => He.ga K "line_product", "line_product", "line_product", defArgs (top 32), defBody (top 32), defScope (top 32), []⟩
def z_line_worth : DefZ := ⟨fun K => He.ga K "line_worth", "line_worth", "line_worth", defArgs (top 33), defBody (top 33), defScope (top 33), []⟩
def z_line_slope : DefZ := ⟨fun K => He.ga K "line_slope", "line_slope", "line_slope", defArgs (top 34), defBody (top 34), defScope (top 34), []⟩
def z_degree_from_nought : DefZ := ⟨fun K => He.ga K "degree_from_nought", "degree_from_nought", "degree_from_nought", defArgs (top 35), defBody (top 35), defScope (top 35), []⟩
def z_told : DefZ := ⟨fun K => He.ga K "told", "told", "told", defArgs (top 36), defBody (top 36), defScope (top 36), []⟩
def z_degree : DefZ := ⟨fun K => He.ga K "degree", "degree", "degree", defArgs (top 37), defBody (top 37), defScope (top 37), []⟩
def z_two_lines : DefZ := ⟨fun K => He.ga K "two_lines", "two_lines", "two_lines", defArgs (top 38), defBody (top 38), defScope (top 38), []⟩
def z_plus : DefZ := ⟨fun K => He.ga K "plus", "plus", "plus", defArgs (top 39), defBody (top 39), defScope (top 39), []⟩
def z_minus : DefZ := ⟨fun K => He.ga K "minus", "minus", "minus", defArgs (top 40), defBody (top 40), defScope (top 40), []⟩
def z_times : DefZ := ⟨fun K => He.ga K "times", "times", "times", defArgs (top 41), defBody (top 41), defScope (top 41), []⟩
def z_scaled : DefZ := ⟨fun K => He.ga K "scaled", "scaled", "scaled", defArgs (top 42), defBody (top 42), defScope (top 42), []⟩
def z_worth : DefZ := ⟨fun K => He.ga K "worth", "worth", "worth", defArgs (top 43), defBody (top 43), defScope (top 43), []⟩
def z_derived : DefZ := ⟨fun K => He.ga K "derived", "derived", "derived", defArgs (top 44), defBody (top 44), defScope (top 44), []⟩
def z__law_pot : DefZ := ⟨fun K => He.ga K "_law_pot", "_law_pot", "_law_pot", defArgs (top 46), defBody (top 46), defScope (top 46), []⟩
def z__law_draw : DefZ := ⟨fun K => He.ga K "_law_draw", "_law_draw", "_law_draw", defArgs (top 47), defBody (top 47), defScope (top 47), []⟩
def z__law_pick : DefZ := ⟨fun K => He.ga K "_law_pick", "_law_pick", "_law_pick", defArgs (top 48), defBody (top 48), defScope (top 48), []⟩
def z__law_low : DefZ := ⟨fun K => He.ga K "_law_low", "_law_low", "_law_low", defArgs (top 49), defBody (top 49), defScope (top 49), []⟩
def z__law_sum : DefZ := ⟨fun K => He.ga K "_law_sum", "_law_sum", "_law_sum", defArgs (top 50), defBody (top 50), defScope (top 50), []⟩
def z__law_by : DefZ := ⟨fun K => He.ga K "_law_by", "_law_by", "_law_by", defArgs (top 51), defBody (top 51), defScope (top 51), []⟩
def z__law_number : DefZ := ⟨fun K => He.ga K "_law_number", "_law_number", "_law_number", defArgs (top 52), defBody (top 52), defScope (top 52), []⟩
def z__law_ratio : DefZ := ⟨fun K => He.ga K "_law_ratio", "_law_ratio", "_law_ratio", defArgs (top 53), defBody (top 53), defScope (top 53), []⟩
def z__law_passed : DefZ := ⟨fun K => He.ga K "_law_passed", "_law_passed", "_law_passed", defArgs (top 54), defBody (top 54), defScope (top 54), []⟩
def z__law_trim : DefZ := ⟨fun K => He.ga K "_law_trim", "_law_trim", "_law_trim", defArgs (top 55), defBody (top 55), defScope (top 55), []⟩
def z__law_line : DefZ := ⟨fun K => He.ga K "_law_line", "_law_line", "_law_line", defArgs (top 56), defBody (top 56), defScope (top 56), []⟩
def z__law_given : DefZ := ⟨fun K => He.ga K "_law_given", "_law_given", "_law_given", defArgs (top 57), defBody (top 57), defScope (top 57), []⟩
def z__law_line_sum : DefZ := ⟨fun K => He.ga K "_law_line_sum", "_law_line_sum", "_law_line_sum", defArgs (top 58), defBody (top 58), defScope (top 58), []⟩
def z__law_line_scaled : DefZ := ⟨fun K => He.ga K "_law_line_scaled", "_law_line_scaled", "_law_line_scaled", defArgs (top 59), defBody (top 59), defScope (top 59), []⟩
def z__law_line_by : DefZ := ⟨fun K => He.ga K "_law_line_by", "_law_line_by", "_law_line_by", defArgs (top 60), defBody (top 60), defScope (top 60), []⟩
def z__law_line_at : DefZ := ⟨fun K => He.ga K "_law_line_at", "_law_line_at", "_law_line_at", defArgs (top 61), defBody (top 61), defScope (top 61), []⟩
def z__law_is_line : DefZ := ⟨fun K => He.ga K "_law_is_line", "_law_is_line", "_law_is_line", defArgs (top 62), defBody (top 62), defScope (top 62), []⟩
def z__law_one_right : DefZ := ⟨fun K => He.ga K "_law_one_right", "_law_one_right", "_law_one_right", defArgs (top 63), defBody (top 63), defScope (top 63), []⟩
def z__law_pair_right : DefZ := ⟨fun K => He.ga K "_law_pair_right", "_law_pair_right", "_law_pair_right", defArgs (top 64), defBody (top 64), defScope (top 64), []⟩
def z__law_bound_right : DefZ := ⟨fun K => He.ga K "_law_bound_right", "_law_bound_right", "_law_bound_right", defArgs (top 65), defBody (top 65), defScope (top 65), []⟩
def z__law_right : DefZ := ⟨fun K => He.ga K "_law_right", "_law_right", "_law_right", defArgs (top 66), defBody (top 66), defScope (top 66), []⟩
def z_law : DefZ := ⟨fun K => He.ga K "law", "law", "law", defArgs (top 67), defBody (top 67), defScope (top 67), []⟩
def fn0 : List DefZ := [z_is_integer, z_is_list, z_want_at_most, z_digits_of, z_common_part, z_Ratio___init__, z_Ratio___add__, z_Ratio___sub__, z_Ratio___mul__, z_Ratio___eq__, z_Ratio___repr__, z_told_pair, z_is_number, z_ratio_of, z_want_number, z_wholes, z_is_line, z_trimmed, z_want_line, z_line_over, z_line_sum, z_line_by, z_line_less, z_line_product, z_line_worth, z_line_slope, z_degree_from_nought, z_told, z_degree, z_two_lines]
def fn1 : List DefZ := [z_plus, z_minus, z_times, z_scaled, z_worth, z_derived, z__law_pot, z__law_draw, z__law_pick, z__law_low, z__law_sum, z__law_by, z__law_number, z__law_ratio, z__law_passed, z__law_trim, z__law_line, z__law_given, z__law_line_sum, z__law_line_scaled, z__law_line_by, z__law_line_at, z__law_is_line, z__law_one_right, z__law_pair_right, z__law_bound_right, z__law_right, z_law]
def fn : List DefZ := fn0 ++ (fn1)
/-- what the module is -/
structure Zx (P : Program) (w : World) (K : Fr') (mg : Str → Option Value) (base : Heap) : Prop where
  says : SaysZ ex fn K
  ns : ∃ h : Heap, K.In h ∧ h.Ns mainGlobals mg
section
variable {P : Program} {w : World} {K : Fr'} {mg : Str → Option Value} {base : Heap}
theorem Zx.glo (Z : Zx P w K mg base) (i : Nat) {x : Str} (h : ex[i]? = some (tGlo x) := by rfl) : mg x = some (.ref (He.ga K x)) := by
  obtain ⟨hp, X, G⟩ := Z.ns
  exact He.glo_ok X G (Z.says.fact i h)
theorem Zx.free (Z : Zx P w K mg base) (i : Nat) {x : Str} (h : ex[i]? = some (tFree x) := by rfl) : mg x = none := by
  obtain ⟨hp, X, G⟩ := Z.ns
  exact He.free_ok X G (Z.says.fact i h)
theorem Zx.bi (Z : Zx P w K mg base) (i : Nat) {x : Str} {id : String} (h : ex[i]? = some (tBi x id) := by rfl) : mg x = some (.builtin id) := by
  obtain ⟨hp, X, G⟩ := Z.ns
  exact tBi_ok X G (Z.says.fact i h)
theorem Zx.int (Z : Zx P w K mg base) (i : Nat) {x : Str} {n : Int} (h : ex[i]? = some (tInt x n) := by rfl) : ∃ t, mg x = some (.int n t) := by
  obtain ⟨hp, X, G⟩ := Z.ns
  exact He.int_ok X G (Z.says.fact i h)
theorem Zx.str (Z : Zx P w K mg base) (i : Nat) {x z : Str} (h : ex[i]? = some (tStr x z) := by rfl) : ∃ t, mg x = some (.str z t) := by
  obtain ⟨hp, X, G⟩ := Z.ns
  exact He.str_ok X G (Z.says.fact i h)
theorem Zx.fr_len (Z : Zx P w K mg base) : mg "len" = none := Z.free 0
theorem Zx.fr_range (Z : Zx P w K mg base) : mg "range" = none := Z.free 1
theorem Zx.fr_abs (Z : Zx P w K mg base) : mg "abs" = none := Z.free 2
theorem Zx.fr_max (Z : Zx P w K mg base) : mg "max" = none := Z.free 3
theorem Zx.fr_min (Z : Zx P w K mg base) : mg "min" = none := Z.free 4
theorem Zx.fr_int (Z : Zx P w K mg base) : mg "int" = none := Z.free 5
theorem Zx.fr_repr (Z : Zx P w K mg base) : mg "repr" = none := Z.free 6
theorem Zx.fr_all (Z : Zx P w K mg base) : mg "all" = none := Z.free 7
theorem Zx.fr_any (Z : Zx P w K mg base) : mg "any" = none := Z.free 8
theorem Zx.fr_list (Z : Zx P w K mg base) : mg "list" = none := Z.free 9
theorem Zx.fr_tuple (Z : Zx P w K mg base) : mg "tuple" = none := Z.free 10
theorem Zx.fr_str (Z : Zx P w K mg base) : mg "str" = none := Z.free 11
theorem Zx.fr_isinstance (Z : Zx P w K mg base) : mg "isinstance" = none := Z.free 12
theorem Zx.fr_enumerate (Z : Zx P w K mg base) : mg "enumerate" = none := Z.free 13
theorem Zx.fr_zip (Z : Zx P w K mg base) : mg "zip" = none := Z.free 14
theorem Zx.fr_divmod (Z : Zx P w K mg base) : mg "divmod" = none := Z.free 15
theorem Zx.fr_bool (Z : Zx P w K mg base) : mg "bool" = none := Z.free 16
theorem Zx.fr_sorted (Z : Zx P w K mg base) : mg "sorted" = none := Z.free 17
theorem Zx.fr_sum (Z : Zx P w K mg base) : mg "sum" = none := Z.free 18
theorem Zx.fr_dict (Z : Zx P w K mg base) : mg "dict" = none := Z.free 19
theorem Zx.fr_set (Z : Zx P w K mg base) : mg "set" = none := Z.free 20
theorem Zx.fr_type (Z : Zx P w K mg base) : mg "type" = none := Z.free 21
theorem Zx.glo__wall (Z : Zx P w K mg base) : mg "_wall" = some (.ref (He.ga K "_wall")) := Z.glo 22
theorem Zx.glo_BendError (Z : Zx P w K mg base) : mg "BendError" = some (.ref (He.ga K "BendError")) := Z.glo 23
theorem Zx.glo_LimitError (Z : Zx P w K mg base) : mg "LimitError" = some (.ref (He.ga K "LimitError")) := Z.glo 24
theorem Zx.glo_InvalidLine (Z : Zx P w K mg base) : mg "InvalidLine" = some (.ref (He.ga K "InvalidLine")) := Z.glo 25
theorem Zx.glo_InvalidNumber (Z : Zx P w K mg base) : mg "InvalidNumber" = some (.ref (He.ga K "InvalidNumber")) := Z.glo 26
theorem Zx.glo_DividedByZero (Z : Zx P w K mg base) : mg "DividedByZero" = some (.ref (He.ga K "DividedByZero")) := Z.glo 27
theorem Zx.glo_TooMany (Z : Zx P w K mg base) : mg "TooMany" = some (.ref (He.ga K "TooMany")) := Z.glo 28
theorem Zx.glo_is_integer (Z : Zx P w K mg base) : mg "is_integer" = some (.ref (He.ga K "is_integer")) := Z.glo 29
theorem Zx.glo_is_list (Z : Zx P w K mg base) : mg "is_list" = some (.ref (He.ga K "is_list")) := Z.glo 30
theorem Zx.glo_want_at_most (Z : Zx P w K mg base) : mg "want_at_most" = some (.ref (He.ga K "want_at_most")) := Z.glo 31
theorem Zx.glo_digits_of (Z : Zx P w K mg base) : mg "digits_of" = some (.ref (He.ga K "digits_of")) := Z.glo 32
theorem Zx.glo_common_part (Z : Zx P w K mg base) : mg "common_part" = some (.ref (He.ga K "common_part")) := Z.glo 33
theorem Zx.glo_Ratio (Z : Zx P w K mg base) : mg "Ratio" = some (.ref (He.ga K "Ratio")) := Z.glo 34
theorem Zx.glo_told_pair (Z : Zx P w K mg base) : mg "told_pair" = some (.ref (He.ga K "told_pair")) := Z.glo 35
theorem Zx.glo_is_number (Z : Zx P w K mg base) : mg "is_number" = some (.ref (He.ga K "is_number")) := Z.glo 36
theorem Zx.glo_ratio_of (Z : Zx P w K mg base) : mg "ratio_of" = some (.ref (He.ga K "ratio_of")) := Z.glo 37
theorem Zx.glo_want_number (Z : Zx P w K mg base) : mg "want_number" = some (.ref (He.ga K "want_number")) := Z.glo 38
theorem Zx.glo_wholes (Z : Zx P w K mg base) : mg "wholes" = some (.ref (He.ga K "wholes")) := Z.glo 39
theorem Zx.glo_is_line (Z : Zx P w K mg base) : mg "is_line" = some (.ref (He.ga K "is_line")) := Z.glo 40
theorem Zx.glo_trimmed (Z : Zx P w K mg base) : mg "trimmed" = some (.ref (He.ga K "trimmed")) := Z.glo 41
theorem Zx.glo_want_line (Z : Zx P w K mg base) : mg "want_line" = some (.ref (He.ga K "want_line")) := Z.glo 42
theorem Zx.glo_line_over (Z : Zx P w K mg base) : mg "line_over" = some (.ref (He.ga K "line_over")) := Z.glo 43
theorem Zx.glo_line_sum (Z : Zx P w K mg base) : mg "line_sum" = some (.ref (He.ga K "line_sum")) := Z.glo 44
theorem Zx.glo_line_by (Z : Zx P w K mg base) : mg "line_by" = some (.ref (He.ga K "line_by")) := Z.glo 45
theorem Zx.glo_line_less (Z : Zx P w K mg base) : mg "line_less" = some (.ref (He.ga K "line_less")) := Z.glo 46
theorem Zx.glo_line_product (Z : Zx P w K mg base) : mg "line_product" = some (.ref (He.ga K "line_product")) := Z.glo 47
theorem Zx.glo_line_worth (Z : Zx P w K mg base) : mg "line_worth" = some (.ref (He.ga K "line_worth")) := Z.glo 48
theorem Zx.glo_line_slope (Z : Zx P w K mg base) : mg "line_slope" = some (.ref (He.ga K "line_slope")) := Z.glo 49
theorem Zx.glo_degree_from_nought (Z : Zx P w K mg base) : mg "degree_from_nought" = some (.ref (He.ga K "degree_from_nought")) := Z.glo 50
theorem Zx.glo_told (Z : Zx P w K mg base) : mg "told" = some (.ref (He.ga K "told")) := Z.glo 51
theorem Zx.glo_degree (Z : Zx P w K mg base) : mg "degree" = some (.ref (He.ga K "degree")) := Z.glo 52
theorem Zx.glo_two_lines (Z : Zx P w K mg base) : mg "two_lines" = some (.ref (He.ga K "two_lines")) := Z.glo 53
theorem Zx.glo_plus (Z : Zx P w K mg base) : mg "plus" = some (.ref (He.ga K "plus")) := Z.glo 54
theorem Zx.glo_minus (Z : Zx P w K mg base) : mg "minus" = some (.ref (He.ga K "minus")) := Z.glo 55
theorem Zx.glo_times (Z : Zx P w K mg base) : mg "times" = some (.ref (He.ga K "times")) := Z.glo 56
theorem Zx.glo_scaled (Z : Zx P w K mg base) : mg "scaled" = some (.ref (He.ga K "scaled")) := Z.glo 57
theorem Zx.glo_worth (Z : Zx P w K mg base) : mg "worth" = some (.ref (He.ga K "worth")) := Z.glo 58
theorem Zx.glo_derived (Z : Zx P w K mg base) : mg "derived" = some (.ref (He.ga K "derived")) := Z.glo 59
theorem Zx.glo__law_pot (Z : Zx P w K mg base) : mg "_law_pot" = some (.ref (He.ga K "_law_pot")) := Z.glo 60
theorem Zx.glo__law_draw (Z : Zx P w K mg base) : mg "_law_draw" = some (.ref (He.ga K "_law_draw")) := Z.glo 61
theorem Zx.glo__law_pick (Z : Zx P w K mg base) : mg "_law_pick" = some (.ref (He.ga K "_law_pick")) := Z.glo 62
theorem Zx.glo__law_low (Z : Zx P w K mg base) : mg "_law_low" = some (.ref (He.ga K "_law_low")) := Z.glo 63
theorem Zx.glo__law_sum (Z : Zx P w K mg base) : mg "_law_sum" = some (.ref (He.ga K "_law_sum")) := Z.glo 64
theorem Zx.glo__law_by (Z : Zx P w K mg base) : mg "_law_by" = some (.ref (He.ga K "_law_by")) := Z.glo 65
theorem Zx.glo__law_number (Z : Zx P w K mg base) : mg "_law_number" = some (.ref (He.ga K "_law_number")) := Z.glo 66
theorem Zx.glo__law_ratio (Z : Zx P w K mg base) : mg "_law_ratio" = some (.ref (He.ga K "_law_ratio")) := Z.glo 67
theorem Zx.glo__law_passed (Z : Zx P w K mg base) : mg "_law_passed" = some (.ref (He.ga K "_law_passed")) := Z.glo 68
theorem Zx.glo__law_trim (Z : Zx P w K mg base) : mg "_law_trim" = some (.ref (He.ga K "_law_trim")) := Z.glo 69
theorem Zx.glo__law_line (Z : Zx P w K mg base) : mg "_law_line" = some (.ref (He.ga K "_law_line")) := Z.glo 70
theorem Zx.glo__law_given (Z : Zx P w K mg base) : mg "_law_given" = some (.ref (He.ga K "_law_given")) := Z.glo 71
theorem Zx.glo__law_line_sum (Z : Zx P w K mg base) : mg "_law_line_sum" = some (.ref (He.ga K "_law_line_sum")) := Z.glo 72
theorem Zx.glo__law_line_scaled (Z : Zx P w K mg base) : mg "_law_line_scaled" = some (.ref (He.ga K "_law_line_scaled")) := Z.glo 73
theorem Zx.glo__law_line_by (Z : Zx P w K mg base) : mg "_law_line_by" = some (.ref (He.ga K "_law_line_by")) := Z.glo 74
theorem Zx.glo__law_line_at (Z : Zx P w K mg base) : mg "_law_line_at" = some (.ref (He.ga K "_law_line_at")) := Z.glo 75
theorem Zx.glo__law_is_line (Z : Zx P w K mg base) : mg "_law_is_line" = some (.ref (He.ga K "_law_is_line")) := Z.glo 76
theorem Zx.glo__law_one_right (Z : Zx P w K mg base) : mg "_law_one_right" = some (.ref (He.ga K "_law_one_right")) := Z.glo 77
theorem Zx.glo__law_pair_right (Z : Zx P w K mg base) : mg "_law_pair_right" = some (.ref (He.ga K "_law_pair_right")) := Z.glo 78
theorem Zx.glo__law_bound_right (Z : Zx P w K mg base) : mg "_law_bound_right" = some (.ref (He.ga K "_law_bound_right")) := Z.glo 79
theorem Zx.glo__law_right (Z : Zx P w K mg base) : mg "_law_right" = some (.ref (He.ga K "_law_right")) := Z.glo 80
theorem Zx.glo_law (Z : Zx P w K mg base) : mg "law" = some (.ref (He.ga K "law")) := Z.glo 81
theorem Zx.bi_gcd (Z : Zx P w K mg base) : mg "gcd" = some (.builtin "math.gcd") := Z.bi 82
theorem Zx.bi_lcm (Z : Zx P w K mg base) : mg "lcm" = some (.builtin "math.lcm") := Z.bi 83
theorem Zx.c_PART (Z : Zx P w K mg base) : ∃ t, mg "PART" = some (.int 1000000000000000000000000000000000000000000000000000000000000 t) := Z.int 84
theorem Zx.c_MOST_LINE (Z : Zx P w K mg base) : ∃ t, mg "MOST_LINE" = some (.int 30 t) := Z.int 85
theorem Zx.cl0 (Z : Zx P w K mg base) : ClsAt K (csK K) 0 (He.ga K "Ratio") ["own_top", "own_bottom"] := ⟨rfl, by decide, He.cls_ok (Z.says.fact 86)⟩
theorem Zx.no_Ratio_own_top (Z : Zx P w K mg base) : NoAttr K (He.ga K "Ratio") "own_top" := He.noat_ok (Z.says.fact 87)
theorem Zx.no_Ratio_own_bottom (Z : Zx P w K mg base) : NoAttr K (He.ga K "Ratio") "own_bottom" := He.noat_ok (Z.says.fact 88)
theorem Zx.mkr_Ratio (Z : Zx P w K mg base) : Mk K (He.ga K "Ratio") (He.ma K (He.ga K "Ratio") "__init__") := He.mkr_ok (Z.says.fact 89)
theorem Zx.me_Ratio___add__ (Z : Zx P w K mg base) : Meth K (He.ga K "Ratio") "__add__" (He.ma K (He.ga K "Ratio") "__add__") := He.meth_ok (Z.says.fact 90)
theorem Zx.me_Ratio___sub__ (Z : Zx P w K mg base) : Meth K (He.ga K "Ratio") "__sub__" (He.ma K (He.ga K "Ratio") "__sub__") := He.meth_ok (Z.says.fact 91)
theorem Zx.me_Ratio___mul__ (Z : Zx P w K mg base) : Meth K (He.ga K "Ratio") "__mul__" (He.ma K (He.ga K "Ratio") "__mul__") := He.meth_ok (Z.says.fact 92)
theorem Zx.me_Ratio___eq__ (Z : Zx P w K mg base) : Meth K (He.ga K "Ratio") "__eq__" (He.ma K (He.ga K "Ratio") "__eq__") := He.meth_ok (Z.says.fact 93)
theorem Zx.me_Ratio___repr__ (Z : Zx P w K mg base) : Meth K (He.ga K "Ratio") "__repr__" (He.ma K (He.ga K "Ratio") "__repr__") := He.meth_ok (Z.says.fact 94)
theorem Zx.op_Ratio_Add (Z : Zx P w K mg base) : OpF K (He.ga K "Ratio") (He.ma K (He.ga K "Ratio") "__add__") .Add := opfB_ok (Z.says.fact 95)
theorem Zx.op_Ratio_Sub (Z : Zx P w K mg base) : OpF K (He.ga K "Ratio") (He.ma K (He.ga K "Ratio") "__sub__") .Sub := opfB_ok (Z.says.fact 96)
theorem Zx.op_Ratio_Mult (Z : Zx P w K mg base) : OpF K (He.ga K "Ratio") (He.ma K (He.ga K "Ratio") "__mul__") .Mult := opfB_ok (Z.says.fact 97)
theorem Zx.ne (Z : Zx P w K mg base) : ∀ c C fn, csK K c = some (C, fn) → neB K C = true := neAll_ok (Z.says.fact 98)
theorem Zx.isi (Z : Zx P w K mg base) : IsiF K (csK K) := by
  refine isiB_ok (fun p hp => ?_) (Z.says.fact 99)
  simp only [clL, List.mem_cons, List.mem_nil_iff, or_false] at hp
  rcases hp with rfl
  · exact (Z.cl0).cl
theorem Zx.inj (Z : Zx P w K mg base) : ∀ c c' C fn fn', csK K c = some (C, fn) → csK K c' = some (C, fn') → c = c' := injB_ok (Z.says.fact 100)
end
end Q
end

section
set_option Elab.async false
set_option linter.all false
set_option maxRecDepth 100000
set_option maxHeartbeats 0
namespace Q
open PySem PySem.Spec PyProof.Rows L2 DL
def loose0 : List PySem.Str := [PySem.Str.ofString "__name__", PySem.Str.ofString "_wall", PySem.Str.ofString "BendError", PySem.Str.ofString "LimitError", PySem.Str.ofString "InvalidLine", PySem.Str.ofString "InvalidNumber", PySem.Str.ofString "DividedByZero", PySem.Str.ofString "TooMany", PySem.Str.ofString "is_integer", PySem.Str.ofString "is_list", PySem.Str.ofString "want_at_most", PySem.Str.ofString "PART", PySem.Str.ofString "digits_of", PySem.Str.ofString "common_part", PySem.Str.ofString "Ratio", PySem.Str.ofString "told_pair", PySem.Str.ofString "is_number", PySem.Str.ofString "ratio_of", PySem.Str.ofString "want_number", PySem.Str.ofString "wholes", PySem.Str.ofString "MOST_LINE", PySem.Str.ofString "is_line", PySem.Str.ofString "trimmed", PySem.Str.ofString "want_line", PySem.Str.ofString "line_over", PySem.Str.ofString "line_sum", PySem.Str.ofString "line_by", PySem.Str.ofString "line_less", PySem.Str.ofString "line_product", PySem.Str.ofString "line_worth", PySem.Str.ofString "line_slope", PySem.Str.ofString "degree_from_nought", PySem.Str.ofString "told"]
def loose1 : List PySem.Str := [PySem.Str.ofString "degree", PySem.Str.ofString "two_lines", PySem.Str.ofString "plus", PySem.Str.ofString "minus", PySem.Str.ofString "times", PySem.Str.ofString "scaled", PySem.Str.ofString "worth", PySem.Str.ofString "derived", PySem.Str.ofString "_law_pot", PySem.Str.ofString "_law_draw", PySem.Str.ofString "_law_pick", PySem.Str.ofString "_law_low", PySem.Str.ofString "_law_sum", PySem.Str.ofString "_law_by", PySem.Str.ofString "_law_number", PySem.Str.ofString "_law_ratio", PySem.Str.ofString "_law_passed", PySem.Str.ofString "_law_trim", PySem.Str.ofString "_law_line", PySem.Str.ofString "_law_given", PySem.Str.ofString "_law_line_sum", PySem.Str.ofString "_law_line_scaled", PySem.Str.ofString "_law_line_by", PySem.Str.ofString "_law_line_at", PySem.Str.ofString "_law_is_line", PySem.Str.ofString "_law_one_right", PySem.Str.ofString "_law_pair_right", PySem.Str.ofString "_law_bound_right", PySem.Str.ofString "_law_right"]
def looseAll : List PySem.Str := loose0 ++ (loose1)
abbrev R : PySem.W.OpenRow := PySem.W.OpenLaw.row PySem.Challenge.rw_sheetdeals_k12_whole_lines_together
abbrev hk : PySem.W.Hook := hookZ 5 ex fn
def ob (s : PySem.W.SharedT) : He.AlD := obsZG 5 ex fn (HandSHeadRun.getT s)
theorem ob_eq (s : PySem.W.SharedT) : ob s = hk.obs s.abs := obsZG_eq (HandSHeadRun.getT_eq s)
/-- the run -/
noncomputable abbrev RX (w : World) := HandSHeadRun.wholeF (fun p => HandSHeadRun.stepQ (HandSHeadRun.denQ HandSHeadRun.tabQ) p w) HandSHeadRun.fenceQ 9000 R.prog
def kOf (s : PySem.W.SharedT) : Fr' := He.frG (HandSHeadRun.getT s) (He.asD (HandSHeadRun.getT s) 5)
open PySem.W HandSHeadRun in
theorem run1 (w : World) : (RX w).map (fun x => (looksF R.prog x.1.heap x.2.abs, seenQ (view R.prog [0, 67]) looseAll (importedModules R.prog.main.body) (fun s => xlAt (view R.prog [0, 67]) [] s && recOk R.toRowW.records s) x.2.abs)) = some (true, openGood (view R.prog [0, 67]) looseAll) := by
  kernel_rfl
theorem run2 (w : World) : (RX w).map (fun x => ex.all fun f => f (kOf x.2)) = some true := by
  kernel_rfl
theorem run3 (w : World) : (RX w).map (fun x => fn.all fun d => d.ok (kOf x.2)) = some true := by
  kernel_rfl
theorem run4 (w : World) : (RX w).map (fun x => fn.map fun d => fnZ (kOf x.2) (d.adr (kOf x.2))) = some (fn.map DefZ.val) := by
  kernel_rfl
theorem joined {α β γ : Type} {X : Option α} {f1 : α → Bool × β} {f2 f3 : α → Bool} {f4 : α → γ} {G : α → Bool × β × (Bool × γ)} {b : β} {c : γ} (h1 : X.map f1 = some (true, b)) (h2 : X.map f2 = some true) (h3 : X.map f3 = some true) (h4 : X.map f4 = some c) (hG : ∀ x, G x = ((f1 x).1, (f1 x).2, (f2 x && f3 x, f4 x))) : X.map G = some (true, b, (true, c)) := by
  cases X with
  | none => cases h1
  | some x =>
    have e1 := Option.some.inj h1
    have e2 := Option.some.inj h2
    have e3 := Option.some.inj h3
    have e4 := Option.some.inj h4
    show some (G x) = _
    rw [hG x]
    simp only [e1, e2, e3, e4, Bool.and_self]
theorem run (w : World) : HandSHeadRun.RunEqI R (PySem.W.view R.prog [0, 67]) hk ob 9000 looseAll w := joined (run1 w) (run2 w) (run3 w) (run4 w) fun _ => rfl
end Q
end

section
set_option Elab.async false
set_option linter.all false
set_option maxRecDepth 100000
set_option maxHeartbeats 4000000
namespace Q
open PySem PySem.Spec PyProof.Rows L2 DL
noncomputable section
/-! is_integer -/
def N_is_integer : List Str := ["value"]
theorem S_is_integer : FnScope N_is_integer ["value"] (defScope (top 10)) := ⟨rfl, rfl, rfl, by decide +kernel, rfl, by decide +kernel, by decide +kernel⟩
def m_is_integer : MS := (mRet (mTV (mAnd (mB (mIsT "int" (mVar 0))) (mB (mTV (mNot (mB (mIsT "bool" (mVar 0)))))))))
def d_is_integer : List D → Mo D := runD 1 m_is_integer
theorem b_is_integer {P : Program} {w : World} {K : Fr'} {mg : Str → Option Value} {base : Heap} (Z : Zx P w K mg base) (cdv : Value) (A : Around) (outer : List Env) (s : Shared) (H : Hp) (E : XK) (hr : Room 0 (A.deeper (envOfC "is_integer" (defScope (top 10)) s.heap.objs.size (He.ga K "is_integer") cdv))) (hg : false = true → A.guards = some []) :
    PSsD (csK K) (cx0 P w K mg base N_is_integer "is_integer" (defScope (top 10)) (He.ga K "is_integer") cdv A outer s H E) (defBody (top 10)) m_is_integer := by
  exact (ss_one (s_ret (p_and (p_isT "int" Z.isi Z.fr_isinstance Z.fr_int (p_var 0)) (p_one (p_not (p_isT "bool" Z.isi Z.fr_isinstance Z.fr_bool (p_var 0)))))))
theorem w_is_integer {P : Program} {w : World} {K : Fr'} {mg : Str → Option Value} {base : Heap} (Z : Zx P w K mg base) : ∃ fd, FnD false P w K mg base 1 (He.ga K "is_integer") fd ["value"] (spD K (csK K) 1 d_is_integer) ∧ True ∧ PySem.W.keepIn K (.ref (He.ga K "is_integer")) = true ∧ Binds K fd ["value"] [] ∧ True := by
  obtain ⟨fd, D⟩ := Z.says.def_ 0 (d := z_is_integer)
  refine ⟨fd, fn_d (N := N_is_integer) D S_is_integer fun cdv A outer s H E hr hg => b_is_integer Z cdv A outer s H E hr hg, trivial, D.kp, D.bindsN (fun _ _ _ _ _ _ us hl => match us, hl with
    | [a0], _ => rfl), trivial⟩
/-! is_list -/
def N_is_list : List Str := ["value"]
theorem S_is_list : FnScope N_is_list ["value"] (defScope (top 11)) := ⟨rfl, rfl, rfl, by decide +kernel, rfl, by decide +kernel, by decide +kernel⟩
def m_is_list : MS := (mRet (mIsT2 "list" "tuple" (mVar 0)))
def d_is_list : List D → Mo D := runD 1 m_is_list
theorem b_is_list {P : Program} {w : World} {K : Fr'} {mg : Str → Option Value} {base : Heap} (Z : Zx P w K mg base) (cdv : Value) (A : Around) (outer : List Env) (s : Shared) (H : Hp) (E : XK) (hr : Room 0 (A.deeper (envOfC "is_list" (defScope (top 11)) s.heap.objs.size (He.ga K "is_list") cdv))) (hg : false = true → A.guards = some []) :
    PSsD (csK K) (cx0 P w K mg base N_is_list "is_list" (defScope (top 11)) (He.ga K "is_list") cdv A outer s H E) (defBody (top 11)) m_is_list := by
  exact (ss_one (s_ret (p_isT2 "list" "tuple" Z.isi Z.fr_isinstance Z.fr_list Z.fr_tuple (p_var 0))))
theorem w_is_list {P : Program} {w : World} {K : Fr'} {mg : Str → Option Value} {base : Heap} (Z : Zx P w K mg base) : ∃ fd, FnD false P w K mg base 1 (He.ga K "is_list") fd ["value"] (spD K (csK K) 1 d_is_list) ∧ True ∧ PySem.W.keepIn K (.ref (He.ga K "is_list")) = true ∧ Binds K fd ["value"] [] ∧ True := by
  obtain ⟨fd, D⟩ := Z.says.def_ 1 (d := z_is_list)
  refine ⟨fd, fn_d (N := N_is_list) D S_is_list fun cdv A outer s H E hr hg => b_is_list Z cdv A outer s H E hr hg, trivial, D.kp, D.bindsN (fun _ _ _ _ _ _ us hl => match us, hl with
    | [a0], _ => rfl), trivial⟩
/-! want_at_most -/
def N_want_at_most : List Str := ["what", "limit", "number"]
theorem S_want_at_most : FnScope N_want_at_most ["what", "limit", "number"] (defScope (top 12)) := ⟨rfl, rfl, rfl, by decide +kernel, rfl, by decide +kernel, by decide +kernel⟩
def m_want_at_most : MS := (mIfS (mB (mBin dGt (mVar 2) (mVar 1))) mNever mNx)
def d_want_at_most : List D → Mo D := runD 3 m_want_at_most
theorem b_want_at_most {P : Program} {w : World} {K : Fr'} {mg : Str → Option Value} {base : Heap} (Z : Zx P w K mg base) (cdv : Value) (A : Around) (outer : List Env) (s : Shared) (H : Hp) (E : XK) (hr : Room 0 (A.deeper (envOfC "want_at_most" (defScope (top 12)) s.heap.objs.size (He.ga K "want_at_most") cdv))) (hg : false = true → A.guards = some []) :
    PSsD (csK K) (cx0 P w K mg base N_want_at_most "want_at_most" (defScope (top 12)) (He.ga K "want_at_most") cdv A outer s H E) (defBody (top 12)) m_want_at_most := by
  exact (ss_one (s_if (pt_cmp op_gtI (p_var 2) (p_var 1) rfl) (ss_one s_never) ss_nil))
theorem w_want_at_most {P : Program} {w : World} {K : Fr'} {mg : Str → Option Value} {base : Heap} (Z : Zx P w K mg base) : ∃ fd, FnD false P w K mg base 1 (He.ga K "want_at_most") fd ["what", "limit", "number"] (spD K (csK K) 3 d_want_at_most) ∧ True ∧ PySem.W.keepIn K (.ref (He.ga K "want_at_most")) = true ∧ Binds K fd ["what", "limit", "number"] [] ∧ True := by
  obtain ⟨fd, D⟩ := Z.says.def_ 2 (d := z_want_at_most)
  refine ⟨fd, fn_d (N := N_want_at_most) D S_want_at_most fun cdv A outer s H E hr hg => b_want_at_most Z cdv A outer s H E hr hg, trivial, D.kp, D.bindsN (fun _ _ _ _ _ _ us hl => match us, hl with
    | [a0, a1, a2], _ => rfl), trivial⟩
/-! digits_of -/
def N_digits_of : List Str := ["number", "left", "told", "part", "sign"]
theorem S_digits_of : FnScope N_digits_of ["number"] (defScope (top 15)) := ⟨rfl, rfl, rfl, by decide +kernel, rfl, by decide +kernel, by decide +kernel⟩
def m_digits_of : MS := (mSeq (mPar 1 2 (mCons (mIf (mB (mBin dGe (mVar 0) (mC (.int 0)))) (mVar 0) (mBin dSubI (mC (.int 0)) (mVar 0))) (mCons (mC (.str "")) mNil))) (mSeq (mWhile (mB (mBin dGe (mVar 1) (mC (.int 1000000000000000000000000000000000000000000000000000000000000)))) (mSeq (mSet 3 (mBin dAddI (mBin dModI (mCall cInt (mCons (mVar 1) mNil)) (mC (.int 1000000000000000000000000000000000000000000000000000000000000))) (mC (.int 1000000000000000000000000000000000000000000000000000000000000)))) (mSeq (mSet 2 (mJs [(mFmt (mSlS (mCall cStr (mCons (mVar 3) mNil)) (mPart (mC (.int 1))) mNoP)), (mFmt (mVar 2))])) (mSet 1 (mBin dDivI (mVar 1) (mC (.int 1000000000000000000000000000000000000000000000000000000000000))))))) (mSeq (mSet 4 (mIf (mB (mBin dLt (mVar 0) (mC (.int 0)))) (mC (.str "-")) (mC (.str "")))) (mRet (mJs [(mFmt (mVar 4)), (mFmt (mVar 1)), (mFmt (mVar 2))])))))
def d_digits_of : List D → Mo D := runD 5 m_digits_of
theorem b_digits_of {P : Program} {w : World} {K : Fr'} {mg : Str → Option Value} {base : Heap} (Z : Zx P w K mg base) (cdv : Value) (A : Around) (outer : List Env) (s : Shared) (H : Hp) (E : XK) (hr : Room 0 (A.deeper (envOfC "digits_of" (defScope (top 15)) s.heap.objs.size (He.ga K "digits_of") cdv))) (hg : false = true → A.guards = some []) :
    PSsD (csK K) (cx0 P w K mg base N_digits_of "digits_of" (defScope (top 15)) (He.ga K "digits_of") cdv A outer s H E) (defBody (top 15)) m_digits_of := by
  obtain ⟨t_PART, h_PART⟩ := Z.c_PART
  exact (ss_cons (s_par 1 2 rfl S_digits_of.nd (DL.pa_cons (p_if (pt_cmp op_geI (p_var 0) p_int rfl) (p_var 0) (p_bin op_subI p_int (p_var 0))) (DL.pa_cons p_str DL.pa_nil)) rfl) (ss_cons (s_while PassesOwn.never (pt_cmp op_geI (p_var 1) (p_gint rfl h_PART) rfl) (ss_cons (s_set 3 S_digits_of.nd (p_bin op_addI (p_bin op_modI (p_type ca_int Z.fr_int (DL.pa_cons (p_var 1) DL.pa_nil)) (p_gint rfl h_PART)) (p_gint rfl h_PART))) (ss_cons (s_set 2 S_digits_of.nd (p_js (js_cons (p_fmt (p_slS (p_type ca_str Z.fr_str (DL.pa_cons (p_var 3) DL.pa_nil)) (x_some p_int) x_none)) (js_cons (p_fmt (p_var 2)) js_nil)))) (ss_one (s_set 1 S_digits_of.nd (p_bin op_divI (p_var 1) (p_gint rfl h_PART))))))) (ss_cons (s_set 4 S_digits_of.nd (p_if (pt_cmp op_ltI (p_var 0) p_int rfl) p_str p_str)) (ss_one (s_ret (p_js (js_cons (p_fmt (p_var 4)) (js_cons (p_fmt (p_var 1)) (js_cons (p_fmt (p_var 2)) js_nil)))))))))
theorem w_digits_of {P : Program} {w : World} {K : Fr'} {mg : Str → Option Value} {base : Heap} (Z : Zx P w K mg base) : ∃ fd, FnD false P w K mg base 1 (He.ga K "digits_of") fd ["number"] (spD K (csK K) 1 d_digits_of) ∧ True ∧ PySem.W.keepIn K (.ref (He.ga K "digits_of")) = true ∧ Binds K fd ["number"] [] ∧ True := by
  obtain ⟨fd, D⟩ := Z.says.def_ 3 (d := z_digits_of)
  refine ⟨fd, fn_d (N := N_digits_of) D S_digits_of fun cdv A outer s H E hr hg => b_digits_of Z cdv A outer s H E hr hg, trivial, D.kp, D.bindsN (fun _ _ _ _ _ _ us hl => match us, hl with
    | [a0], _ => rfl), trivial⟩
/-! common_part -/
def N_common_part : List Str := ["one", "other"]
theorem S_common_part : FnScope N_common_part ["one", "other"] (defScope (top 16)) := ⟨rfl, rfl, rfl, by decide +kernel, rfl, by decide +kernel, by decide +kernel⟩
def m_common_part : MS := (mRet (mCall cGcd (mCons (mVar 0) (mCons (mVar 1) mNil))))
def d_common_part : List D → Mo D := runD 2 m_common_part
theorem b_common_part {P : Program} {w : World} {K : Fr'} {mg : Str → Option Value} {base : Heap} (Z : Zx P w K mg base) (cdv : Value) (A : Around) (outer : List Env) (s : Shared) (H : Hp) (E : XK) (hr : Room 0 (A.deeper (envOfC "common_part" (defScope (top 16)) s.heap.objs.size (He.ga K "common_part") cdv))) (hg : false = true → A.guards = some []) :
    PSsD (csK K) (cx0 P w K mg base N_common_part "common_part" (defScope (top 16)) (He.ga K "common_part") cdv A outer s H E) (defBody (top 16)) m_common_part := by
  exact (ss_one (s_ret (p_bfun ca_gcd Z.bi_gcd (DL.pa_cons (p_var 0) (DL.pa_cons (p_var 1) DL.pa_nil)))))
theorem w_common_part {P : Program} {w : World} {K : Fr'} {mg : Str → Option Value} {base : Heap} (Z : Zx P w K mg base) : ∃ fd, FnD false P w K mg base 1 (He.ga K "common_part") fd ["one", "other"] (spD K (csK K) 2 d_common_part) ∧ True ∧ PySem.W.keepIn K (.ref (He.ga K "common_part")) = true ∧ Binds K fd ["one", "other"] [] ∧ True := by
  obtain ⟨fd, D⟩ := Z.says.def_ 4 (d := z_common_part)
  refine ⟨fd, fn_d (N := N_common_part) D S_common_part fun cdv A outer s H E hr hg => b_common_part Z cdv A outer s H E hr hg, trivial, D.kp, D.bindsN (fun _ _ _ _ _ _ us hl => match us, hl with
    | [a0, a1], _ => rfl), trivial⟩
/-! Ratio.__init__ -/
def N_Ratio___init__ : List Str := ["self", "top", "bottom", "common"]
theorem S_Ratio___init__ : FnScope N_Ratio___init__ ["self", "top", "bottom"] (defScope (inClass (top 17) 0)) := ⟨rfl, rfl, rfl, by decide +kernel, rfl, by decide +kernel, by decide +kernel⟩
def m_Ratio___init__ : MS := (mSeq (mIfS (mNot (mB (mCall (lenM 1 d_is_integer) (mCons (mVar 1) mNil)))) mNever mNx) (mSeq (mIfS (mOr (mNot (mB (mCall (lenM 1 d_is_integer) (mCons (mVar 2) mNil)))) (mB (mBin (dEqF false) (mVar 2) (mC (.int 0))))) mNever mNx) (mSeq (mSet 3 (mCall (lenM 2 d_common_part) (mCons (mVar 1) (mCons (mVar 2) mNil)))) (mSeq (mIfS (mB (mBin dLt (mVar 2) (mC (.int 0)))) (mSet 3 (mBin dSubI (mC (.int 0)) (mVar 3))) mNx) (mSeq (mFldAt 0 0 0 (mBin dDivI (mVar 1) (mVar 3))) (mFldAt 0 0 1 (mBin dDivI (mVar 2) (mVar 3))))))))
def d_Ratio___init__ : List D → Mo D := runI 4 0 2 m_Ratio___init__
theorem b_Ratio___init__ {P : Program} {w : World} {K : Fr'} {mg : Str → Option Value} {base : Heap} (Z : Zx P w K mg base) (cdv : Value) (A : Around) (outer : List Env) (s : Shared) (H : Hp) (E : XK) (hr : Room 1 (A.deeper (envOfC "Ratio.__init__" (defScope (inClass (top 17) 0)) s.heap.objs.size (He.ma K (He.ga K "Ratio") "__init__") cdv))) (hg : false = true → A.guards = some []) :
    PSsD (csK K) (cx0 P w K mg base N_Ratio___init__ "Ratio.__init__" (defScope (inClass (top 17) 0)) (He.ma K (He.ga K "Ratio") "__init__") cdv A outer s H E) (defBody (inClass (top 17) 0)) m_Ratio___init__ := by
  obtain ⟨fd_common_part, F_common_part, FO_common_part, hk_common_part, hb_common_part, _⟩ := w_common_part Z
  obtain ⟨fd_is_integer, F_is_integer, FO_is_integer, hk_is_integer, hb_is_integer, _⟩ := w_is_integer Z
  exact (ss_cons (s_if (DL.pt_not (pt_v (p_call F_is_integer (hr.mono (by decide)) (fun (z : false = true) => nomatch z) (Z.glo_is_integer) hk_is_integer hb_is_integer (DL.pa_cons (p_var 1) DL.pa_nil)))) (ss_one s_never) ss_nil) (ss_cons (s_if (PWD.pt (DL.pw_or (DL.pt_not (pt_v (p_call F_is_integer (hr.mono (by decide)) (fun (z : false = true) => nomatch z) (Z.glo_is_integer) hk_is_integer hb_is_integer (DL.pa_cons (p_var 2) DL.pa_nil)))) (pw_one (pt_cmp (op_eqF false) (p_var 2) p_int rfl)))) (ss_one s_never) ss_nil) (ss_cons (s_set 3 S_Ratio___init__.nd (p_call F_common_part (hr.mono (by decide)) (fun (z : false = true) => nomatch z) (Z.glo_common_part) hk_common_part hb_common_part (DL.pa_cons (p_var 1) (DL.pa_cons (p_var 2) DL.pa_nil)))) (ss_cons (s_if (pt_cmp op_ltI (p_var 2) p_int rfl) (ss_one (s_set 3 S_Ratio___init__.nd (p_bin op_subI p_int (p_var 3)))) ss_nil) (ss_cons (s_fld 0 0 Z.cl0 Z.no_Ratio_own_top (p_bin op_divI (p_var 1) (p_var 3))) (ss_one (s_fld 0 1 Z.cl0 Z.no_Ratio_own_bottom (p_bin op_divI (p_var 2) (p_var 3)))))))))
theorem w_Ratio___init__ {P : Program} {w : World} {K : Fr'} {mg : Str → Option Value} {base : Heap} (Z : Zx P w K mg base) : ∃ fd, FnD false P w K mg base 2 (He.ma K (He.ga K "Ratio") "__init__") fd ["self", "top", "bottom"] (spMk K (csK K) (He.ga K "Ratio") 2 d_Ratio___init__) ∧ (∃ ds, Vals (([.int 1] : List He.Dv).map (He.Dv.v K) |>.drop 0) ds ∧ Binds K fd ["self", "top", "bottom"] ds) ∧ (∃ ds, Vals (([.int 1] : List He.Dv).map (He.Dv.v K) |>.drop 1) ds ∧ Binds K fd ["self", "top", "bottom"] ds) := by
  obtain ⟨fd, D⟩ := Z.says.def_ 5 (d := z_Ratio___init__)
  refine ⟨fd, fn_i (N := N_Ratio___init__) Z.cl0 D S_Ratio___init__ rfl fun cdv A outer s H E hr hg => b_Ratio___init__ Z cdv A outer s H E hr hg, ?_, ?_⟩
  · exact D.binds1 2 0 (by simp [z_Ratio___init__, DefZ.dvs]) (by rfl) (fun _ _ _ _ _ _ _ us its hl hi => match us, its, hl, hi with
    | [a0, a1], [b0], _, _ => ⟨_, rfl, rfl⟩)
  · exact D.binds1 3 1 (by simp [z_Ratio___init__, DefZ.dvs]) (by rfl) (fun _ _ _ _ _ _ _ us its hl hi => match us, its, hl, hi with
    | [a0, a1, a2], [b0], _, _ => ⟨_, rfl, rfl⟩)
def mk_Ratio_1 (fm : List D → Mo D) : List D → Mo D := fun ds => lenM 1 (fun ds => fm (ds ++ [.int 1])) ds
theorem mkW_Ratio_1 {P : Program} {w : World} {K : Fr'} {mg : Str → Option Value} {base : Heap} {X : Cx} {e0 : Expr} {p pos : Pos} {mm : Env' → Mo (List D)} (Z : Zx P w K mg base) (hr : Room 3 X.A) (ha : PAD (csK K) X [e0] mm) (hX : X.prog = P ∧ X.w = w ∧ X.K = K ∧ X.mg = mg ∧ X.base = base := by exact ⟨rfl, rfl, rfl, rfl, rfl⟩) (hg : Gl X "Ratio" := by rfl)
    (he : starEach [e0] X.env = (false, eval e0 X.env) :: starEach [] X.env := by rfl) (hpl : (backTo pos (starEach [] X.env)).any (·.1) = false := by rfl) : PED (csK K) X (.Call (.Name "Ratio" p) [e0] [] pos) (mCall (mk_Ratio_1 d_Ratio___init__) mm) := by
  obtain ⟨rfl, rfl, rfl, rfl, rfl⟩ := hX
  obtain ⟨fd, F, ⟨ds0, v0, b0⟩, ⟨ds1, v1, b1⟩⟩ := w_Ratio___init__ Z
  exact p_make (n := 1) (dds := [.int 1]) Z.mkr_Ratio F.ok hr Z.glo_Ratio b0 v0 (fun ap B => (reps_cons (by simp only [Rep]; rfl) reps_nil)) ha hg (by decide) he hpl
def mk_Ratio_2 (fm : List D → Mo D) : List D → Mo D := fun ds => lenM 2 (fun ds => fm (ds ++ [])) ds
theorem mkW_Ratio_2 {P : Program} {w : World} {K : Fr'} {mg : Str → Option Value} {base : Heap} {X : Cx} {e0 e1 : Expr} {p pos : Pos} {mm : Env' → Mo (List D)} (Z : Zx P w K mg base) (hr : Room 3 X.A) (ha : PAD (csK K) X [e0, e1] mm) (hX : X.prog = P ∧ X.w = w ∧ X.K = K ∧ X.mg = mg ∧ X.base = base := by exact ⟨rfl, rfl, rfl, rfl, rfl⟩) (hg : Gl X "Ratio" := by rfl)
    (he : starEach [e0, e1] X.env = (false, eval e0 X.env) :: starEach [e1] X.env := by rfl) (hpl : (backTo pos (starEach [e1] X.env)).any (·.1) = false := by rfl) : PED (csK K) X (.Call (.Name "Ratio" p) [e0, e1] [] pos) (mCall (mk_Ratio_2 d_Ratio___init__) mm) := by
  obtain ⟨rfl, rfl, rfl, rfl, rfl⟩ := hX
  obtain ⟨fd, F, ⟨ds0, v0, b0⟩, ⟨ds1, v1, b1⟩⟩ := w_Ratio___init__ Z
  exact p_make (n := 2) (dds := []) Z.mkr_Ratio F.ok hr Z.glo_Ratio b1 v1 (fun ap B => reps_nil) ha hg (by decide) he hpl
/-! told_pair -/
def N_told_pair : List Str := ["value"]
theorem S_told_pair : FnScope N_told_pair ["value"] (defScope (top 18)) := ⟨rfl, rfl, rfl, by decide +kernel, rfl, by decide +kernel, by decide +kernel⟩
def m_told_pair : MS := (mSeq (mIfS (mB (mIsC 0 (mVar 0))) (mRet (mTup (mCons (mFld 0 0 (mVar 0)) (mCons (mFld 0 1 (mVar 0)) mNil)))) mNx) (mSeq (mIfS (mNot (mB (mCall (lenM 1 d_is_integer) (mCons (mVar 0) mNil)))) mNever mNx) (mRet (mTup (mCons (mVar 0) (mCons (mC (.int 1)) mNil))))))
def d_told_pair : List D → Mo D := runD 1 m_told_pair
theorem b_told_pair {P : Program} {w : World} {K : Fr'} {mg : Str → Option Value} {base : Heap} (Z : Zx P w K mg base) (cdv : Value) (A : Around) (outer : List Env) (s : Shared) (H : Hp) (E : XK) (hr : Room 1 (A.deeper (envOfC "told_pair" (defScope (top 18)) s.heap.objs.size (He.ga K "told_pair") cdv))) (hg : false = true → A.guards = some []) :
    PSsD (csK K) (cx0 P w K mg base N_told_pair "told_pair" (defScope (top 18)) (He.ga K "told_pair") cdv A outer s H E) (defBody (top 18)) m_told_pair := by
  obtain ⟨fd_is_integer, F_is_integer, FO_is_integer, hk_is_integer, hb_is_integer, _⟩ := w_is_integer Z
  exact (ss_cons (s_if (pt_v (p_isC Z.isi (Z.cl0).at_ Z.fr_isinstance Z.glo_Ratio (p_var 0))) (ss_one (s_ret (p_tup (DL.pa_cons (p_fld 0 (Z.cl0) Z.no_Ratio_own_top (p_var 0)) (DL.pa_cons (p_fld 1 (Z.cl0) Z.no_Ratio_own_bottom (p_var 0)) DL.pa_nil))))) ss_nil) (ss_cons (s_if (DL.pt_not (pt_v (p_call F_is_integer (hr.mono (by decide)) (fun (z : false = true) => nomatch z) (Z.glo_is_integer) hk_is_integer hb_is_integer (DL.pa_cons (p_var 0) DL.pa_nil)))) (ss_one s_never) ss_nil) (ss_one (s_ret (p_tup (DL.pa_cons (p_var 0) (DL.pa_cons p_int DL.pa_nil)))))))
theorem w_told_pair {P : Program} {w : World} {K : Fr'} {mg : Str → Option Value} {base : Heap} (Z : Zx P w K mg base) : ∃ fd, FnD false P w K mg base 2 (He.ga K "told_pair") fd ["value"] (spD K (csK K) 1 d_told_pair) ∧ True ∧ PySem.W.keepIn K (.ref (He.ga K "told_pair")) = true ∧ Binds K fd ["value"] [] ∧ True := by
  obtain ⟨fd, D⟩ := Z.says.def_ 11 (d := z_told_pair)
  refine ⟨fd, fn_d (N := N_told_pair) D S_told_pair fun cdv A outer s H E hr hg => b_told_pair Z cdv A outer s H E hr hg, trivial, D.kp, D.bindsN (fun _ _ _ _ _ _ us hl => match us, hl with
    | [a0], _ => rfl), trivial⟩
/-! Ratio.__add__ -/
def N_Ratio___add__ : List Str := ["self", "other", "top", "bottom"]
theorem S_Ratio___add__ : FnScope N_Ratio___add__ ["self", "other"] (defScope (inClass (top 17) 6)) := ⟨rfl, rfl, rfl, by decide +kernel, rfl, by decide +kernel, by decide +kernel⟩
def m_Ratio___add__ : MS := (mSeq (mAsg (tgTup 2 (tgCons (tgN 2) (tgCons (tgN 3) tgNil))) (mCall (lenM 1 d_told_pair) (mCons (mVar 1) mNil))) (mRet (mCall (mk_Ratio_2 d_Ratio___init__) (mCons (mBin dAddI (mBin dMulI (mFld 0 0 (mVar 0)) (mVar 3)) (mBin dMulI (mVar 2) (mFld 0 1 (mVar 0)))) (mCons (mBin dMulI (mFld 0 1 (mVar 0)) (mVar 3)) mNil)))))
def d_Ratio___add__ : List D → Mo D := runD 4 m_Ratio___add__
theorem b_Ratio___add__ {P : Program} {w : World} {K : Fr'} {mg : Str → Option Value} {base : Heap} (Z : Zx P w K mg base) (cdv : Value) (A : Around) (outer : List Env) (s : Shared) (H : Hp) (E : XK) (hr : Room 3 (A.deeper (envOfC "Ratio.__add__" (defScope (inClass (top 17) 6)) s.heap.objs.size (He.ma K (He.ga K "Ratio") "__add__") cdv))) (hg : false = true → A.guards = some []) :
    PSsD (csK K) (cx0 P w K mg base N_Ratio___add__ "Ratio.__add__" (defScope (inClass (top 17) 6)) (He.ma K (He.ga K "Ratio") "__add__") cdv A outer s H E) (defBody (inClass (top 17) 6)) m_Ratio___add__ := by
  obtain ⟨fd_told_pair, F_told_pair, FO_told_pair, hk_told_pair, hb_told_pair, _⟩ := w_told_pair Z
  exact (ss_cons (s_asg (p_call F_told_pair (hr.mono (by decide)) (fun (z : false = true) => nomatch z) (Z.glo_told_pair) hk_told_pair hb_told_pair (DL.pa_cons (p_var 1) DL.pa_nil)) (g_tup rfl (gs_cons (g_name 2 S_Ratio___add__.nd) (gs_cons (g_name 3 S_Ratio___add__.nd) gs_nil)))) (ss_one (s_ret (mkW_Ratio_2 Z (hr.mono (by decide)) (DL.pa_cons (p_bin op_addI (p_bin op_mulI (p_fld 0 (Z.cl0) Z.no_Ratio_own_top (p_var 0)) (p_var 3)) (p_bin op_mulI (p_var 2) (p_fld 1 (Z.cl0) Z.no_Ratio_own_bottom (p_var 0)))) (DL.pa_cons (p_bin op_mulI (p_fld 1 (Z.cl0) Z.no_Ratio_own_bottom (p_var 0)) (p_var 3)) DL.pa_nil))))))
theorem w_Ratio___add__ {P : Program} {w : World} {K : Fr'} {mg : Str → Option Value} {base : Heap} (Z : Zx P w K mg base) : ∃ fd, FnD false P w K mg base 4 (He.ma K (He.ga K "Ratio") "__add__") fd ["self", "other"] (spD K (csK K) 2 d_Ratio___add__) ∧ True ∧ PySem.W.keepIn K (.ref (He.ma K (He.ga K "Ratio") "__add__")) = true ∧ Binds K fd ["self", "other"] [] ∧ True := by
  obtain ⟨fd, D⟩ := Z.says.def_ 6 (d := z_Ratio___add__)
  refine ⟨fd, fn_d (N := N_Ratio___add__) D S_Ratio___add__ fun cdv A outer s H E hr hg => b_Ratio___add__ Z cdv A outer s H E hr hg, trivial, D.kp, D.bindsN (fun _ _ _ _ _ _ us hl => match us, hl with
    | [a0, a1], _ => rfl), trivial⟩
/-! Ratio.__sub__ -/
def N_Ratio___sub__ : List Str := ["self", "other", "top", "bottom"]
theorem S_Ratio___sub__ : FnScope N_Ratio___sub__ ["self", "other"] (defScope (inClass (top 17) 8)) := ⟨rfl, rfl, rfl, by decide +kernel, rfl, by decide +kernel, by decide +kernel⟩
def m_Ratio___sub__ : MS := (mSeq (mAsg (tgTup 2 (tgCons (tgN 2) (tgCons (tgN 3) tgNil))) (mCall (lenM 1 d_told_pair) (mCons (mVar 1) mNil))) (mRet (mCall (mk_Ratio_2 d_Ratio___init__) (mCons (mBin dSubI (mBin dMulI (mFld 0 0 (mVar 0)) (mVar 3)) (mBin dMulI (mVar 2) (mFld 0 1 (mVar 0)))) (mCons (mBin dMulI (mFld 0 1 (mVar 0)) (mVar 3)) mNil)))))
def d_Ratio___sub__ : List D → Mo D := runD 4 m_Ratio___sub__
theorem b_Ratio___sub__ {P : Program} {w : World} {K : Fr'} {mg : Str → Option Value} {base : Heap} (Z : Zx P w K mg base) (cdv : Value) (A : Around) (outer : List Env) (s : Shared) (H : Hp) (E : XK) (hr : Room 3 (A.deeper (envOfC "Ratio.__sub__" (defScope (inClass (top 17) 8)) s.heap.objs.size (He.ma K (He.ga K "Ratio") "__sub__") cdv))) (hg : false = true → A.guards = some []) :
    PSsD (csK K) (cx0 P w K mg base N_Ratio___sub__ "Ratio.__sub__" (defScope (inClass (top 17) 8)) (He.ma K (He.ga K "Ratio") "__sub__") cdv A outer s H E) (defBody (inClass (top 17) 8)) m_Ratio___sub__ := by
  obtain ⟨fd_told_pair, F_told_pair, FO_told_pair, hk_told_pair, hb_told_pair, _⟩ := w_told_pair Z
  exact (ss_cons (s_asg (p_call F_told_pair (hr.mono (by decide)) (fun (z : false = true) => nomatch z) (Z.glo_told_pair) hk_told_pair hb_told_pair (DL.pa_cons (p_var 1) DL.pa_nil)) (g_tup rfl (gs_cons (g_name 2 S_Ratio___sub__.nd) (gs_cons (g_name 3 S_Ratio___sub__.nd) gs_nil)))) (ss_one (s_ret (mkW_Ratio_2 Z (hr.mono (by decide)) (DL.pa_cons (p_bin op_subI (p_bin op_mulI (p_fld 0 (Z.cl0) Z.no_Ratio_own_top (p_var 0)) (p_var 3)) (p_bin op_mulI (p_var 2) (p_fld 1 (Z.cl0) Z.no_Ratio_own_bottom (p_var 0)))) (DL.pa_cons (p_bin op_mulI (p_fld 1 (Z.cl0) Z.no_Ratio_own_bottom (p_var 0)) (p_var 3)) DL.pa_nil))))))
theorem w_Ratio___sub__ {P : Program} {w : World} {K : Fr'} {mg : Str → Option Value} {base : Heap} (Z : Zx P w K mg base) : ∃ fd, FnD false P w K mg base 4 (He.ma K (He.ga K "Ratio") "__sub__") fd ["self", "other"] (spD K (csK K) 2 d_Ratio___sub__) ∧ True ∧ PySem.W.keepIn K (.ref (He.ma K (He.ga K "Ratio") "__sub__")) = true ∧ Binds K fd ["self", "other"] [] ∧ True := by
  obtain ⟨fd, D⟩ := Z.says.def_ 7 (d := z_Ratio___sub__)
  refine ⟨fd, fn_d (N := N_Ratio___sub__) D S_Ratio___sub__ fun cdv A outer s H E hr hg => b_Ratio___sub__ Z cdv A outer s H E hr hg, trivial, D.kp, D.bindsN (fun _ _ _ _ _ _ us hl => match us, hl with
    | [a0, a1], _ => rfl), trivial⟩
/-! Ratio.__mul__ -/
def N_Ratio___mul__ : List Str := ["self", "other", "top", "bottom"]
theorem S_Ratio___mul__ : FnScope N_Ratio___mul__ ["self", "other"] (defScope (inClass (top 17) 10)) := ⟨rfl, rfl, rfl, by decide +kernel, rfl, by decide +kernel, by decide +kernel⟩
def m_Ratio___mul__ : MS := (mSeq (mAsg (tgTup 2 (tgCons (tgN 2) (tgCons (tgN 3) tgNil))) (mCall (lenM 1 d_told_pair) (mCons (mVar 1) mNil))) (mRet (mCall (mk_Ratio_2 d_Ratio___init__) (mCons (mBin dMulI (mFld 0 0 (mVar 0)) (mVar 2)) (mCons (mBin dMulI (mFld 0 1 (mVar 0)) (mVar 3)) mNil)))))
def d_Ratio___mul__ : List D → Mo D := runD 4 m_Ratio___mul__
theorem b_Ratio___mul__ {P : Program} {w : World} {K : Fr'} {mg : Str → Option Value} {base : Heap} (Z : Zx P w K mg base) (cdv : Value) (A : Around) (outer : List Env) (s : Shared) (H : Hp) (E : XK) (hr : Room 3 (A.deeper (envOfC "Ratio.__mul__" (defScope (inClass (top 17) 10)) s.heap.objs.size (He.ma K (He.ga K "Ratio") "__mul__") cdv))) (hg : false = true → A.guards = some []) :
    PSsD (csK K) (cx0 P w K mg base N_Ratio___mul__ "Ratio.__mul__" (defScope (inClass (top 17) 10)) (He.ma K (He.ga K "Ratio") "__mul__") cdv A outer s H E) (defBody (inClass (top 17) 10)) m_Ratio___mul__ := by
  obtain ⟨fd_told_pair, F_told_pair, FO_told_pair, hk_told_pair, hb_told_pair, _⟩ := w_told_pair Z
  exact (ss_cons (s_asg (p_call F_told_pair (hr.mono (by decide)) (fun (z : false = true) => nomatch z) (Z.glo_told_pair) hk_told_pair hb_told_pair (DL.pa_cons (p_var 1) DL.pa_nil)) (g_tup rfl (gs_cons (g_name 2 S_Ratio___mul__.nd) (gs_cons (g_name 3 S_Ratio___mul__.nd) gs_nil)))) (ss_one (s_ret (mkW_Ratio_2 Z (hr.mono (by decide)) (DL.pa_cons (p_bin op_mulI (p_fld 0 (Z.cl0) Z.no_Ratio_own_top (p_var 0)) (p_var 2)) (DL.pa_cons (p_bin op_mulI (p_fld 1 (Z.cl0) Z.no_Ratio_own_bottom (p_var 0)) (p_var 3)) DL.pa_nil))))))
theorem w_Ratio___mul__ {P : Program} {w : World} {K : Fr'} {mg : Str → Option Value} {base : Heap} (Z : Zx P w K mg base) : ∃ fd, FnD false P w K mg base 4 (He.ma K (He.ga K "Ratio") "__mul__") fd ["self", "other"] (spD K (csK K) 2 d_Ratio___mul__) ∧ True ∧ PySem.W.keepIn K (.ref (He.ma K (He.ga K "Ratio") "__mul__")) = true ∧ Binds K fd ["self", "other"] [] ∧ True := by
  obtain ⟨fd, D⟩ := Z.says.def_ 8 (d := z_Ratio___mul__)
  refine ⟨fd, fn_d (N := N_Ratio___mul__) D S_Ratio___mul__ fun cdv A outer s H E hr hg => b_Ratio___mul__ Z cdv A outer s H E hr hg, trivial, D.kp, D.bindsN (fun _ _ _ _ _ _ us hl => match us, hl with
    | [a0, a1], _ => rfl), trivial⟩
/-! Ratio.__eq__ -/
def N_Ratio___eq__ : List Str := ["self", "other"]
theorem S_Ratio___eq__ : FnScope N_Ratio___eq__ ["self", "other"] (defScope (inClass (top 17) 17)) := ⟨rfl, rfl, rfl, by decide +kernel, rfl, by decide +kernel, by decide +kernel⟩
def m_Ratio___eq__ : MS := (mSeq (mIfS (mNot (mB (mIsC 0 (mVar 1)))) (mRet (mC (.bl false))) mNx) (mRet (mTV (mAnd (mB (mBin (dEqF false) (mFld 0 0 (mVar 0)) (mFld 0 0 (mVar 1)))) (mB (mBin (dEqF false) (mFld 0 1 (mVar 0)) (mFld 0 1 (mVar 1))))))))
def d_Ratio___eq__ : List D → Mo D := runD 2 m_Ratio___eq__
theorem b_Ratio___eq__ {P : Program} {w : World} {K : Fr'} {mg : Str → Option Value} {base : Heap} (Z : Zx P w K mg base) (cdv : Value) (A : Around) (outer : List Env) (s : Shared) (H : Hp) (E : XK) (hr : Room 0 (A.deeper (envOfC "Ratio.__eq__" (defScope (inClass (top 17) 17)) s.heap.objs.size (He.ma K (He.ga K "Ratio") "__eq__") cdv))) (hg : false = true → A.guards = some []) :
    PSsD (csK K) (cx0 P w K mg base N_Ratio___eq__ "Ratio.__eq__" (defScope (inClass (top 17) 17)) (He.ma K (He.ga K "Ratio") "__eq__") cdv A outer s H E) (defBody (inClass (top 17) 17)) m_Ratio___eq__ := by
  exact (ss_cons (s_if (DL.pt_not (pt_v (p_isC Z.isi (Z.cl0).at_ Z.fr_isinstance Z.glo_Ratio (p_var 1)))) (ss_one (s_ret p_bl)) ss_nil) (ss_one (s_ret (p_and (p_cmp (op_eqF false) (p_fld 0 (Z.cl0) Z.no_Ratio_own_top (p_var 0)) (p_fld 0 (Z.cl0) Z.no_Ratio_own_top (p_var 1)) rfl) (p_one (p_cmp (op_eqF false) (p_fld 1 (Z.cl0) Z.no_Ratio_own_bottom (p_var 0)) (p_fld 1 (Z.cl0) Z.no_Ratio_own_bottom (p_var 1)) rfl))))))
theorem w_Ratio___eq__ {P : Program} {w : World} {K : Fr'} {mg : Str → Option Value} {base : Heap} (Z : Zx P w K mg base) : ∃ fd, FnD false P w K mg base 1 (He.ma K (He.ga K "Ratio") "__eq__") fd ["self", "other"] (spD K (csK K) 2 d_Ratio___eq__) ∧ True ∧ PySem.W.keepIn K (.ref (He.ma K (He.ga K "Ratio") "__eq__")) = true ∧ Binds K fd ["self", "other"] [] ∧ True := by
  obtain ⟨fd, D⟩ := Z.says.def_ 9 (d := z_Ratio___eq__)
  refine ⟨fd, fn_d (N := N_Ratio___eq__) D S_Ratio___eq__ fun cdv A outer s H E hr hg => b_Ratio___eq__ Z cdv A outer s H E hr hg, trivial, D.kp, D.bindsN (fun _ _ _ _ _ _ us hl => match us, hl with
    | [a0, a1], _ => rfl), trivial⟩
/-! Ratio.__repr__ -/
def N_Ratio___repr__ : List Str := ["self"]
theorem S_Ratio___repr__ : FnScope N_Ratio___repr__ ["self"] (defScope (inClass (top 17) 19)) := ⟨rfl, rfl, rfl, by decide +kernel, rfl, by decide +kernel, by decide +kernel⟩
def m_Ratio___repr__ : MS := (mRet (mJs [(mC (.str "Ratio(")), (mFmt (mCall (lenM 1 d_digits_of) (mCons (mFld 0 0 (mVar 0)) mNil))), (mC (.str ", ")), (mFmt (mCall (lenM 1 d_digits_of) (mCons (mFld 0 1 (mVar 0)) mNil))), (mC (.str ")"))]))
def d_Ratio___repr__ : List D → Mo D := runD 1 m_Ratio___repr__
theorem b_Ratio___repr__ {P : Program} {w : World} {K : Fr'} {mg : Str → Option Value} {base : Heap} (Z : Zx P w K mg base) (cdv : Value) (A : Around) (outer : List Env) (s : Shared) (H : Hp) (E : XK) (hr : Room 1 (A.deeper (envOfC "Ratio.__repr__" (defScope (inClass (top 17) 19)) s.heap.objs.size (He.ma K (He.ga K "Ratio") "__repr__") cdv))) (hg : false = true → A.guards = some []) :
    PSsD (csK K) (cx0 P w K mg base N_Ratio___repr__ "Ratio.__repr__" (defScope (inClass (top 17) 19)) (He.ma K (He.ga K "Ratio") "__repr__") cdv A outer s H E) (defBody (inClass (top 17) 19)) m_Ratio___repr__ := by
  obtain ⟨fd_digits_of, F_digits_of, FO_digits_of, hk_digits_of, hb_digits_of, _⟩ := w_digits_of Z
  exact (ss_one (s_ret (p_js (js_cons p_str (js_cons (p_fmt (p_call F_digits_of (hr.mono (by decide)) (fun (z : false = true) => nomatch z) (Z.glo_digits_of) hk_digits_of hb_digits_of (DL.pa_cons (p_fld 0 (Z.cl0) Z.no_Ratio_own_top (p_var 0)) DL.pa_nil))) (js_cons p_str (js_cons (p_fmt (p_call F_digits_of (hr.mono (by decide)) (fun (z : false = true) => nomatch z) (Z.glo_digits_of) hk_digits_of hb_digits_of (DL.pa_cons (p_fld 1 (Z.cl0) Z.no_Ratio_own_bottom (p_var 0)) DL.pa_nil))) (js_cons p_str js_nil))))))))
theorem w_Ratio___repr__ {P : Program} {w : World} {K : Fr'} {mg : Str → Option Value} {base : Heap} (Z : Zx P w K mg base) : ∃ fd, FnD false P w K mg base 2 (He.ma K (He.ga K "Ratio") "__repr__") fd ["self"] (spD K (csK K) 1 d_Ratio___repr__) ∧ True ∧ PySem.W.keepIn K (.ref (He.ma K (He.ga K "Ratio") "__repr__")) = true ∧ Binds K fd ["self"] [] ∧ True := by
  obtain ⟨fd, D⟩ := Z.says.def_ 10 (d := z_Ratio___repr__)
  refine ⟨fd, fn_d (N := N_Ratio___repr__) D S_Ratio___repr__ fun cdv A outer s H E hr hg => b_Ratio___repr__ Z cdv A outer s H E hr hg, trivial, D.kp, D.bindsN (fun _ _ _ _ _ _ us hl => match us, hl with
    | [a0], _ => rfl), trivial⟩
end
end Q
end

section
set_option Elab.async false
set_option linter.all false
set_option maxRecDepth 100000
set_option maxHeartbeats 4000000
/-! Ratio: ==, repr, the operators. -/
namespace Q
open PySem PySem.Spec PyProof.Rows L2 DL
def uq : Nat → List D → List D → Option Bool
  | 0, [.int a, .int b], [.int x, .int y] => some (decide (a = x) && decide (b = y))
  | _, _, _ => none
theorem uq_inv {c : Nat} {fs gs : List D} {b : Bool} (h : uq c fs gs = some b) : ∃ a b' x y, c = 0 ∧ fs = [.int a, .int b'] ∧ gs = [.int x, .int y] ∧ b = (decide (a = x) && decide (b' = y)) := by
  unfold uq at h
  split at h
  · cases h; exact ⟨_, _, _, _, rfl, rfl, rfl, rfl⟩
  · cases h
theorem eq_ratio (a b c d : Int) (p : Pt) : d_Ratio___eq__ [.ins 0 [.int a, .int b], .ins 0 [.int c, .int d]] p = some (.bl (decide (a = c) && decide (b = d)), p) := by
  by_cases h : a = c <;> by_cases h2 : b = d <;> simp [runD, env0, mSeq, mIfS, mNot, mB, mIsC, mVar, isC, mRet, mC, mTV, mAnd, mOr, mBin, mFld, dEqF, flV, retM, DL.bindM, mNx, mCall, lenM, mCons, mNil, mTup, mIsT, isT, d_Ratio___eq__, m_Ratio___eq__, scal, h, h2]
section
variable {P : Program} {w : World} {K : Fr'} {mg : Str → Option Value} {base : Heap} {X : Cx}
theorem ueq (Z : Zx X.prog X.w X.K X.mg X.base) : UEq X (csK X.K) 1 uq := by
  refine ⟨fun c fs gs b h => ?_, fun c fs b h => ?_, Z.inj⟩
  · obtain ⟨a, b', x, y, rfl, rfl, rfl, rfl⟩ := uq_inv h
    obtain ⟨fd, F, _, hk, hb, _⟩ := w_Ratio___eq__ Z
    exact ⟨_, _, _, fd, _, _, Z.cl0, Z.me_Ratio___eq__.at_, Z.me_Ratio___eq__.fn, F, hb, fun p => eq_ratio _ _ _ _ p⟩
  · obtain ⟨a, b', x, y, rfl, h1, h2, rfl⟩ := uq_inv h
    rw [h1] at h2
    cases h2
    simp [runD, env0, mSeq, mIfS, mNot, mB, mIsC, mVar, isC, mRet, mC, mTV, mAnd, mOr, mBin, mFld, dEqF, flV, retM, DL.bindM, mNx, mCall, lenM, mCons, mNil, mTup, mIsT, isT]
def dEqU (ne : Bool) : D → D → Mo D := dOr (dEqR uq 3 ne) (dNeI uq ne)
theorem op_eqU (Z : Zx P w K mg base) (hr : Room 5 X.A) (ne : Bool) (hX : X.prog = P ∧ X.w = w ∧ X.K = K ∧ X.mg = mg ∧ X.base = base := by exact ⟨rfl, rfl, rfl, rfl, rfl⟩) : OpD (csK K) X (compareOp (DQ.opC ne)) (dEqU ne) := by
  obtain ⟨rfl, rfl, rfl, rfl, rfl⟩ := hX
  exact (opD_eqR (k := 1) 3 (ueq Z) hr ne).or (opD_neI (k := 1) (ueq Z) Z.ne (hr.mono (by decide)) ne)
open Classical in
noncomputable def ur (c : Nat) (fs : List D) : Option Str := if h : c = 0 ∧ ∃ t, ∀ p, d_Ratio___repr__ [.ins 0 fs] p = some (.str t, p) then some h.2.choose else none
theorem ur_of {fs : List D} {t : Str} (h : ∀ p, d_Ratio___repr__ [.ins 0 fs] p = some (.str t, p)) : ur 0 fs = some t := by
  have h1 : ∃ t, ∀ p, d_Ratio___repr__ [.ins 0 fs] p = some (.str t, p) := ⟨t, h⟩
  unfold ur
  rw [dif_pos ⟨rfl, h1⟩]
  have h2 := h1.choose_spec (0, 0)
  rw [h (0, 0)] at h2
  cases h2
  rfl
theorem ur_inv {c : Nat} {fs : List D} {t : Str} (h : ur c fs = some t) : c = 0 ∧ ∀ p, d_Ratio___repr__ [.ins 0 fs] p = some (.str t, p) := by
  unfold ur at h
  split at h
  · rename_i z
    cases h
    exact ⟨z.1, z.2.choose_spec⟩
  · cases h
theorem urep (Z : Zx X.prog X.w X.K X.mg X.base) : URep X (csK X.K) 2 ur := by
  refine ⟨fun c fs t h => ?_, Z.inj⟩
  obtain ⟨rfl, h3⟩ := ur_inv h
  obtain ⟨fd, F, _, hk, hb, _⟩ := w_Ratio___repr__ Z
  exact ⟨_, _, _, fd, _, _, Z.cl0, Z.me_Ratio___repr__.at_, Z.me_Ratio___repr__.fn, F, hb, h3⟩
noncomputable def cReprU : List D → Mo D := cRepr ur 3
theorem ca_reprU (Z : Zx P w K mg base) (hr : Room 7 X.A) (hg : X.A.guards = some []) (hX : X.prog = P ∧ X.w = w ∧ X.K = K ∧ X.mg = mg ∧ X.base = base := by exact ⟨rfl, rfl, rfl, rfl, rfl⟩) : CaD (csK K) X (.builtin "repr") cReprU := by
  obtain ⟨rfl, rfl, rfl, rfl, rfl⟩ := hX
  exact ca_repr (k := 2) 3 (urep Z) hr hg
def dAddU : D → D → Mo D := dOr dAddI (dOr (dUser 0 d_Ratio___add__) dCatL)
def dSubU : D → D → Mo D := dOr dSubI (dUser 0 d_Ratio___sub__)
def dMulU : D → D → Mo D := dOr dMulI (dOr (dUser 0 d_Ratio___mul__) dRepL)
theorem op_addU (Z : Zx P w K mg base) (hr : Room 4 X.A) (hX : X.prog = P ∧ X.w = w ∧ X.K = K ∧ X.mg = mg ∧ X.base = base := by exact ⟨rfl, rfl, rfl, rfl, rfl⟩) : OpD (csK K) X (binaryOp .Add) dAddU := by
  obtain ⟨rfl, rfl, rfl, rfl, rfl⟩ := hX
  obtain ⟨fd, F, _, hk, hb, _⟩ := w_Ratio___add__ Z
  exact .or op_addI (.or (opD_user Z.cl0 Z.op_Ratio_Add F hr hb) op_catL)
theorem op_subU (Z : Zx P w K mg base) (hr : Room 4 X.A) (hX : X.prog = P ∧ X.w = w ∧ X.K = K ∧ X.mg = mg ∧ X.base = base := by exact ⟨rfl, rfl, rfl, rfl, rfl⟩) : OpD (csK K) X (binaryOp .Sub) dSubU := by
  obtain ⟨rfl, rfl, rfl, rfl, rfl⟩ := hX
  obtain ⟨fd, F, _, hk, hb, _⟩ := w_Ratio___sub__ Z
  exact .or op_subI (opD_user Z.cl0 Z.op_Ratio_Sub F hr hb)
theorem op_mulU (Z : Zx P w K mg base) (hr : Room 4 X.A) (hX : X.prog = P ∧ X.w = w ∧ X.K = K ∧ X.mg = mg ∧ X.base = base := by exact ⟨rfl, rfl, rfl, rfl, rfl⟩) : OpD (csK K) X (binaryOp .Mult) dMulU := by
  obtain ⟨rfl, rfl, rfl, rfl, rfl⟩ := hX
  obtain ⟨fd, F, _, hk, hb, _⟩ := w_Ratio___mul__ Z
  exact .or op_mulI (.or (opD_user Z.cl0 Z.op_Ratio_Mult F hr hb) op_repL)
end
end Q
end

section
set_option Elab.async false
set_option linter.all false
set_option maxRecDepth 100000
set_option maxHeartbeats 4000000
namespace Q
open PySem PySem.Spec PyProof.Rows L2 DL
noncomputable section
/-! is_number -/
def N_is_number : List Str := ["value"]
theorem S_is_number : FnScope N_is_number ["value"] (defScope (top 19)) := ⟨rfl, rfl, rfl, by decide +kernel, rfl, by decide +kernel, by decide +kernel⟩
def m_is_number : MS := (mRet (mTV (mOr (mB (mCall (lenM 1 d_is_integer) (mCons (mVar 0) mNil))) (mB (mIsC 0 (mVar 0))))))
def d_is_number : List D → Mo D := runD 1 m_is_number
theorem b_is_number {P : Program} {w : World} {K : Fr'} {mg : Str → Option Value} {base : Heap} (Z : Zx P w K mg base) (cdv : Value) (A : Around) (outer : List Env) (s : Shared) (H : Hp) (E : XK) (hr : Room 1 (A.deeper (envOfC "is_number" (defScope (top 19)) s.heap.objs.size (He.ga K "is_number") cdv))) (hg : false = true → A.guards = some []) :
    PSsD (csK K) (cx0 P w K mg base N_is_number "is_number" (defScope (top 19)) (He.ga K "is_number") cdv A outer s H E) (defBody (top 19)) m_is_number := by
  obtain ⟨fd_is_integer, F_is_integer, FO_is_integer, hk_is_integer, hb_is_integer, _⟩ := w_is_integer Z
  exact (ss_one (s_ret (p_or (p_call F_is_integer (hr.mono (by decide)) (fun (z : false = true) => nomatch z) (Z.glo_is_integer) hk_is_integer hb_is_integer (DL.pa_cons (p_var 0) DL.pa_nil)) (p_one (p_isC Z.isi (Z.cl0).at_ Z.fr_isinstance Z.glo_Ratio (p_var 0))))))
theorem w_is_number {P : Program} {w : World} {K : Fr'} {mg : Str → Option Value} {base : Heap} (Z : Zx P w K mg base) : ∃ fd, FnD false P w K mg base 2 (He.ga K "is_number") fd ["value"] (spD K (csK K) 1 d_is_number) ∧ True ∧ PySem.W.keepIn K (.ref (He.ga K "is_number")) = true ∧ Binds K fd ["value"] [] ∧ True := by
  obtain ⟨fd, D⟩ := Z.says.def_ 12 (d := z_is_number)
  refine ⟨fd, fn_d (N := N_is_number) D S_is_number fun cdv A outer s H E hr hg => b_is_number Z cdv A outer s H E hr hg, trivial, D.kp, D.bindsN (fun _ _ _ _ _ _ us hl => match us, hl with
    | [a0], _ => rfl), trivial⟩
/-! ratio_of -/
def N_ratio_of : List Str := ["number"]
theorem S_ratio_of : FnScope N_ratio_of ["number"] (defScope (top 20)) := ⟨rfl, rfl, rfl, by decide +kernel, rfl, by decide +kernel, by decide +kernel⟩
def m_ratio_of : MS := (mRet (mIf (mB (mIsC 0 (mVar 0))) (mVar 0) (mCall (mk_Ratio_1 d_Ratio___init__) (mCons (mVar 0) mNil))))
def d_ratio_of : List D → Mo D := runD 1 m_ratio_of
theorem b_ratio_of {P : Program} {w : World} {K : Fr'} {mg : Str → Option Value} {base : Heap} (Z : Zx P w K mg base) (cdv : Value) (A : Around) (outer : List Env) (s : Shared) (H : Hp) (E : XK) (hr : Room 3 (A.deeper (envOfC "ratio_of" (defScope (top 20)) s.heap.objs.size (He.ga K "ratio_of") cdv))) (hg : false = true → A.guards = some []) :
    PSsD (csK K) (cx0 P w K mg base N_ratio_of "ratio_of" (defScope (top 20)) (He.ga K "ratio_of") cdv A outer s H E) (defBody (top 20)) m_ratio_of := by
  exact (ss_one (s_ret (p_if (pt_v (p_isC Z.isi (Z.cl0).at_ Z.fr_isinstance Z.glo_Ratio (p_var 0))) (p_var 0) (mkW_Ratio_1 Z (hr.mono (by decide)) (DL.pa_cons (p_var 0) DL.pa_nil)))))
theorem w_ratio_of {P : Program} {w : World} {K : Fr'} {mg : Str → Option Value} {base : Heap} (Z : Zx P w K mg base) : ∃ fd, FnD false P w K mg base 4 (He.ga K "ratio_of") fd ["number"] (spD K (csK K) 1 d_ratio_of) ∧ True ∧ PySem.W.keepIn K (.ref (He.ga K "ratio_of")) = true ∧ Binds K fd ["number"] [] ∧ True := by
  obtain ⟨fd, D⟩ := Z.says.def_ 13 (d := z_ratio_of)
  refine ⟨fd, fn_d (N := N_ratio_of) D S_ratio_of fun cdv A outer s H E hr hg => b_ratio_of Z cdv A outer s H E hr hg, trivial, D.kp, D.bindsN (fun _ _ _ _ _ _ us hl => match us, hl with
    | [a0], _ => rfl), trivial⟩
/-! want_number -/
def N_want_number : List Str := ["value"]
theorem S_want_number : FnScope N_want_number ["value"] (defScope (top 21)) := ⟨rfl, rfl, rfl, by decide +kernel, rfl, by decide +kernel, by decide +kernel⟩
def m_want_number : MS := (mSeq (mIfS (mNot (mB (mCall (lenM 1 d_is_number) (mCons (mVar 0) mNil)))) mNever mNx) (mRet (mCall (lenM 1 d_ratio_of) (mCons (mVar 0) mNil))))
def d_want_number : List D → Mo D := runD 1 m_want_number
theorem b_want_number {P : Program} {w : World} {K : Fr'} {mg : Str → Option Value} {base : Heap} (Z : Zx P w K mg base) (cdv : Value) (A : Around) (outer : List Env) (s : Shared) (H : Hp) (E : XK) (hr : Room 4 (A.deeper (envOfC "want_number" (defScope (top 21)) s.heap.objs.size (He.ga K "want_number") cdv))) (hg : false = true → A.guards = some []) :
    PSsD (csK K) (cx0 P w K mg base N_want_number "want_number" (defScope (top 21)) (He.ga K "want_number") cdv A outer s H E) (defBody (top 21)) m_want_number := by
  obtain ⟨fd_is_number, F_is_number, FO_is_number, hk_is_number, hb_is_number, _⟩ := w_is_number Z
  obtain ⟨fd_ratio_of, F_ratio_of, FO_ratio_of, hk_ratio_of, hb_ratio_of, _⟩ := w_ratio_of Z
  exact (ss_cons (s_if (DL.pt_not (pt_v (p_call F_is_number (hr.mono (by decide)) (fun (z : false = true) => nomatch z) (Z.glo_is_number) hk_is_number hb_is_number (DL.pa_cons (p_var 0) DL.pa_nil)))) (ss_one s_never) ss_nil) (ss_one (s_ret (p_call F_ratio_of (hr.mono (by decide)) (fun (z : false = true) => nomatch z) (Z.glo_ratio_of) hk_ratio_of hb_ratio_of (DL.pa_cons (p_var 0) DL.pa_nil)))))
theorem w_want_number {P : Program} {w : World} {K : Fr'} {mg : Str → Option Value} {base : Heap} (Z : Zx P w K mg base) : ∃ fd, FnD false P w K mg base 5 (He.ga K "want_number") fd ["value"] (spD K (csK K) 1 d_want_number) ∧ True ∧ PySem.W.keepIn K (.ref (He.ga K "want_number")) = true ∧ Binds K fd ["value"] [] ∧ True := by
  obtain ⟨fd, D⟩ := Z.says.def_ 14 (d := z_want_number)
  refine ⟨fd, fn_d (N := N_want_number) D S_want_number fun cdv A outer s H E hr hg => b_want_number Z cdv A outer s H E hr hg, trivial, D.kp, D.bindsN (fun _ _ _ _ _ _ us hl => match us, hl with
    | [a0], _ => rfl), trivial⟩
/-! wholes -/
def N_wholes : List Str := ["ratios", "bottom", "ratio"]
theorem S_wholes : FnScope N_wholes ["ratios"] (defScope (top 22)) := ⟨rfl, rfl, rfl, by decide +kernel, rfl, by decide +kernel, by decide +kernel⟩
def m_wholes : MS := (mSeq (mSet 1 (mC (.int 1))) (mSeq (mFor (srcL (mVar 0)) (tgN 2) (mSet 1 (mCall cLcm (mCons (mVar 1) (mCons (mFld 0 1 (mVar 2)) mNil))))) (mRet (mTup (mCons (mVar 1) (mCons (mLst (mLc (srcL (mVar 0)) [2] (tgN 2) mYes (mBin dMulU (mFld 0 0 (mVar 2)) (mBin dDivI (mVar 1) (mFld 0 1 (mVar 2)))))) mNil))))))
def d_wholes : List D → Mo D := runD 3 m_wholes
theorem b_wholes {P : Program} {w : World} {K : Fr'} {mg : Str → Option Value} {base : Heap} (Z : Zx P w K mg base) (cdv : Value) (A : Around) (outer : List Env) (s : Shared) (H : Hp) (E : XK) (hr : Room 4 (A.deeper (envOfC "wholes" (defScope (top 22)) s.heap.objs.size (He.ga K "wholes") cdv))) (hg : false = true → A.guards = some []) :
    PSsD (csK K) (cx0 P w K mg base N_wholes "wholes" (defScope (top 22)) (He.ga K "wholes") cdv A outer s H E) (defBody (top 22)) m_wholes := by
  exact (ss_cons (s_set 1 S_wholes.nd p_int) (ss_cons (s_for PassesOwn.never rfl (i_list (p_var 0)) (g_name 2 S_wholes.nd) (ss_one (s_set 1 S_wholes.nd (p_bfun ca_lcm Z.bi_lcm (DL.pa_cons (p_var 1) (DL.pa_cons (p_fld 1 (Z.cl0) Z.no_Ratio_own_bottom (p_var 2)) DL.pa_nil)))))) (ss_one (s_ret (p_tup (DL.pa_cons (p_var 1) (DL.pa_cons (POD.d (o_lc [("ratio", 2)] rfl S_wholes.nd (blkOk_by rfl) ((i_list (p_var 0))).j (fun _ _ _ _ _ => (g_name 2 S_wholes.nd)) (fun _ _ _ _ _ => ts_nil) (fun _ _ _ _ _ => (p_bin (op_mulU Z (hr.mono (by decide))) (p_fld 0 (Z.cl0) Z.no_Ratio_own_top (p_var 2)) (p_bin op_divI (p_var 1) (p_fld 1 (Z.cl0) Z.no_Ratio_own_bottom (p_var 2))))))) DL.pa_nil)))))))
theorem w_wholes {P : Program} {w : World} {K : Fr'} {mg : Str → Option Value} {base : Heap} (Z : Zx P w K mg base) : ∃ fd, FnD false P w K mg base 5 (He.ga K "wholes") fd ["ratios"] (spD K (csK K) 1 d_wholes) ∧ True ∧ PySem.W.keepIn K (.ref (He.ga K "wholes")) = true ∧ Binds K fd ["ratios"] [] ∧ True := by
  obtain ⟨fd, D⟩ := Z.says.def_ 15 (d := z_wholes)
  refine ⟨fd, fn_d (N := N_wholes) D S_wholes fun cdv A outer s H E hr hg => b_wholes Z cdv A outer s H E hr hg, trivial, D.kp, D.bindsN (fun _ _ _ _ _ _ us hl => match us, hl with
    | [a0], _ => rfl), trivial⟩
/-! is_line -/
def N_is_line : List Str := ["value", "number"]
theorem S_is_line : FnScope N_is_line ["value"] (defScope (top 25)) := ⟨rfl, rfl, rfl, by decide +kernel, rfl, by decide +kernel, by decide +kernel⟩
def m_is_line : MS := (mRet (mTV (mAnd (mB (mCall (lenM 1 d_is_list) (mCons (mVar 0) mNil))) (mB (mTV (mAnd (mB (mBin dLe (mCall cLen (mCons (mVar 0) mNil)) (mBin dAddU (mC (.int 30)) (mC (.int 1))))) (mB (mCall cAll (mCons (mLst (mLc (srcS (mVar 0)) [1] (tgN 1) mYes (mCall (lenM 1 d_is_number) (mCons (mVar 1) mNil)))) mNil)))))))))
def d_is_line : List D → Mo D := runD 2 m_is_line
theorem b_is_line {P : Program} {w : World} {K : Fr'} {mg : Str → Option Value} {base : Heap} (Z : Zx P w K mg base) (cdv : Value) (A : Around) (outer : List Env) (s : Shared) (H : Hp) (E : XK) (hr : Room 4 (A.deeper (envOfC "is_line" (defScope (top 25)) s.heap.objs.size (He.ga K "is_line") cdv))) (hg : false = true → A.guards = some []) :
    PSsD (csK K) (cx0 P w K mg base N_is_line "is_line" (defScope (top 25)) (He.ga K "is_line") cdv A outer s H E) (defBody (top 25)) m_is_line := by
  obtain ⟨fd_is_list, F_is_list, FO_is_list, hk_is_list, hb_is_list, _⟩ := w_is_list Z
  obtain ⟨fd_is_number, F_is_number, FO_is_number, hk_is_number, hb_is_number, _⟩ := w_is_number Z
  obtain ⟨t_MOST_LINE, h_MOST_LINE⟩ := Z.c_MOST_LINE
  exact (ss_one (s_ret (p_and (p_call F_is_list (hr.mono (by decide)) (fun (z : false = true) => nomatch z) (Z.glo_is_list) hk_is_list hb_is_list (DL.pa_cons (p_var 0) DL.pa_nil)) (p_and (p_cmp op_leI (p_bltn ca_len Z.fr_len (DL.pa_cons (p_var 0) DL.pa_nil)) (p_bin (op_addU Z (hr.mono (by decide))) (p_gint rfl h_MOST_LINE) p_int) rfl) (p_one (p_bltn (ca_all rfl) Z.fr_all (DL.pa_cons (POD.d (o_lc [("number", 1)] rfl S_is_line.nd (blkOk_by rfl) ((i_seq (p_var 0))).j (fun _ _ _ _ _ => (g_name 1 S_is_line.nd)) (fun _ _ _ _ _ => ts_nil) (fun _ _ _ _ _ => (p_call F_is_number (hr.mono (by decide)) (fun (z : false = true) => nomatch z) (Z.glo_is_number) hk_is_number hb_is_number (DL.pa_cons (p_var 1) DL.pa_nil))))) DL.pa_nil)))))))
theorem w_is_line {P : Program} {w : World} {K : Fr'} {mg : Str → Option Value} {base : Heap} (Z : Zx P w K mg base) : ∃ fd, FnD false P w K mg base 5 (He.ga K "is_line") fd ["value"] (spD K (csK K) 1 d_is_line) ∧ True ∧ PySem.W.keepIn K (.ref (He.ga K "is_line")) = true ∧ Binds K fd ["value"] [] ∧ True := by
  obtain ⟨fd, D⟩ := Z.says.def_ 16 (d := z_is_line)
  refine ⟨fd, fn_d (N := N_is_line) D S_is_line fun cdv A outer s H E hr hg => b_is_line Z cdv A outer s H E hr hg, trivial, D.kp, D.bindsN (fun _ _ _ _ _ _ us hl => match us, hl with
    | [a0], _ => rfl), trivial⟩
/-! trimmed -/
def N_trimmed : List Str := ["ratios", "many"]
theorem S_trimmed : FnScope N_trimmed ["ratios"] (defScope (top 26)) := ⟨rfl, rfl, rfl, by decide +kernel, rfl, by decide +kernel, by decide +kernel⟩
def m_trimmed : MS := (mSeq (mSet 1 (mCall cLen (mCons (mVar 0) mNil))) (mSeq (mWhile (mAnd (mB (mBin dGt (mVar 1) (mC (.int 0)))) (mB (mBin (dEqU false) (mFld 0 0 (mBin atD (mVar 0) (mBin dSubU (mVar 1) (mC (.int 1))))) (mC (.int 0))))) (mSet 1 (mBin dSubU (mVar 1) (mC (.int 1))))) (mRetO (mCallO oListC (mCons (mLst (oSlice (mVar 0) mNoP (mPart (mVar 1)))) mNil)))))
def d_trimmed : List D → Mo D := runD 2 m_trimmed
def o_trimmed : List D → Mo (List D) := runO 2 m_trimmed
theorem b_trimmed {P : Program} {w : World} {K : Fr'} {mg : Str → Option Value} {base : Heap} (Z : Zx P w K mg base) (cdv : Value) (A : Around) (outer : List Env) (s : Shared) (H : Hp) (E : XK) (hr : Room 5 (A.deeper (envOfC "trimmed" (defScope (top 26)) s.heap.objs.size (He.ga K "trimmed") cdv))) (hg : false = true → A.guards = some []) :
    PSsD (csK K) (cx0 P w K mg base N_trimmed "trimmed" (defScope (top 26)) (He.ga K "trimmed") cdv A outer s H E) (defBody (top 26)) m_trimmed := by
  exact (ss_cons (s_set 1 S_trimmed.nd (p_bltn ca_len Z.fr_len (DL.pa_cons (p_var 0) DL.pa_nil))) (ss_cons (s_while PassesOwn.never (PWD.pt (DL.pw_and (pt_cmp op_gtI (p_var 1) p_int rfl) (pw_one (pt_cmp (op_eqU Z (hr.mono (by decide)) false) (p_fld 0 (Z.cl0) Z.no_Ratio_own_top (p_ix (p_var 0) (p_bin (op_subU Z (hr.mono (by decide))) (p_var 1) p_int))) p_int rfl)))) (ss_one (s_set 1 S_trimmed.nd (p_bin (op_subU Z (hr.mono (by decide))) (p_var 1) p_int)))) (ss_one (s_retO (o_listOf Z.fr_list (DL.pa_cons (POD.d (oSliceB ((p_var 0)).bo x_none (x_some (p_var 1)))) DL.pa_nil))))))
theorem w_trimmed {P : Program} {w : World} {K : Fr'} {mg : Str → Option Value} {base : Heap} (Z : Zx P w K mg base) : ∃ fd, FnD false P w K mg base 6 (He.ga K "trimmed") fd ["ratios"] (spD K (csK K) 1 d_trimmed) ∧ FnD false P w K mg base 6 (He.ga K "trimmed") fd ["ratios"] (spO K (csK K) 1 o_trimmed) ∧ PySem.W.keepIn K (.ref (He.ga K "trimmed")) = true ∧ Binds K fd ["ratios"] [] ∧ True := by
  obtain ⟨fd, D⟩ := Z.says.def_ 17 (d := z_trimmed)
  refine ⟨fd, fn_d (N := N_trimmed) D S_trimmed fun cdv A outer s H E hr hg => b_trimmed Z cdv A outer s H E hr hg, fn_dO (N := N_trimmed) D S_trimmed fun cdv A outer s H E hr hg => b_trimmed Z cdv A outer s H E hr hg, D.kp, D.bindsN (fun _ _ _ _ _ _ us hl => match us, hl with
    | [a0], _ => rfl), trivial⟩
/-! want_line -/
def N_want_line : List Str := ["value", "number"]
theorem S_want_line : FnScope N_want_line ["value"] (defScope (top 27)) := ⟨rfl, rfl, rfl, by decide +kernel, rfl, by decide +kernel, by decide +kernel⟩
def m_want_line : MS := (mSeq (mIfS (mNot (mB (mCall (lenM 1 d_is_line) (mCons (mVar 0) mNil)))) mNever mNx) (mRetO (mCallO (lenO 1 o_trimmed) (mCons (mLst (mLc (srcS (mVar 0)) [1] (tgN 1) mYes (mCall (lenM 1 d_ratio_of) (mCons (mVar 1) mNil)))) mNil))))
def d_want_line : List D → Mo D := runD 2 m_want_line
def o_want_line : List D → Mo (List D) := runO 2 m_want_line
theorem b_want_line {P : Program} {w : World} {K : Fr'} {mg : Str → Option Value} {base : Heap} (Z : Zx P w K mg base) (cdv : Value) (A : Around) (outer : List Env) (s : Shared) (H : Hp) (E : XK) (hr : Room 6 (A.deeper (envOfC "want_line" (defScope (top 27)) s.heap.objs.size (He.ga K "want_line") cdv))) (hg : false = true → A.guards = some []) :
    PSsD (csK K) (cx0 P w K mg base N_want_line "want_line" (defScope (top 27)) (He.ga K "want_line") cdv A outer s H E) (defBody (top 27)) m_want_line := by
  obtain ⟨fd_is_line, F_is_line, FO_is_line, hk_is_line, hb_is_line, _⟩ := w_is_line Z
  obtain ⟨fd_ratio_of, F_ratio_of, FO_ratio_of, hk_ratio_of, hb_ratio_of, _⟩ := w_ratio_of Z
  obtain ⟨fd_trimmed, F_trimmed, FO_trimmed, hk_trimmed, hb_trimmed, _⟩ := w_trimmed Z
  exact (ss_cons (s_if (DL.pt_not (pt_v (p_call F_is_line (hr.mono (by decide)) (fun (z : false = true) => nomatch z) (Z.glo_is_line) hk_is_line hb_is_line (DL.pa_cons (p_var 0) DL.pa_nil)))) (ss_one s_never) ss_nil) (ss_one (s_retO (p_callO FO_trimmed (hr.mono (by decide)) (fun (z : false = true) => nomatch z) (Z.glo_trimmed) hk_trimmed hb_trimmed (DL.pa_cons (POD.d (o_lc [("number", 1)] rfl S_want_line.nd (blkOk_by rfl) ((i_seq (p_var 0))).j (fun _ _ _ _ _ => (g_name 1 S_want_line.nd)) (fun _ _ _ _ _ => ts_nil) (fun _ _ _ _ _ => (p_call F_ratio_of (hr.mono (by decide)) (fun (z : false = true) => nomatch z) (Z.glo_ratio_of) hk_ratio_of hb_ratio_of (DL.pa_cons (p_var 1) DL.pa_nil))))) DL.pa_nil)))))
theorem w_want_line {P : Program} {w : World} {K : Fr'} {mg : Str → Option Value} {base : Heap} (Z : Zx P w K mg base) : ∃ fd, FnD false P w K mg base 7 (He.ga K "want_line") fd ["value"] (spD K (csK K) 1 d_want_line) ∧ FnD false P w K mg base 7 (He.ga K "want_line") fd ["value"] (spO K (csK K) 1 o_want_line) ∧ PySem.W.keepIn K (.ref (He.ga K "want_line")) = true ∧ Binds K fd ["value"] [] ∧ True := by
  obtain ⟨fd, D⟩ := Z.says.def_ 18 (d := z_want_line)
  refine ⟨fd, fn_d (N := N_want_line) D S_want_line fun cdv A outer s H E hr hg => b_want_line Z cdv A outer s H E hr hg, fn_dO (N := N_want_line) D S_want_line fun cdv A outer s H E hr hg => b_want_line Z cdv A outer s H E hr hg, D.kp, D.bindsN (fun _ _ _ _ _ _ us hl => match us, hl with
    | [a0], _ => rfl), trivial⟩
/-! line_over -/
def N_line_over : List Str := ["tops", "bottom", "top"]
theorem S_line_over : FnScope N_line_over ["tops", "bottom"] (defScope (top 28)) := ⟨rfl, rfl, rfl, by decide +kernel, rfl, by decide +kernel, by decide +kernel⟩
def m_line_over : MS := (mRetO (mCallO (lenO 1 o_trimmed) (mCons (mLst (mLc (srcL (mVar 0)) [2] (tgN 2) mYes (mCall (mk_Ratio_2 d_Ratio___init__) (mCons (mVar 2) (mCons (mVar 1) mNil))))) mNil)))
def d_line_over : List D → Mo D := runD 3 m_line_over
def o_line_over : List D → Mo (List D) := runO 3 m_line_over
theorem b_line_over {P : Program} {w : World} {K : Fr'} {mg : Str → Option Value} {base : Heap} (Z : Zx P w K mg base) (cdv : Value) (A : Around) (outer : List Env) (s : Shared) (H : Hp) (E : XK) (hr : Room 6 (A.deeper (envOfC "line_over" (defScope (top 28)) s.heap.objs.size (He.ga K "line_over") cdv))) (hg : false = true → A.guards = some []) :
    PSsD (csK K) (cx0 P w K mg base N_line_over "line_over" (defScope (top 28)) (He.ga K "line_over") cdv A outer s H E) (defBody (top 28)) m_line_over := by
  obtain ⟨fd_trimmed, F_trimmed, FO_trimmed, hk_trimmed, hb_trimmed, _⟩ := w_trimmed Z
  exact (ss_one (s_retO (p_callO FO_trimmed (hr.mono (by decide)) (fun (z : false = true) => nomatch z) (Z.glo_trimmed) hk_trimmed hb_trimmed (DL.pa_cons (POD.d (o_lc [("top", 2)] rfl S_line_over.nd (blkOk_by rfl) ((i_list (p_var 0))).j (fun _ _ _ _ _ => (g_name 2 S_line_over.nd)) (fun _ _ _ _ _ => ts_nil) (fun _ _ _ _ _ => (mkW_Ratio_2 Z (hr.mono (by decide)) (DL.pa_cons (p_var 2) (DL.pa_cons (p_var 1) DL.pa_nil)))))) DL.pa_nil))))
theorem w_line_over {P : Program} {w : World} {K : Fr'} {mg : Str → Option Value} {base : Heap} (Z : Zx P w K mg base) : ∃ fd, FnD false P w K mg base 7 (He.ga K "line_over") fd ["tops", "bottom"] (spD K (csK K) 2 d_line_over) ∧ FnD false P w K mg base 7 (He.ga K "line_over") fd ["tops", "bottom"] (spO K (csK K) 2 o_line_over) ∧ PySem.W.keepIn K (.ref (He.ga K "line_over")) = true ∧ Binds K fd ["tops", "bottom"] [] ∧ True := by
  obtain ⟨fd, D⟩ := Z.says.def_ 19 (d := z_line_over)
  refine ⟨fd, fn_d (N := N_line_over) D S_line_over fun cdv A outer s H E hr hg => b_line_over Z cdv A outer s H E hr hg, fn_dO (N := N_line_over) D S_line_over fun cdv A outer s H E hr hg => b_line_over Z cdv A outer s H E hr hg, D.kp, D.bindsN (fun _ _ _ _ _ _ us hl => match us, hl with
    | [a0, a1], _ => rfl), trivial⟩
/-! line_sum -/
def N_line_sum : List Str := ["one", "other", "near", "far", "at"]
theorem S_line_sum : FnScope N_line_sum ["one", "other"] (defScope (top 29)) := ⟨rfl, rfl, rfl, by decide +kernel, rfl, by decide +kernel, by decide +kernel⟩
def m_line_sum : MS := (mSeq (mAsg (tgTup 2 (tgCons (tgN 2) (tgCons (tgN 3) tgNil))) (mIf (mB (mBin dGe (mCall cLen (mCons (mVar 0) mNil)) (mCall cLen (mCons (mVar 1) mNil)))) (mTup (mCons (mVar 0) (mCons (mVar 1) mNil))) (mTup (mCons (mVar 1) (mCons (mVar 0) mNil))))) (mRetO (mCallO (lenO 1 o_trimmed) (mCons (mLst (mLc (srcR1 (mCons (mCall cLen (mCons (mVar 2) mNil)) mNil)) [4] (tgN 4) mYes (mIf (mB (mBin dLt (mVar 4) (mCall cLen (mCons (mVar 3) mNil)))) (mBin dAddU (mBin atD (mVar 2) (mVar 4)) (mBin atD (mVar 3) (mVar 4))) (mBin atD (mVar 2) (mVar 4))))) mNil))))
def d_line_sum : List D → Mo D := runD 5 m_line_sum
def o_line_sum : List D → Mo (List D) := runO 5 m_line_sum
theorem b_line_sum {P : Program} {w : World} {K : Fr'} {mg : Str → Option Value} {base : Heap} (Z : Zx P w K mg base) (cdv : Value) (A : Around) (outer : List Env) (s : Shared) (H : Hp) (E : XK) (hr : Room 6 (A.deeper (envOfC "line_sum" (defScope (top 29)) s.heap.objs.size (He.ga K "line_sum") cdv))) (hg : false = true → A.guards = some []) :
    PSsD (csK K) (cx0 P w K mg base N_line_sum "line_sum" (defScope (top 29)) (He.ga K "line_sum") cdv A outer s H E) (defBody (top 29)) m_line_sum := by
  obtain ⟨fd_trimmed, F_trimmed, FO_trimmed, hk_trimmed, hb_trimmed, _⟩ := w_trimmed Z
  exact (ss_cons (s_asg (p_if (pt_cmp op_geI (p_bltn ca_len Z.fr_len (DL.pa_cons (p_var 0) DL.pa_nil)) (p_bltn ca_len Z.fr_len (DL.pa_cons (p_var 1) DL.pa_nil)) rfl) (p_tup (DL.pa_cons (p_var 0) (DL.pa_cons (p_var 1) DL.pa_nil))) (p_tup (DL.pa_cons (p_var 1) (DL.pa_cons (p_var 0) DL.pa_nil)))) (g_tup rfl (gs_cons (g_name 2 S_line_sum.nd) (gs_cons (g_name 3 S_line_sum.nd) gs_nil)))) (ss_one (s_retO (p_callO FO_trimmed (hr.mono (by decide)) (fun (z : false = true) => nomatch z) (Z.glo_trimmed) hk_trimmed hb_trimmed (DL.pa_cons (POD.d (o_lc [("at", 4)] rfl S_line_sum.nd (blkOk_by rfl) ((i_range1 Z.fr_range (DL.pa_cons (p_bltn ca_len Z.fr_len (DL.pa_cons (p_var 2) DL.pa_nil)) DL.pa_nil))).j (fun _ _ _ _ _ => (g_name 4 S_line_sum.nd)) (fun _ _ _ _ _ => ts_nil) (fun _ _ _ _ _ => (p_if (pt_cmp op_ltI (p_var 4) (p_bltn ca_len Z.fr_len (DL.pa_cons (p_var 3) DL.pa_nil)) rfl) (p_bin (op_addU Z (hr.mono (by decide))) (p_ix (p_var 2) (p_var 4)) (p_ix (p_var 3) (p_var 4))) (p_ix (p_var 2) (p_var 4)))))) DL.pa_nil)))))
theorem w_line_sum {P : Program} {w : World} {K : Fr'} {mg : Str → Option Value} {base : Heap} (Z : Zx P w K mg base) : ∃ fd, FnD false P w K mg base 7 (He.ga K "line_sum") fd ["one", "other"] (spD K (csK K) 2 d_line_sum) ∧ FnD false P w K mg base 7 (He.ga K "line_sum") fd ["one", "other"] (spO K (csK K) 2 o_line_sum) ∧ PySem.W.keepIn K (.ref (He.ga K "line_sum")) = true ∧ Binds K fd ["one", "other"] [] ∧ True := by
  obtain ⟨fd, D⟩ := Z.says.def_ 20 (d := z_line_sum)
  refine ⟨fd, fn_d (N := N_line_sum) D S_line_sum fun cdv A outer s H E hr hg => b_line_sum Z cdv A outer s H E hr hg, fn_dO (N := N_line_sum) D S_line_sum fun cdv A outer s H E hr hg => b_line_sum Z cdv A outer s H E hr hg, D.kp, D.bindsN (fun _ _ _ _ _ _ us hl => match us, hl with
    | [a0, a1], _ => rfl), trivial⟩
/-! line_by -/
def N_line_by : List Str := ["line", "ratio", "number"]
theorem S_line_by : FnScope N_line_by ["line", "ratio"] (defScope (top 30)) := ⟨rfl, rfl, rfl, by decide +kernel, rfl, by decide +kernel, by decide +kernel⟩
def m_line_by : MS := (mRetO (mCallO (lenO 1 o_trimmed) (mCons (mLst (mLc (srcL (mVar 0)) [2] (tgN 2) mYes (mBin dMulU (mVar 2) (mVar 1)))) mNil)))
def d_line_by : List D → Mo D := runD 3 m_line_by
def o_line_by : List D → Mo (List D) := runO 3 m_line_by
theorem b_line_by {P : Program} {w : World} {K : Fr'} {mg : Str → Option Value} {base : Heap} (Z : Zx P w K mg base) (cdv : Value) (A : Around) (outer : List Env) (s : Shared) (H : Hp) (E : XK) (hr : Room 6 (A.deeper (envOfC "line_by" (defScope (top 30)) s.heap.objs.size (He.ga K "line_by") cdv))) (hg : false = true → A.guards = some []) :
    PSsD (csK K) (cx0 P w K mg base N_line_by "line_by" (defScope (top 30)) (He.ga K "line_by") cdv A outer s H E) (defBody (top 30)) m_line_by := by
  obtain ⟨fd_trimmed, F_trimmed, FO_trimmed, hk_trimmed, hb_trimmed, _⟩ := w_trimmed Z
  exact (ss_one (s_retO (p_callO FO_trimmed (hr.mono (by decide)) (fun (z : false = true) => nomatch z) (Z.glo_trimmed) hk_trimmed hb_trimmed (DL.pa_cons (POD.d (o_lc [("number", 2)] rfl S_line_by.nd (blkOk_by rfl) ((i_list (p_var 0))).j (fun _ _ _ _ _ => (g_name 2 S_line_by.nd)) (fun _ _ _ _ _ => ts_nil) (fun _ _ _ _ _ => (p_bin (op_mulU Z (hr.mono (by decide))) (p_var 2) (p_var 1))))) DL.pa_nil))))
theorem w_line_by {P : Program} {w : World} {K : Fr'} {mg : Str → Option Value} {base : Heap} (Z : Zx P w K mg base) : ∃ fd, FnD false P w K mg base 7 (He.ga K "line_by") fd ["line", "ratio"] (spD K (csK K) 2 d_line_by) ∧ FnD false P w K mg base 7 (He.ga K "line_by") fd ["line", "ratio"] (spO K (csK K) 2 o_line_by) ∧ PySem.W.keepIn K (.ref (He.ga K "line_by")) = true ∧ Binds K fd ["line", "ratio"] [] ∧ True := by
  obtain ⟨fd, D⟩ := Z.says.def_ 21 (d := z_line_by)
  refine ⟨fd, fn_d (N := N_line_by) D S_line_by fun cdv A outer s H E hr hg => b_line_by Z cdv A outer s H E hr hg, fn_dO (N := N_line_by) D S_line_by fun cdv A outer s H E hr hg => b_line_by Z cdv A outer s H E hr hg, D.kp, D.bindsN (fun _ _ _ _ _ _ us hl => match us, hl with
    | [a0, a1], _ => rfl), trivial⟩
/-! line_less -/
def N_line_less : List Str := ["one", "other"]
theorem S_line_less : FnScope N_line_less ["one", "other"] (defScope (top 31)) := ⟨rfl, rfl, rfl, by decide +kernel, rfl, by decide +kernel, by decide +kernel⟩
def m_line_less : MS := (mRetO (mCallO (lenO 2 o_line_sum) (mCons (mVar 0) (mCons (mLst (mCallO (lenO 2 o_line_by) (mCons (mVar 1) (mCons (mCall (mk_Ratio_1 d_Ratio___init__) (mCons (mUn dNegI (mC (.int 1))) mNil)) mNil)))) mNil))))
def d_line_less : List D → Mo D := runD 2 m_line_less
def o_line_less : List D → Mo (List D) := runO 2 m_line_less
theorem b_line_less {P : Program} {w : World} {K : Fr'} {mg : Str → Option Value} {base : Heap} (Z : Zx P w K mg base) (cdv : Value) (A : Around) (outer : List Env) (s : Shared) (H : Hp) (E : XK) (hr : Room 7 (A.deeper (envOfC "line_less" (defScope (top 31)) s.heap.objs.size (He.ga K "line_less") cdv))) (hg : false = true → A.guards = some []) :
    PSsD (csK K) (cx0 P w K mg base N_line_less "line_less" (defScope (top 31)) (He.ga K "line_less") cdv A outer s H E) (defBody (top 31)) m_line_less := by
  obtain ⟨fd_line_by, F_line_by, FO_line_by, hk_line_by, hb_line_by, _⟩ := w_line_by Z
  obtain ⟨fd_line_sum, F_line_sum, FO_line_sum, hk_line_sum, hb_line_sum, _⟩ := w_line_sum Z
  exact (ss_one (s_retO (p_callO FO_line_sum (hr.mono (by decide)) (fun (z : false = true) => nomatch z) (Z.glo_line_sum) hk_line_sum hb_line_sum (DL.pa_cons (p_var 0) (DL.pa_cons (POD.d (p_callO FO_line_by (hr.mono (by decide)) (fun (z : false = true) => nomatch z) (Z.glo_line_by) hk_line_by hb_line_by (DL.pa_cons (p_var 1) (DL.pa_cons (mkW_Ratio_1 Z (hr.mono (by decide)) (DL.pa_cons (p_neg p_int) DL.pa_nil)) DL.pa_nil)))) DL.pa_nil)))))
theorem w_line_less {P : Program} {w : World} {K : Fr'} {mg : Str → Option Value} {base : Heap} (Z : Zx P w K mg base) : ∃ fd, FnD false P w K mg base 8 (He.ga K "line_less") fd ["one", "other"] (spD K (csK K) 2 d_line_less) ∧ FnD false P w K mg base 8 (He.ga K "line_less") fd ["one", "other"] (spO K (csK K) 2 o_line_less) ∧ PySem.W.keepIn K (.ref (He.ga K "line_less")) = true ∧ Binds K fd ["one", "other"] [] ∧ True := by
  obtain ⟨fd, D⟩ := Z.says.def_ 22 (d := z_line_less)
  refine ⟨fd, fn_d (N := N_line_less) D S_line_less fun cdv A outer s H E hr hg => b_line_less Z cdv A outer s H E hr hg, fn_dO (N := N_line_less) D S_line_less fun cdv A outer s H E hr hg => b_line_less Z cdv A outer s H E hr hg, D.kp, D.bindsN (fun _ _ _ _ _ _ us hl => match us, hl with
    | [a0, a1], _ => rfl), trivial⟩
/-! line_product -/
def N_line_product : List Str := ["one", "other", "low", "near", "deep", "far", "found", "at", "left", "to", "right"]
theorem S_line_product : FnScope N_line_product ["one", "other"] (defScope (top 32)) := ⟨rfl, rfl, rfl, by decide +kernel, rfl, by decide +kernel, by decide +kernel⟩
def m_line_product : MS := (mSeq (mIfS (mOr (mB (mBin (dEqU false) (mCall cLen (mCons (mVar 0) mNil)) (mC (.int 0)))) (mB (mBin (dEqU false) (mCall cLen (mCons (mVar 1) mNil)) (mC (.int 0))))) (mRetO (mNew mNil)) mNx) (mSeq (mAsg (tgTup 2 (tgCons (tgN 2) (tgCons (tgN 3) tgNil))) (mCall (lenM 1 d_wholes) (mCons (mVar 0) mNil))) (mSeq (mAsg (tgTup 2 (tgCons (tgN 4) (tgCons (tgN 5) tgNil))) (mCall (lenM 1 d_wholes) (mCons (mVar 1) mNil))) (mSeq (mSetO 6 (mLc (srcR1 (mCons (mBin dSubU (mBin dAddU (mCall cLen (mCons (mVar 3) mNil)) (mCall cLen (mCons (mVar 5) mNil))) (mC (.int 1))) mNil)) [7] (tgN 7) mYes (mC (.int 0)))) (mSeq (mFor (srcE (mCons (mVar 3) mNil)) (tgTup 2 (tgCons (tgN 7) (tgCons (tgN 8) tgNil))) (mFor (srcE (mCons (mVar 5) mNil)) (tgTup 2 (tgCons (tgN 9) (tgCons (tgN 10) tgNil))) (mSetIx 6 (mBin dAddU (mBin atD (mVarB 6) (mBin dAddU (mVar 7) (mVar 9))) (mBin dMulU (mVar 8) (mVar 10))) (mBin dAddU (mVar 7) (mVar 9))))) (mFrz 6 (mRetO (mCallO (lenO 2 o_line_over) (mCons (mVar 6) (mCons (mBin dMulU (mVar 2) (mVar 4)) mNil))))))))))
def d_line_product : List D → Mo D := runD 11 m_line_product
def o_line_product : List D → Mo (List D) := runO 11 m_line_product
theorem b_line_product {P : Program} {w : World} {K : Fr'} {mg : Str → Option Value} {base : Heap} (Z : Zx P w K mg base) (cdv : Value) (A : Around) (outer : List Env) (s : Shared) (H : Hp) (E : XK) (hr : Room 7 (A.deeper (envOfC "line_product" (defScope (top 32)) s.heap.objs.size (He.ga K "line_product") cdv))) (hg : false = true → A.guards = some []) :
    PSsD (csK K) (cx0 P w K mg base N_line_product "line_product" (defScope (top 32)) (He.ga K "line_product") cdv A outer s H E) (defBody (top 32)) m_line_product := by
  obtain ⟨fd_line_over, F_line_over, FO_line_over, hk_line_over, hb_line_over, _⟩ := w_line_over Z
  obtain ⟨fd_wholes, F_wholes, FO_wholes, hk_wholes, hb_wholes, _⟩ := w_wholes Z
  exact (ss_cons (s_if (PWD.pt (DL.pw_or (pt_cmp (op_eqU Z (hr.mono (by decide)) false) (p_bltn ca_len Z.fr_len (DL.pa_cons (p_var 0) DL.pa_nil)) p_int rfl) (pw_one (pt_cmp (op_eqU Z (hr.mono (by decide)) false) (p_bltn ca_len Z.fr_len (DL.pa_cons (p_var 1) DL.pa_nil)) p_int rfl)))) (ss_one (s_retO (o_lst DL.pa_nil))) ss_nil) (ss_cons (s_asg (p_call F_wholes (hr.mono (by decide)) (fun (z : false = true) => nomatch z) (Z.glo_wholes) hk_wholes hb_wholes (DL.pa_cons (p_var 0) DL.pa_nil)) (g_tup rfl (gs_cons (g_name 2 S_line_product.nd) (gs_cons (g_name 3 S_line_product.nd) gs_nil)))) (ss_cons (s_asg (p_call F_wholes (hr.mono (by decide)) (fun (z : false = true) => nomatch z) (Z.glo_wholes) hk_wholes hb_wholes (DL.pa_cons (p_var 1) DL.pa_nil)) (g_tup rfl (gs_cons (g_name 4 S_line_product.nd) (gs_cons (g_name 5 S_line_product.nd) gs_nil)))) (ss_cons (s_lc 6 [("at", 7)] rfl S_line_product.nd (sw_true rfl rfl rfl rfl) (blkOk_by rfl) ((i_range1 Z.fr_range (DL.pa_cons (p_bin (op_subU Z (hr.mono (by decide))) (p_bin (op_addU Z (hr.mono (by decide))) (p_bltn ca_len Z.fr_len (DL.pa_cons (p_var 3) DL.pa_nil)) (p_bltn ca_len Z.fr_len (DL.pa_cons (p_var 5) DL.pa_nil))) p_int) DL.pa_nil))).j (fun _ _ _ _ _ => (g_name 7 S_line_product.nd)) (fun _ _ _ _ _ => ts_nil) (fun _ _ _ _ _ => p_int)) (ss_cons (s_for PassesOwn.never rfl (i_enum Z.fr_enumerate (DL.pa_cons (p_var 3) DL.pa_nil)) (g_tup rfl (gs_cons (g_name 7 S_line_product.nd) (gs_cons (g_name 8 S_line_product.nd) gs_nil))) (ss_one (s_for PassesOwn.never rfl (i_enum Z.fr_enumerate (DL.pa_cons (p_var 5) DL.pa_nil)) (g_tup rfl (gs_cons (g_name 9 S_line_product.nd) (gs_cons (g_name 10 S_line_product.nd) gs_nil))) (ss_one (s_setIx 6 (p_bin (op_addU Z (hr.mono (by decide))) (p_ixB (b_var 6) (p_bin (op_addU Z (hr.mono (by decide))) (p_var 7) (p_var 9))) (p_bin (op_mulU Z (hr.mono (by decide))) (p_var 8) (p_var 10))) (p_bin (op_addU Z (hr.mono (by decide))) (p_var 7) (p_var 9))))))) (ss_frz 6 (ss_one (s_retO (p_callO FO_line_over (hr.mono (by decide)) (fun (z : false = true) => nomatch z) (Z.glo_line_over) hk_line_over hb_line_over (DL.pa_cons (p_var 6) (DL.pa_cons (p_bin (op_mulU Z (hr.mono (by decide))) (p_var 2) (p_var 4)) DL.pa_nil)))))))))))
theorem w_line_product {P : Program} {w : World} {K : Fr'} {mg : Str → Option Value} {base : Heap} (Z : Zx P w K mg base) : ∃ fd, FnD false P w K mg base 8 (He.ga K "line_product") fd ["one", "other"] (spD K (csK K) 2 d_line_product) ∧ FnD false P w K mg base 8 (He.ga K "line_product") fd ["one", "other"] (spO K (csK K) 2 o_line_product) ∧ PySem.W.keepIn K (.ref (He.ga K "line_product")) = true ∧ Binds K fd ["one", "other"] [] ∧ True := by
  obtain ⟨fd, D⟩ := Z.says.def_ 23 (d := z_line_product)
  refine ⟨fd, fn_d (N := N_line_product) D S_line_product fun cdv A outer s H E hr hg => b_line_product Z cdv A outer s H E hr hg, fn_dO (N := N_line_product) D S_line_product fun cdv A outer s H E hr hg => b_line_product Z cdv A outer s H E hr hg, D.kp, D.bindsN (fun _ _ _ _ _ _ us hl => match us, hl with
    | [a0, a1], _ => rfl), trivial⟩
/-! line_worth -/
def N_line_worth : List Str := ["line", "ratio", "found", "number"]
theorem S_line_worth : FnScope N_line_worth ["line", "ratio"] (defScope (top 33)) := ⟨rfl, rfl, rfl, by decide +kernel, rfl, by decide +kernel, by decide +kernel⟩
def m_line_worth : MS := (mSeq (mSet 2 (mCall (mk_Ratio_1 d_Ratio___init__) (mCons (mC (.int 0)) mNil))) (mSeq (mFor (srcL (mLst (oRev (mVar 0)))) (tgN 3) (mSet 2 (mBin dAddU (mBin dMulU (mVar 2) (mVar 1)) (mVar 3)))) (mRet (mVar 2))))
def d_line_worth : List D → Mo D := runD 4 m_line_worth
theorem b_line_worth {P : Program} {w : World} {K : Fr'} {mg : Str → Option Value} {base : Heap} (Z : Zx P w K mg base) (cdv : Value) (A : Around) (outer : List Env) (s : Shared) (H : Hp) (E : XK) (hr : Room 4 (A.deeper (envOfC "line_worth" (defScope (top 33)) s.heap.objs.size (He.ga K "line_worth") cdv))) (hg : false = true → A.guards = some []) :
    PSsD (csK K) (cx0 P w K mg base N_line_worth "line_worth" (defScope (top 33)) (He.ga K "line_worth") cdv A outer s H E) (defBody (top 33)) m_line_worth := by
  exact (ss_cons (s_set 2 S_line_worth.nd (mkW_Ratio_1 Z (hr.mono (by decide)) (DL.pa_cons p_int DL.pa_nil))) (ss_cons (s_for PassesOwn.never rfl (i_list (POD.d (oRevB ((p_var 0)).bo))) (g_name 3 S_line_worth.nd) (ss_one (s_set 2 S_line_worth.nd (p_bin (op_addU Z (hr.mono (by decide))) (p_bin (op_mulU Z (hr.mono (by decide))) (p_var 2) (p_var 1)) (p_var 3))))) (ss_one (s_ret (p_var 2)))))
theorem w_line_worth {P : Program} {w : World} {K : Fr'} {mg : Str → Option Value} {base : Heap} (Z : Zx P w K mg base) : ∃ fd, FnD false P w K mg base 5 (He.ga K "line_worth") fd ["line", "ratio"] (spD K (csK K) 2 d_line_worth) ∧ True ∧ PySem.W.keepIn K (.ref (He.ga K "line_worth")) = true ∧ Binds K fd ["line", "ratio"] [] ∧ True := by
  obtain ⟨fd, D⟩ := Z.says.def_ 24 (d := z_line_worth)
  refine ⟨fd, fn_d (N := N_line_worth) D S_line_worth fun cdv A outer s H E hr hg => b_line_worth Z cdv A outer s H E hr hg, trivial, D.kp, D.bindsN (fun _ _ _ _ _ _ us hl => match us, hl with
    | [a0, a1], _ => rfl), trivial⟩
/-! line_slope -/
def N_line_slope : List Str := ["line", "at"]
theorem S_line_slope : FnScope N_line_slope ["line"] (defScope (top 34)) := ⟨rfl, rfl, rfl, by decide +kernel, rfl, by decide +kernel, by decide +kernel⟩
def m_line_slope : MS := (mRetO (mLc (srcR2 (mCons (mC (.int 1)) (mCons (mCall cLen (mCons (mVar 0) mNil)) mNil))) [1] (tgN 1) mYes (mBin dMulU (mBin atD (mVar 0) (mVar 1)) (mVar 1))))
def d_line_slope : List D → Mo D := runD 2 m_line_slope
def o_line_slope : List D → Mo (List D) := runO 2 m_line_slope
theorem b_line_slope {P : Program} {w : World} {K : Fr'} {mg : Str → Option Value} {base : Heap} (Z : Zx P w K mg base) (cdv : Value) (A : Around) (outer : List Env) (s : Shared) (H : Hp) (E : XK) (hr : Room 4 (A.deeper (envOfC "line_slope" (defScope (top 34)) s.heap.objs.size (He.ga K "line_slope") cdv))) (hg : false = true → A.guards = some []) :
    PSsD (csK K) (cx0 P w K mg base N_line_slope "line_slope" (defScope (top 34)) (He.ga K "line_slope") cdv A outer s H E) (defBody (top 34)) m_line_slope := by
  exact (ss_one (s_retO (o_lc [("at", 1)] rfl S_line_slope.nd (blkOk_by rfl) ((i_range2 Z.fr_range (DL.pa_cons p_int (DL.pa_cons (p_bltn ca_len Z.fr_len (DL.pa_cons (p_var 0) DL.pa_nil)) DL.pa_nil)))).j (fun _ _ _ _ _ => (g_name 1 S_line_slope.nd)) (fun _ _ _ _ _ => ts_nil) (fun _ _ _ _ _ => (p_bin (op_mulU Z (hr.mono (by decide))) (p_ix (p_var 0) (p_var 1)) (p_var 1))))))
theorem w_line_slope {P : Program} {w : World} {K : Fr'} {mg : Str → Option Value} {base : Heap} (Z : Zx P w K mg base) : ∃ fd, FnD false P w K mg base 5 (He.ga K "line_slope") fd ["line"] (spD K (csK K) 1 d_line_slope) ∧ FnD false P w K mg base 5 (He.ga K "line_slope") fd ["line"] (spO K (csK K) 1 o_line_slope) ∧ PySem.W.keepIn K (.ref (He.ga K "line_slope")) = true ∧ Binds K fd ["line"] [] ∧ True := by
  obtain ⟨fd, D⟩ := Z.says.def_ 25 (d := z_line_slope)
  refine ⟨fd, fn_d (N := N_line_slope) D S_line_slope fun cdv A outer s H E hr hg => b_line_slope Z cdv A outer s H E hr hg, fn_dO (N := N_line_slope) D S_line_slope fun cdv A outer s H E hr hg => b_line_slope Z cdv A outer s H E hr hg, D.kp, D.bindsN (fun _ _ _ _ _ _ us hl => match us, hl with
    | [a0], _ => rfl), trivial⟩
/-! degree_from_nought -/
def N_degree_from_nought : List Str := ["line"]
theorem S_degree_from_nought : FnScope N_degree_from_nought ["line"] (defScope (top 35)) := ⟨rfl, rfl, rfl, by decide +kernel, rfl, by decide +kernel, by decide +kernel⟩
def m_degree_from_nought : MS := (mRet (mCall cMax2 (mCons (mC (.int 0)) (mCons (mBin dSubU (mCall cLen (mCons (mVar 0) mNil)) (mC (.int 1))) mNil))))
def d_degree_from_nought : List D → Mo D := runD 1 m_degree_from_nought
theorem b_degree_from_nought {P : Program} {w : World} {K : Fr'} {mg : Str → Option Value} {base : Heap} (Z : Zx P w K mg base) (cdv : Value) (A : Around) (outer : List Env) (s : Shared) (H : Hp) (E : XK) (hr : Room 4 (A.deeper (envOfC "degree_from_nought" (defScope (top 35)) s.heap.objs.size (He.ga K "degree_from_nought") cdv))) (hg : false = true → A.guards = some []) :
    PSsD (csK K) (cx0 P w K mg base N_degree_from_nought "degree_from_nought" (defScope (top 35)) (He.ga K "degree_from_nought") cdv A outer s H E) (defBody (top 35)) m_degree_from_nought := by
  exact (ss_one (s_ret (p_bltn (ca_max2 rfl) Z.fr_max (DL.pa_cons p_int (DL.pa_cons (p_bin (op_subU Z (hr.mono (by decide))) (p_bltn ca_len Z.fr_len (DL.pa_cons (p_var 0) DL.pa_nil)) p_int) DL.pa_nil)))))
theorem w_degree_from_nought {P : Program} {w : World} {K : Fr'} {mg : Str → Option Value} {base : Heap} (Z : Zx P w K mg base) : ∃ fd, FnD false P w K mg base 5 (He.ga K "degree_from_nought") fd ["line"] (spD K (csK K) 1 d_degree_from_nought) ∧ True ∧ PySem.W.keepIn K (.ref (He.ga K "degree_from_nought")) = true ∧ Binds K fd ["line"] [] ∧ True := by
  obtain ⟨fd, D⟩ := Z.says.def_ 26 (d := z_degree_from_nought)
  refine ⟨fd, fn_d (N := N_degree_from_nought) D S_degree_from_nought fun cdv A outer s H E hr hg => b_degree_from_nought Z cdv A outer s H E hr hg, trivial, D.kp, D.bindsN (fun _ _ _ _ _ _ us hl => match us, hl with
    | [a0], _ => rfl), trivial⟩
/-! told -/
def N_told : List Str := ["line"]
theorem S_told : FnScope N_told ["line"] (defScope (top 36)) := ⟨rfl, rfl, rfl, by decide +kernel, rfl, by decide +kernel, by decide +kernel⟩
def m_told : MS := (mRetO (mCallO (lenO 1 o_want_line) (mCons (mVar 0) mNil)))
def d_told : List D → Mo D := runD 1 m_told
def o_told : List D → Mo (List D) := runO 1 m_told
theorem b_told {P : Program} {w : World} {K : Fr'} {mg : Str → Option Value} {base : Heap} (Z : Zx P w K mg base) (cdv : Value) (A : Around) (outer : List Env) (s : Shared) (H : Hp) (E : XK) (hr : Room 7 (A.deeper (envOfC "told" (defScope (top 36)) s.heap.objs.size (He.ga K "told") cdv))) (hg : false = true → A.guards = some []) :
    PSsD (csK K) (cx0 P w K mg base N_told "told" (defScope (top 36)) (He.ga K "told") cdv A outer s H E) (defBody (top 36)) m_told := by
  obtain ⟨fd_want_line, F_want_line, FO_want_line, hk_want_line, hb_want_line, _⟩ := w_want_line Z
  exact (ss_one (s_retO (p_callO FO_want_line (hr.mono (by decide)) (fun (z : false = true) => nomatch z) (Z.glo_want_line) hk_want_line hb_want_line (DL.pa_cons (p_var 0) DL.pa_nil))))
theorem w_told {P : Program} {w : World} {K : Fr'} {mg : Str → Option Value} {base : Heap} (Z : Zx P w K mg base) : ∃ fd, FnD false P w K mg base 8 (He.ga K "told") fd ["line"] (spD K (csK K) 1 d_told) ∧ FnD false P w K mg base 8 (He.ga K "told") fd ["line"] (spO K (csK K) 1 o_told) ∧ PySem.W.keepIn K (.ref (He.ga K "told")) = true ∧ Binds K fd ["line"] [] ∧ KwB fd ["line"] ["line"] [0] ∧ True := by
  obtain ⟨fd, D⟩ := Z.says.def_ 27 (d := z_told)
  refine ⟨fd, fn_d (N := N_told) D S_told fun cdv A outer s H E hr hg => b_told Z cdv A outer s H E hr hg, fn_dO (N := N_told) D S_told fun cdv A outer s H E hr hg => b_told Z cdv A outer s H E hr hg, D.kp, D.bindsN (fun _ _ _ _ _ _ us hl => match us, hl with
    | [a0], _ => rfl), FunD.kwB D ["line"] ["line"] [0] (fun _ _ _ _ _ _ us hl => match us, hl with
    | [a0], _ => rfl), trivial⟩
/-! degree -/
def N_degree : List Str := ["line"]
theorem S_degree : FnScope N_degree ["line"] (defScope (top 37)) := ⟨rfl, rfl, rfl, by decide +kernel, rfl, by decide +kernel, by decide +kernel⟩
def m_degree : MS := (mRet (mBin dSubU (mCall cLen (mCons (mLst (mCallO (lenO 1 o_want_line) (mCons (mVar 0) mNil))) mNil)) (mC (.int 1))))
def d_degree : List D → Mo D := runD 1 m_degree
theorem b_degree {P : Program} {w : World} {K : Fr'} {mg : Str → Option Value} {base : Heap} (Z : Zx P w K mg base) (cdv : Value) (A : Around) (outer : List Env) (s : Shared) (H : Hp) (E : XK) (hr : Room 7 (A.deeper (envOfC "degree" (defScope (top 37)) s.heap.objs.size (He.ga K "degree") cdv))) (hg : false = true → A.guards = some []) :
    PSsD (csK K) (cx0 P w K mg base N_degree "degree" (defScope (top 37)) (He.ga K "degree") cdv A outer s H E) (defBody (top 37)) m_degree := by
  obtain ⟨fd_want_line, F_want_line, FO_want_line, hk_want_line, hb_want_line, _⟩ := w_want_line Z
  exact (ss_one (s_ret (p_bin (op_subU Z (hr.mono (by decide))) (p_bltn ca_len Z.fr_len (DL.pa_cons (POD.d (p_callO FO_want_line (hr.mono (by decide)) (fun (z : false = true) => nomatch z) (Z.glo_want_line) hk_want_line hb_want_line (DL.pa_cons (p_var 0) DL.pa_nil))) DL.pa_nil)) p_int)))
theorem w_degree {P : Program} {w : World} {K : Fr'} {mg : Str → Option Value} {base : Heap} (Z : Zx P w K mg base) : ∃ fd, FnD false P w K mg base 8 (He.ga K "degree") fd ["line"] (spD K (csK K) 1 d_degree) ∧ True ∧ PySem.W.keepIn K (.ref (He.ga K "degree")) = true ∧ Binds K fd ["line"] [] ∧ True := by
  obtain ⟨fd, D⟩ := Z.says.def_ 28 (d := z_degree)
  refine ⟨fd, fn_d (N := N_degree) D S_degree fun cdv A outer s H E hr hg => b_degree Z cdv A outer s H E hr hg, trivial, D.kp, D.bindsN (fun _ _ _ _ _ _ us hl => match us, hl with
    | [a0], _ => rfl), trivial⟩
/-! two_lines -/
def N_two_lines : List Str := ["line", "other", "first"]
theorem S_two_lines : FnScope N_two_lines ["line", "other"] (defScope (top 38)) := ⟨rfl, rfl, rfl, by decide +kernel, rfl, by decide +kernel, by decide +kernel⟩
def m_two_lines : MS := (mSeq (mSet 2 (mLst (mCallO (lenO 1 o_want_line) (mCons (mVar 0) mNil)))) (mRet (mTup (mCons (mVar 2) (mCons (mLst (mCallO (lenO 1 o_want_line) (mCons (mVar 1) mNil))) mNil)))))
def d_two_lines : List D → Mo D := runD 3 m_two_lines
theorem b_two_lines {P : Program} {w : World} {K : Fr'} {mg : Str → Option Value} {base : Heap} (Z : Zx P w K mg base) (cdv : Value) (A : Around) (outer : List Env) (s : Shared) (H : Hp) (E : XK) (hr : Room 7 (A.deeper (envOfC "two_lines" (defScope (top 38)) s.heap.objs.size (He.ga K "two_lines") cdv))) (hg : false = true → A.guards = some []) :
    PSsD (csK K) (cx0 P w K mg base N_two_lines "two_lines" (defScope (top 38)) (He.ga K "two_lines") cdv A outer s H E) (defBody (top 38)) m_two_lines := by
  obtain ⟨fd_want_line, F_want_line, FO_want_line, hk_want_line, hb_want_line, _⟩ := w_want_line Z
  exact (ss_cons (s_set 2 S_two_lines.nd (POD.d (p_callO FO_want_line (hr.mono (by decide)) (fun (z : false = true) => nomatch z) (Z.glo_want_line) hk_want_line hb_want_line (DL.pa_cons (p_var 0) DL.pa_nil)))) (ss_one (s_ret (p_tup (DL.pa_cons (p_var 2) (DL.pa_cons (POD.d (p_callO FO_want_line (hr.mono (by decide)) (fun (z : false = true) => nomatch z) (Z.glo_want_line) hk_want_line hb_want_line (DL.pa_cons (p_var 1) DL.pa_nil))) DL.pa_nil))))))
theorem w_two_lines {P : Program} {w : World} {K : Fr'} {mg : Str → Option Value} {base : Heap} (Z : Zx P w K mg base) : ∃ fd, FnD false P w K mg base 8 (He.ga K "two_lines") fd ["line", "other"] (spD K (csK K) 2 d_two_lines) ∧ True ∧ PySem.W.keepIn K (.ref (He.ga K "two_lines")) = true ∧ Binds K fd ["line", "other"] [] ∧ True := by
  obtain ⟨fd, D⟩ := Z.says.def_ 29 (d := z_two_lines)
  refine ⟨fd, fn_d (N := N_two_lines) D S_two_lines fun cdv A outer s H E hr hg => b_two_lines Z cdv A outer s H E hr hg, trivial, D.kp, D.bindsN (fun _ _ _ _ _ _ us hl => match us, hl with
    | [a0, a1], _ => rfl), trivial⟩
/-! plus -/
def N_plus : List Str := ["line", "other", "first", "second"]
theorem S_plus : FnScope N_plus ["line", "other"] (defScope (top 39)) := ⟨rfl, rfl, rfl, by decide +kernel, rfl, by decide +kernel, by decide +kernel⟩
def m_plus : MS := (mSeq (mAsg (tgTup 2 (tgCons (tgN 2) (tgCons (tgN 3) tgNil))) (mCall (lenM 2 d_two_lines) (mCons (mVar 0) (mCons (mVar 1) mNil)))) (mRetO (mCallO (lenO 2 o_line_sum) (mCons (mVar 2) (mCons (mVar 3) mNil)))))
def d_plus : List D → Mo D := runD 4 m_plus
def o_plus : List D → Mo (List D) := runO 4 m_plus
theorem b_plus {P : Program} {w : World} {K : Fr'} {mg : Str → Option Value} {base : Heap} (Z : Zx P w K mg base) (cdv : Value) (A : Around) (outer : List Env) (s : Shared) (H : Hp) (E : XK) (hr : Room 8 (A.deeper (envOfC "plus" (defScope (top 39)) s.heap.objs.size (He.ga K "plus") cdv))) (hg : false = true → A.guards = some []) :
    PSsD (csK K) (cx0 P w K mg base N_plus "plus" (defScope (top 39)) (He.ga K "plus") cdv A outer s H E) (defBody (top 39)) m_plus := by
  obtain ⟨fd_line_sum, F_line_sum, FO_line_sum, hk_line_sum, hb_line_sum, _⟩ := w_line_sum Z
  obtain ⟨fd_two_lines, F_two_lines, FO_two_lines, hk_two_lines, hb_two_lines, _⟩ := w_two_lines Z
  exact (ss_cons (s_asg (p_call F_two_lines (hr.mono (by decide)) (fun (z : false = true) => nomatch z) (Z.glo_two_lines) hk_two_lines hb_two_lines (DL.pa_cons (p_var 0) (DL.pa_cons (p_var 1) DL.pa_nil))) (g_tup rfl (gs_cons (g_name 2 S_plus.nd) (gs_cons (g_name 3 S_plus.nd) gs_nil)))) (ss_one (s_retO (p_callO FO_line_sum (hr.mono (by decide)) (fun (z : false = true) => nomatch z) (Z.glo_line_sum) hk_line_sum hb_line_sum (DL.pa_cons (p_var 2) (DL.pa_cons (p_var 3) DL.pa_nil))))))
theorem w_plus {P : Program} {w : World} {K : Fr'} {mg : Str → Option Value} {base : Heap} (Z : Zx P w K mg base) : ∃ fd, FnD false P w K mg base 9 (He.ga K "plus") fd ["line", "other"] (spD K (csK K) 2 d_plus) ∧ FnD false P w K mg base 9 (He.ga K "plus") fd ["line", "other"] (spO K (csK K) 2 o_plus) ∧ PySem.W.keepIn K (.ref (He.ga K "plus")) = true ∧ Binds K fd ["line", "other"] [] ∧ KwB fd ["line", "other"] ["other", "line"] [1, 0] ∧ True := by
  obtain ⟨fd, D⟩ := Z.says.def_ 30 (d := z_plus)
  refine ⟨fd, fn_d (N := N_plus) D S_plus fun cdv A outer s H E hr hg => b_plus Z cdv A outer s H E hr hg, fn_dO (N := N_plus) D S_plus fun cdv A outer s H E hr hg => b_plus Z cdv A outer s H E hr hg, D.kp, D.bindsN (fun _ _ _ _ _ _ us hl => match us, hl with
    | [a0, a1], _ => rfl), FunD.kwB D ["line", "other"] ["other", "line"] [1, 0] (fun _ _ _ _ _ _ us hl => match us, hl with
    | [a0, a1], _ => rfl), trivial⟩
/-! minus -/
def N_minus : List Str := ["line", "other", "first", "second"]
theorem S_minus : FnScope N_minus ["line", "other"] (defScope (top 40)) := ⟨rfl, rfl, rfl, by decide +kernel, rfl, by decide +kernel, by decide +kernel⟩
def m_minus : MS := (mSeq (mAsg (tgTup 2 (tgCons (tgN 2) (tgCons (tgN 3) tgNil))) (mCall (lenM 2 d_two_lines) (mCons (mVar 0) (mCons (mVar 1) mNil)))) (mRetO (mCallO (lenO 2 o_line_less) (mCons (mVar 2) (mCons (mVar 3) mNil)))))
def d_minus : List D → Mo D := runD 4 m_minus
def o_minus : List D → Mo (List D) := runO 4 m_minus
theorem b_minus {P : Program} {w : World} {K : Fr'} {mg : Str → Option Value} {base : Heap} (Z : Zx P w K mg base) (cdv : Value) (A : Around) (outer : List Env) (s : Shared) (H : Hp) (E : XK) (hr : Room 8 (A.deeper (envOfC "minus" (defScope (top 40)) s.heap.objs.size (He.ga K "minus") cdv))) (hg : false = true → A.guards = some []) :
    PSsD (csK K) (cx0 P w K mg base N_minus "minus" (defScope (top 40)) (He.ga K "minus") cdv A outer s H E) (defBody (top 40)) m_minus := by
  obtain ⟨fd_line_less, F_line_less, FO_line_less, hk_line_less, hb_line_less, _⟩ := w_line_less Z
  obtain ⟨fd_two_lines, F_two_lines, FO_two_lines, hk_two_lines, hb_two_lines, _⟩ := w_two_lines Z
  exact (ss_cons (s_asg (p_call F_two_lines (hr.mono (by decide)) (fun (z : false = true) => nomatch z) (Z.glo_two_lines) hk_two_lines hb_two_lines (DL.pa_cons (p_var 0) (DL.pa_cons (p_var 1) DL.pa_nil))) (g_tup rfl (gs_cons (g_name 2 S_minus.nd) (gs_cons (g_name 3 S_minus.nd) gs_nil)))) (ss_one (s_retO (p_callO FO_line_less (hr.mono (by decide)) (fun (z : false = true) => nomatch z) (Z.glo_line_less) hk_line_less hb_line_less (DL.pa_cons (p_var 2) (DL.pa_cons (p_var 3) DL.pa_nil))))))
theorem w_minus {P : Program} {w : World} {K : Fr'} {mg : Str → Option Value} {base : Heap} (Z : Zx P w K mg base) : ∃ fd, FnD false P w K mg base 9 (He.ga K "minus") fd ["line", "other"] (spD K (csK K) 2 d_minus) ∧ FnD false P w K mg base 9 (He.ga K "minus") fd ["line", "other"] (spO K (csK K) 2 o_minus) ∧ PySem.W.keepIn K (.ref (He.ga K "minus")) = true ∧ Binds K fd ["line", "other"] [] ∧ KwB fd ["line", "other"] ["other", "line"] [1, 0] ∧ True := by
  obtain ⟨fd, D⟩ := Z.says.def_ 31 (d := z_minus)
  refine ⟨fd, fn_d (N := N_minus) D S_minus fun cdv A outer s H E hr hg => b_minus Z cdv A outer s H E hr hg, fn_dO (N := N_minus) D S_minus fun cdv A outer s H E hr hg => b_minus Z cdv A outer s H E hr hg, D.kp, D.bindsN (fun _ _ _ _ _ _ us hl => match us, hl with
    | [a0, a1], _ => rfl), FunD.kwB D ["line", "other"] ["other", "line"] [1, 0] (fun _ _ _ _ _ _ us hl => match us, hl with
    | [a0, a1], _ => rfl), trivial⟩
/-! times -/
def N_times : List Str := ["line", "other", "first", "second"]
theorem S_times : FnScope N_times ["line", "other"] (defScope (top 41)) := ⟨rfl, rfl, rfl, by decide +kernel, rfl, by decide +kernel, by decide +kernel⟩
def m_times : MS := (mSeq (mAsg (tgTup 2 (tgCons (tgN 2) (tgCons (tgN 3) tgNil))) (mCall (lenM 2 d_two_lines) (mCons (mVar 0) (mCons (mVar 1) mNil)))) (mSeq (mDrop (mCall (lenM 3 d_want_at_most) (mCons (mC (.str "degree")) (mCons (mC (.int 30)) (mCons (mBin dAddU (mCall (lenM 1 d_degree_from_nought) (mCons (mVar 2) mNil)) (mCall (lenM 1 d_degree_from_nought) (mCons (mVar 3) mNil))) mNil))))) (mRetO (mCallO (lenO 2 o_line_product) (mCons (mVar 2) (mCons (mVar 3) mNil))))))
def d_times : List D → Mo D := runD 4 m_times
def o_times : List D → Mo (List D) := runO 4 m_times
theorem b_times {P : Program} {w : World} {K : Fr'} {mg : Str → Option Value} {base : Heap} (Z : Zx P w K mg base) (cdv : Value) (A : Around) (outer : List Env) (s : Shared) (H : Hp) (E : XK) (hr : Room 8 (A.deeper (envOfC "times" (defScope (top 41)) s.heap.objs.size (He.ga K "times") cdv))) (hg : false = true → A.guards = some []) :
    PSsD (csK K) (cx0 P w K mg base N_times "times" (defScope (top 41)) (He.ga K "times") cdv A outer s H E) (defBody (top 41)) m_times := by
  obtain ⟨fd_degree_from_nought, F_degree_from_nought, FO_degree_from_nought, hk_degree_from_nought, hb_degree_from_nought, _⟩ := w_degree_from_nought Z
  obtain ⟨fd_line_product, F_line_product, FO_line_product, hk_line_product, hb_line_product, _⟩ := w_line_product Z
  obtain ⟨fd_two_lines, F_two_lines, FO_two_lines, hk_two_lines, hb_two_lines, _⟩ := w_two_lines Z
  obtain ⟨fd_want_at_most, F_want_at_most, FO_want_at_most, hk_want_at_most, hb_want_at_most, _⟩ := w_want_at_most Z
  obtain ⟨t_MOST_LINE, h_MOST_LINE⟩ := Z.c_MOST_LINE
  exact (ss_cons (s_asg (p_call F_two_lines (hr.mono (by decide)) (fun (z : false = true) => nomatch z) (Z.glo_two_lines) hk_two_lines hb_two_lines (DL.pa_cons (p_var 0) (DL.pa_cons (p_var 1) DL.pa_nil))) (g_tup rfl (gs_cons (g_name 2 S_times.nd) (gs_cons (g_name 3 S_times.nd) gs_nil)))) (ss_cons (s_expr (p_call F_want_at_most (hr.mono (by decide)) (fun (z : false = true) => nomatch z) (Z.glo_want_at_most) hk_want_at_most hb_want_at_most (DL.pa_cons p_str (DL.pa_cons (p_gint rfl h_MOST_LINE) (DL.pa_cons (p_bin (op_addU Z (hr.mono (by decide))) (p_call F_degree_from_nought (hr.mono (by decide)) (fun (z : false = true) => nomatch z) (Z.glo_degree_from_nought) hk_degree_from_nought hb_degree_from_nought (DL.pa_cons (p_var 2) DL.pa_nil)) (p_call F_degree_from_nought (hr.mono (by decide)) (fun (z : false = true) => nomatch z) (Z.glo_degree_from_nought) hk_degree_from_nought hb_degree_from_nought (DL.pa_cons (p_var 3) DL.pa_nil))) DL.pa_nil))))) (ss_one (s_retO (p_callO FO_line_product (hr.mono (by decide)) (fun (z : false = true) => nomatch z) (Z.glo_line_product) hk_line_product hb_line_product (DL.pa_cons (p_var 2) (DL.pa_cons (p_var 3) DL.pa_nil)))))))
theorem w_times {P : Program} {w : World} {K : Fr'} {mg : Str → Option Value} {base : Heap} (Z : Zx P w K mg base) : ∃ fd, FnD false P w K mg base 9 (He.ga K "times") fd ["line", "other"] (spD K (csK K) 2 d_times) ∧ FnD false P w K mg base 9 (He.ga K "times") fd ["line", "other"] (spO K (csK K) 2 o_times) ∧ PySem.W.keepIn K (.ref (He.ga K "times")) = true ∧ Binds K fd ["line", "other"] [] ∧ KwB fd ["line", "other"] ["other", "line"] [1, 0] ∧ True := by
  obtain ⟨fd, D⟩ := Z.says.def_ 32 (d := z_times)
  refine ⟨fd, fn_d (N := N_times) D S_times fun cdv A outer s H E hr hg => b_times Z cdv A outer s H E hr hg, fn_dO (N := N_times) D S_times fun cdv A outer s H E hr hg => b_times Z cdv A outer s H E hr hg, D.kp, D.bindsN (fun _ _ _ _ _ _ us hl => match us, hl with
    | [a0, a1], _ => rfl), FunD.kwB D ["line", "other"] ["other", "line"] [1, 0] (fun _ _ _ _ _ _ us hl => match us, hl with
    | [a0, a1], _ => rfl), trivial⟩
/-! scaled -/
def N_scaled : List Str := ["line", "number", "found"]
theorem S_scaled : FnScope N_scaled ["line", "number"] (defScope (top 42)) := ⟨rfl, rfl, rfl, by decide +kernel, rfl, by decide +kernel, by decide +kernel⟩
def m_scaled : MS := (mSeq (mSet 2 (mLst (mCallO (lenO 1 o_want_line) (mCons (mVar 0) mNil)))) (mRetO (mCallO (lenO 2 o_line_by) (mCons (mVar 2) (mCons (mCall (lenM 1 d_want_number) (mCons (mVar 1) mNil)) mNil)))))
def d_scaled : List D → Mo D := runD 3 m_scaled
def o_scaled : List D → Mo (List D) := runO 3 m_scaled
theorem b_scaled {P : Program} {w : World} {K : Fr'} {mg : Str → Option Value} {base : Heap} (Z : Zx P w K mg base) (cdv : Value) (A : Around) (outer : List Env) (s : Shared) (H : Hp) (E : XK) (hr : Room 7 (A.deeper (envOfC "scaled" (defScope (top 42)) s.heap.objs.size (He.ga K "scaled") cdv))) (hg : false = true → A.guards = some []) :
    PSsD (csK K) (cx0 P w K mg base N_scaled "scaled" (defScope (top 42)) (He.ga K "scaled") cdv A outer s H E) (defBody (top 42)) m_scaled := by
  obtain ⟨fd_line_by, F_line_by, FO_line_by, hk_line_by, hb_line_by, _⟩ := w_line_by Z
  obtain ⟨fd_want_line, F_want_line, FO_want_line, hk_want_line, hb_want_line, _⟩ := w_want_line Z
  obtain ⟨fd_want_number, F_want_number, FO_want_number, hk_want_number, hb_want_number, _⟩ := w_want_number Z
  exact (ss_cons (s_set 2 S_scaled.nd (POD.d (p_callO FO_want_line (hr.mono (by decide)) (fun (z : false = true) => nomatch z) (Z.glo_want_line) hk_want_line hb_want_line (DL.pa_cons (p_var 0) DL.pa_nil)))) (ss_one (s_retO (p_callO FO_line_by (hr.mono (by decide)) (fun (z : false = true) => nomatch z) (Z.glo_line_by) hk_line_by hb_line_by (DL.pa_cons (p_var 2) (DL.pa_cons (p_call F_want_number (hr.mono (by decide)) (fun (z : false = true) => nomatch z) (Z.glo_want_number) hk_want_number hb_want_number (DL.pa_cons (p_var 1) DL.pa_nil)) DL.pa_nil))))))
theorem w_scaled {P : Program} {w : World} {K : Fr'} {mg : Str → Option Value} {base : Heap} (Z : Zx P w K mg base) : ∃ fd, FnD false P w K mg base 8 (He.ga K "scaled") fd ["line", "number"] (spD K (csK K) 2 d_scaled) ∧ FnD false P w K mg base 8 (He.ga K "scaled") fd ["line", "number"] (spO K (csK K) 2 o_scaled) ∧ PySem.W.keepIn K (.ref (He.ga K "scaled")) = true ∧ Binds K fd ["line", "number"] [] ∧ KwB fd ["line", "number"] ["number", "line"] [1, 0] ∧ True := by
  obtain ⟨fd, D⟩ := Z.says.def_ 33 (d := z_scaled)
  refine ⟨fd, fn_d (N := N_scaled) D S_scaled fun cdv A outer s H E hr hg => b_scaled Z cdv A outer s H E hr hg, fn_dO (N := N_scaled) D S_scaled fun cdv A outer s H E hr hg => b_scaled Z cdv A outer s H E hr hg, D.kp, D.bindsN (fun _ _ _ _ _ _ us hl => match us, hl with
    | [a0, a1], _ => rfl), FunD.kwB D ["line", "number"] ["number", "line"] [1, 0] (fun _ _ _ _ _ _ us hl => match us, hl with
    | [a0, a1], _ => rfl), trivial⟩
/-! worth -/
def N_worth : List Str := ["line", "number", "found"]
theorem S_worth : FnScope N_worth ["line", "number"] (defScope (top 43)) := ⟨rfl, rfl, rfl, by decide +kernel, rfl, by decide +kernel, by decide +kernel⟩
def m_worth : MS := (mSeq (mSet 2 (mLst (mCallO (lenO 1 o_want_line) (mCons (mVar 0) mNil)))) (mRet (mCall (lenM 2 d_line_worth) (mCons (mVar 2) (mCons (mCall (lenM 1 d_want_number) (mCons (mVar 1) mNil)) mNil)))))
def d_worth : List D → Mo D := runD 3 m_worth
theorem b_worth {P : Program} {w : World} {K : Fr'} {mg : Str → Option Value} {base : Heap} (Z : Zx P w K mg base) (cdv : Value) (A : Around) (outer : List Env) (s : Shared) (H : Hp) (E : XK) (hr : Room 7 (A.deeper (envOfC "worth" (defScope (top 43)) s.heap.objs.size (He.ga K "worth") cdv))) (hg : false = true → A.guards = some []) :
    PSsD (csK K) (cx0 P w K mg base N_worth "worth" (defScope (top 43)) (He.ga K "worth") cdv A outer s H E) (defBody (top 43)) m_worth := by
  obtain ⟨fd_line_worth, F_line_worth, FO_line_worth, hk_line_worth, hb_line_worth, _⟩ := w_line_worth Z
  obtain ⟨fd_want_line, F_want_line, FO_want_line, hk_want_line, hb_want_line, _⟩ := w_want_line Z
  obtain ⟨fd_want_number, F_want_number, FO_want_number, hk_want_number, hb_want_number, _⟩ := w_want_number Z
  exact (ss_cons (s_set 2 S_worth.nd (POD.d (p_callO FO_want_line (hr.mono (by decide)) (fun (z : false = true) => nomatch z) (Z.glo_want_line) hk_want_line hb_want_line (DL.pa_cons (p_var 0) DL.pa_nil)))) (ss_one (s_ret (p_call F_line_worth (hr.mono (by decide)) (fun (z : false = true) => nomatch z) (Z.glo_line_worth) hk_line_worth hb_line_worth (DL.pa_cons (p_var 2) (DL.pa_cons (p_call F_want_number (hr.mono (by decide)) (fun (z : false = true) => nomatch z) (Z.glo_want_number) hk_want_number hb_want_number (DL.pa_cons (p_var 1) DL.pa_nil)) DL.pa_nil))))))
theorem w_worth {P : Program} {w : World} {K : Fr'} {mg : Str → Option Value} {base : Heap} (Z : Zx P w K mg base) : ∃ fd, FnD false P w K mg base 8 (He.ga K "worth") fd ["line", "number"] (spD K (csK K) 2 d_worth) ∧ True ∧ PySem.W.keepIn K (.ref (He.ga K "worth")) = true ∧ Binds K fd ["line", "number"] [] ∧ KwB fd ["line", "number"] ["number", "line"] [1, 0] ∧ True := by
  obtain ⟨fd, D⟩ := Z.says.def_ 34 (d := z_worth)
  refine ⟨fd, fn_d (N := N_worth) D S_worth fun cdv A outer s H E hr hg => b_worth Z cdv A outer s H E hr hg, trivial, D.kp, D.bindsN (fun _ _ _ _ _ _ us hl => match us, hl with
    | [a0, a1], _ => rfl), FunD.kwB D ["line", "number"] ["number", "line"] [1, 0] (fun _ _ _ _ _ _ us hl => match us, hl with
    | [a0, a1], _ => rfl), trivial⟩
/-! derived -/
def N_derived : List Str := ["line"]
theorem S_derived : FnScope N_derived ["line"] (defScope (top 44)) := ⟨rfl, rfl, rfl, by decide +kernel, rfl, by decide +kernel, by decide +kernel⟩
def m_derived : MS := (mRetO (mCallO (lenO 1 o_line_slope) (mCons (mLst (mCallO (lenO 1 o_want_line) (mCons (mVar 0) mNil))) mNil)))
def d_derived : List D → Mo D := runD 1 m_derived
def o_derived : List D → Mo (List D) := runO 1 m_derived
theorem b_derived {P : Program} {w : World} {K : Fr'} {mg : Str → Option Value} {base : Heap} (Z : Zx P w K mg base) (cdv : Value) (A : Around) (outer : List Env) (s : Shared) (H : Hp) (E : XK) (hr : Room 7 (A.deeper (envOfC "derived" (defScope (top 44)) s.heap.objs.size (He.ga K "derived") cdv))) (hg : false = true → A.guards = some []) :
    PSsD (csK K) (cx0 P w K mg base N_derived "derived" (defScope (top 44)) (He.ga K "derived") cdv A outer s H E) (defBody (top 44)) m_derived := by
  obtain ⟨fd_line_slope, F_line_slope, FO_line_slope, hk_line_slope, hb_line_slope, _⟩ := w_line_slope Z
  obtain ⟨fd_want_line, F_want_line, FO_want_line, hk_want_line, hb_want_line, _⟩ := w_want_line Z
  exact (ss_one (s_retO (p_callO FO_line_slope (hr.mono (by decide)) (fun (z : false = true) => nomatch z) (Z.glo_line_slope) hk_line_slope hb_line_slope (DL.pa_cons (POD.d (p_callO FO_want_line (hr.mono (by decide)) (fun (z : false = true) => nomatch z) (Z.glo_want_line) hk_want_line hb_want_line (DL.pa_cons (p_var 0) DL.pa_nil))) DL.pa_nil))))
theorem w_derived {P : Program} {w : World} {K : Fr'} {mg : Str → Option Value} {base : Heap} (Z : Zx P w K mg base) : ∃ fd, FnD false P w K mg base 8 (He.ga K "derived") fd ["line"] (spD K (csK K) 1 d_derived) ∧ FnD false P w K mg base 8 (He.ga K "derived") fd ["line"] (spO K (csK K) 1 o_derived) ∧ PySem.W.keepIn K (.ref (He.ga K "derived")) = true ∧ Binds K fd ["line"] [] ∧ KwB fd ["line"] ["line"] [0] ∧ True := by
  obtain ⟨fd, D⟩ := Z.says.def_ 35 (d := z_derived)
  refine ⟨fd, fn_d (N := N_derived) D S_derived fun cdv A outer s H E hr hg => b_derived Z cdv A outer s H E hr hg, fn_dO (N := N_derived) D S_derived fun cdv A outer s H E hr hg => b_derived Z cdv A outer s H E hr hg, D.kp, D.bindsN (fun _ _ _ _ _ _ us hl => match us, hl with
    | [a0], _ => rfl), FunD.kwB D ["line"] ["line"] [0] (fun _ _ _ _ _ _ us hl => match us, hl with
    | [a0], _ => rfl), trivial⟩
/-! _law_draw -/
def N__law_draw : List Str := ["pot", "many", "digit"]
theorem S__law_draw : FnScope N__law_draw ["pot", "many"] (defScope (top 47)) := ⟨rfl, rfl, rfl, by decide +kernel, rfl, by decide +kernel, by decide +kernel⟩
def m__law_draw : MS := (mSeq (mIfS (mB (mBin dGt (mPot 0 false) (mC (.int 0)))) (mSeq (mPotDiv 0 2 (mCall cDivmod (mCons (mPot 0 false) (mCons (mVar 1) mNil)))) (mRet (mVar 2))) mNx) (mSeq (mSetPot 0 true (mBin dModI (mCall cInt (mCons (mBin dAddI (mBin dMulI (mPot 0 true) (mC (.int 39373))) (mC (.int 7331))) mNil)) (mC (.int 2147483587)))) (mRet (mBin dModI (mCall cInt (mCons (mBin dDivI (mBin dModI (mCall cInt (mCons (mBin dMulI (mPot 0 true) (mPot 0 true)) mNil)) (mC (.int 2147483563))) (mC (.int 19))) mNil)) (mVar 1)))))
def d__law_draw : List D → Mo D := runD 3 m__law_draw
theorem b__law_draw {P : Program} {w : World} {K : Fr'} {mg : Str → Option Value} {base : Heap} (Z : Zx P w K mg base) (cdv : Value) (A : Around) (outer : List Env) (s : Shared) (H : Hp) (E : XK) (hr : Room 0 (A.deeper (envOfC "_law_draw" (defScope (top 47)) s.heap.objs.size (He.ga K "_law_draw") cdv))) (hg : false = true → A.guards = some []) :
    PSsD (csK K) (cx0 P w K mg base N__law_draw "_law_draw" (defScope (top 47)) (He.ga K "_law_draw") cdv A outer s H E) (defBody (top 47)) m__law_draw := by
  exact (ss_cons (s_if (pt_cmp op_gtI (p_potIx 0 false) p_int rfl) (ss_cons (s_potDiv 0 2 rfl S__law_draw.nd (p_bltn ca_divmod Z.fr_divmod (DL.pa_cons (p_potIx 0 false) (DL.pa_cons (p_var 1) DL.pa_nil)))) (ss_one (s_ret (p_var 2)))) ss_nil) (ss_cons (s_setPot 0 true (p_bin op_modI (p_type ca_int Z.fr_int (DL.pa_cons (p_bin op_addI (p_bin op_mulI (p_potIx 0 true) p_int) p_int) DL.pa_nil)) p_int)) (ss_one (s_ret (p_bin op_modI (p_type ca_int Z.fr_int (DL.pa_cons (p_bin op_divI (p_bin op_modI (p_type ca_int Z.fr_int (DL.pa_cons (p_bin op_mulI (p_potIx 0 true) (p_potIx 0 true)) DL.pa_nil)) p_int) p_int) DL.pa_nil)) (p_var 1))))))
theorem w__law_draw {P : Program} {w : World} {K : Fr'} {mg : Str → Option Value} {base : Heap} (Z : Zx P w K mg base) : ∃ fd, FnD false P w K mg base 1 (He.ga K "_law_draw") fd ["pot", "many"] (spD K (csK K) 2 d__law_draw) ∧ True ∧ PySem.W.keepIn K (.ref (He.ga K "_law_draw")) = true ∧ Binds K fd ["pot", "many"] [] ∧ True := by
  obtain ⟨fd, D⟩ := Z.says.def_ 37 (d := z__law_draw)
  refine ⟨fd, fn_d (N := N__law_draw) D S__law_draw fun cdv A outer s H E hr hg => b__law_draw Z cdv A outer s H E hr hg, trivial, D.kp, D.bindsN (fun _ _ _ _ _ _ us hl => match us, hl with
    | [a0, a1], _ => rfl), trivial⟩
/-! _law_pick -/
def N__law_pick : List Str := ["pot", "some"]
theorem S__law_pick : FnScope N__law_pick ["pot", "some"] (defScope (top 48)) := ⟨rfl, rfl, rfl, by decide +kernel, rfl, by decide +kernel, by decide +kernel⟩
def m__law_pick : MS := (mRet (mBin atD (mVar 1) (mCall (lenM 2 d__law_draw) (mCons (mVar 0) (mCons (mCall cLen (mCons (mVar 1) mNil)) mNil)))))
def d__law_pick : List D → Mo D := runD 2 m__law_pick
theorem b__law_pick {P : Program} {w : World} {K : Fr'} {mg : Str → Option Value} {base : Heap} (Z : Zx P w K mg base) (cdv : Value) (A : Around) (outer : List Env) (s : Shared) (H : Hp) (E : XK) (hr : Room 1 (A.deeper (envOfC "_law_pick" (defScope (top 48)) s.heap.objs.size (He.ga K "_law_pick") cdv))) (hg : false = true → A.guards = some []) :
    PSsD (csK K) (cx0 P w K mg base N__law_pick "_law_pick" (defScope (top 48)) (He.ga K "_law_pick") cdv A outer s H E) (defBody (top 48)) m__law_pick := by
  obtain ⟨fd__law_draw, F__law_draw, FO__law_draw, hk__law_draw, hb__law_draw, _⟩ := w__law_draw Z
  exact (ss_one (s_ret (p_ix (p_var 1) (p_call F__law_draw (hr.mono (by decide)) (fun (z : false = true) => nomatch z) (Z.glo__law_draw) hk__law_draw hb__law_draw (DL.pa_cons (p_var 0) (DL.pa_cons (p_bltn ca_len Z.fr_len (DL.pa_cons (p_var 1) DL.pa_nil)) DL.pa_nil))))))
theorem w__law_pick {P : Program} {w : World} {K : Fr'} {mg : Str → Option Value} {base : Heap} (Z : Zx P w K mg base) : ∃ fd, FnD false P w K mg base 2 (He.ga K "_law_pick") fd ["pot", "some"] (spD K (csK K) 2 d__law_pick) ∧ True ∧ PySem.W.keepIn K (.ref (He.ga K "_law_pick")) = true ∧ Binds K fd ["pot", "some"] [] ∧ True := by
  obtain ⟨fd, D⟩ := Z.says.def_ 38 (d := z__law_pick)
  refine ⟨fd, fn_d (N := N__law_pick) D S__law_pick fun cdv A outer s H E hr hg => b__law_pick Z cdv A outer s H E hr hg, trivial, D.kp, D.bindsN (fun _ _ _ _ _ _ us hl => match us, hl with
    | [a0, a1], _ => rfl), trivial⟩
/-! _law_low -/
def N__law_low : List Str := ["top", "bottom", "one", "other"]
theorem S__law_low : FnScope N__law_low ["top", "bottom"] (defScope (top 49)) := ⟨rfl, rfl, rfl, by decide +kernel, rfl, by decide +kernel, by decide +kernel⟩
def m__law_low : MS := (mSeq (mPar 2 3 (mCons (mCall cAbs (mCons (mVar 0) mNil)) (mCons (mCall cAbs (mCons (mVar 1) mNil)) mNil))) (mSeq (mWhile (mB (mBin dGt (mVar 3) (mC (.int 0)))) (mPar 2 3 (mCons (mVar 3) (mCons (mBin dModI (mCall cInt (mCons (mVar 2) mNil)) (mVar 3)) mNil)))) (mSeq (mSet 2 (mIf (mB (mBin dGt (mVar 1) (mC (.int 0)))) (mVar 2) (mBin dSubI (mC (.int 0)) (mVar 2)))) (mRet (mTup (mCons (mBin dDivI (mVar 0) (mVar 2)) (mCons (mBin dDivI (mVar 1) (mVar 2)) mNil)))))))
def d__law_low : List D → Mo D := runD 4 m__law_low
theorem b__law_low {P : Program} {w : World} {K : Fr'} {mg : Str → Option Value} {base : Heap} (Z : Zx P w K mg base) (cdv : Value) (A : Around) (outer : List Env) (s : Shared) (H : Hp) (E : XK) (hr : Room 0 (A.deeper (envOfC "_law_low" (defScope (top 49)) s.heap.objs.size (He.ga K "_law_low") cdv))) (hg : false = true → A.guards = some []) :
    PSsD (csK K) (cx0 P w K mg base N__law_low "_law_low" (defScope (top 49)) (He.ga K "_law_low") cdv A outer s H E) (defBody (top 49)) m__law_low := by
  exact (ss_cons (s_par 2 3 rfl S__law_low.nd (DL.pa_cons (p_bltn ca_abs Z.fr_abs (DL.pa_cons (p_var 0) DL.pa_nil)) (DL.pa_cons (p_bltn ca_abs Z.fr_abs (DL.pa_cons (p_var 1) DL.pa_nil)) DL.pa_nil)) rfl) (ss_cons (s_while PassesOwn.never (pt_cmp op_gtI (p_var 3) p_int rfl) (ss_one (s_par 2 3 rfl S__law_low.nd (DL.pa_cons (p_var 3) (DL.pa_cons (p_bin op_modI (p_type ca_int Z.fr_int (DL.pa_cons (p_var 2) DL.pa_nil)) (p_var 3)) DL.pa_nil)) rfl))) (ss_cons (s_set 2 S__law_low.nd (p_if (pt_cmp op_gtI (p_var 1) p_int rfl) (p_var 2) (p_bin op_subI p_int (p_var 2)))) (ss_one (s_ret (p_tup (DL.pa_cons (p_bin op_divI (p_var 0) (p_var 2)) (DL.pa_cons (p_bin op_divI (p_var 1) (p_var 2)) DL.pa_nil))))))))
theorem w__law_low {P : Program} {w : World} {K : Fr'} {mg : Str → Option Value} {base : Heap} (Z : Zx P w K mg base) : ∃ fd, FnD false P w K mg base 1 (He.ga K "_law_low") fd ["top", "bottom"] (spD K (csK K) 2 d__law_low) ∧ True ∧ PySem.W.keepIn K (.ref (He.ga K "_law_low")) = true ∧ Binds K fd ["top", "bottom"] [] ∧ True := by
  obtain ⟨fd, D⟩ := Z.says.def_ 39 (d := z__law_low)
  refine ⟨fd, fn_d (N := N__law_low) D S__law_low fun cdv A outer s H E hr hg => b__law_low Z cdv A outer s H E hr hg, trivial, D.kp, D.bindsN (fun _ _ _ _ _ _ us hl => match us, hl with
    | [a0, a1], _ => rfl), trivial⟩
/-! _law_sum -/
def N__law_sum : List Str := ["one", "other"]
theorem S__law_sum : FnScope N__law_sum ["one", "other"] (defScope (top 50)) := ⟨rfl, rfl, rfl, by decide +kernel, rfl, by decide +kernel, by decide +kernel⟩
def m__law_sum : MS := (mRet (mCall (lenM 2 d__law_low) (mCons (mBin dAddI (mBin dMulI (mBin atD (mVar 0) (mC (.int 0))) (mBin atD (mVar 1) (mC (.int 1)))) (mBin dMulI (mBin atD (mVar 1) (mC (.int 0))) (mBin atD (mVar 0) (mC (.int 1))))) (mCons (mBin dMulI (mBin atD (mVar 0) (mC (.int 1))) (mBin atD (mVar 1) (mC (.int 1)))) mNil))))
def d__law_sum : List D → Mo D := runD 2 m__law_sum
theorem b__law_sum {P : Program} {w : World} {K : Fr'} {mg : Str → Option Value} {base : Heap} (Z : Zx P w K mg base) (cdv : Value) (A : Around) (outer : List Env) (s : Shared) (H : Hp) (E : XK) (hr : Room 1 (A.deeper (envOfC "_law_sum" (defScope (top 50)) s.heap.objs.size (He.ga K "_law_sum") cdv))) (hg : false = true → A.guards = some []) :
    PSsD (csK K) (cx0 P w K mg base N__law_sum "_law_sum" (defScope (top 50)) (He.ga K "_law_sum") cdv A outer s H E) (defBody (top 50)) m__law_sum := by
  obtain ⟨fd__law_low, F__law_low, FO__law_low, hk__law_low, hb__law_low, _⟩ := w__law_low Z
  exact (ss_one (s_ret (p_call F__law_low (hr.mono (by decide)) (fun (z : false = true) => nomatch z) (Z.glo__law_low) hk__law_low hb__law_low (DL.pa_cons (p_bin op_addI (p_bin op_mulI (p_ix (p_var 0) p_int) (p_ix (p_var 1) p_int)) (p_bin op_mulI (p_ix (p_var 1) p_int) (p_ix (p_var 0) p_int))) (DL.pa_cons (p_bin op_mulI (p_ix (p_var 0) p_int) (p_ix (p_var 1) p_int)) DL.pa_nil)))))
theorem w__law_sum {P : Program} {w : World} {K : Fr'} {mg : Str → Option Value} {base : Heap} (Z : Zx P w K mg base) : ∃ fd, FnD false P w K mg base 2 (He.ga K "_law_sum") fd ["one", "other"] (spD K (csK K) 2 d__law_sum) ∧ True ∧ PySem.W.keepIn K (.ref (He.ga K "_law_sum")) = true ∧ Binds K fd ["one", "other"] [] ∧ True := by
  obtain ⟨fd, D⟩ := Z.says.def_ 40 (d := z__law_sum)
  refine ⟨fd, fn_d (N := N__law_sum) D S__law_sum fun cdv A outer s H E hr hg => b__law_sum Z cdv A outer s H E hr hg, trivial, D.kp, D.bindsN (fun _ _ _ _ _ _ us hl => match us, hl with
    | [a0, a1], _ => rfl), trivial⟩
/-! _law_by -/
def N__law_by : List Str := ["one", "other"]
theorem S__law_by : FnScope N__law_by ["one", "other"] (defScope (top 51)) := ⟨rfl, rfl, rfl, by decide +kernel, rfl, by decide +kernel, by decide +kernel⟩
def m__law_by : MS := (mRet (mCall (lenM 2 d__law_low) (mCons (mBin dMulI (mBin atD (mVar 0) (mC (.int 0))) (mBin atD (mVar 1) (mC (.int 0)))) (mCons (mBin dMulI (mBin atD (mVar 0) (mC (.int 1))) (mBin atD (mVar 1) (mC (.int 1)))) mNil))))
def d__law_by : List D → Mo D := runD 2 m__law_by
theorem b__law_by {P : Program} {w : World} {K : Fr'} {mg : Str → Option Value} {base : Heap} (Z : Zx P w K mg base) (cdv : Value) (A : Around) (outer : List Env) (s : Shared) (H : Hp) (E : XK) (hr : Room 1 (A.deeper (envOfC "_law_by" (defScope (top 51)) s.heap.objs.size (He.ga K "_law_by") cdv))) (hg : false = true → A.guards = some []) :
    PSsD (csK K) (cx0 P w K mg base N__law_by "_law_by" (defScope (top 51)) (He.ga K "_law_by") cdv A outer s H E) (defBody (top 51)) m__law_by := by
  obtain ⟨fd__law_low, F__law_low, FO__law_low, hk__law_low, hb__law_low, _⟩ := w__law_low Z
  exact (ss_one (s_ret (p_call F__law_low (hr.mono (by decide)) (fun (z : false = true) => nomatch z) (Z.glo__law_low) hk__law_low hb__law_low (DL.pa_cons (p_bin op_mulI (p_ix (p_var 0) p_int) (p_ix (p_var 1) p_int)) (DL.pa_cons (p_bin op_mulI (p_ix (p_var 0) p_int) (p_ix (p_var 1) p_int)) DL.pa_nil)))))
theorem w__law_by {P : Program} {w : World} {K : Fr'} {mg : Str → Option Value} {base : Heap} (Z : Zx P w K mg base) : ∃ fd, FnD false P w K mg base 2 (He.ga K "_law_by") fd ["one", "other"] (spD K (csK K) 2 d__law_by) ∧ True ∧ PySem.W.keepIn K (.ref (He.ga K "_law_by")) = true ∧ Binds K fd ["one", "other"] [] ∧ True := by
  obtain ⟨fd, D⟩ := Z.says.def_ 41 (d := z__law_by)
  refine ⟨fd, fn_d (N := N__law_by) D S__law_by fun cdv A outer s H E hr hg => b__law_by Z cdv A outer s H E hr hg, trivial, D.kp, D.bindsN (fun _ _ _ _ _ _ us hl => match us, hl with
    | [a0, a1], _ => rfl), trivial⟩
/-! _law_number -/
def N__law_number : List Str := ["pot", "most"]
theorem S__law_number : FnScope N__law_number ["pot", "most"] (defScope (top 52)) := ⟨rfl, rfl, rfl, by decide +kernel, rfl, by decide +kernel, by decide +kernel⟩
def m__law_number : MS := (mRet (mCall (lenM 2 d__law_low) (mCons (mBin dSubI (mCall (lenM 2 d__law_draw) (mCons (mVar 0) (mCons (mBin dAddI (mBin dMulI (mC (.int 2)) (mVar 1)) (mC (.int 1))) mNil))) (mVar 1)) (mCons (mCall (lenM 2 d__law_pick) (mCons (mVar 0) (mCons (mLst (mNew (mCons (mC (.int 1)) (mCons (mC (.int 1)) (mCons (mC (.int 1)) (mCons (mC (.int 2)) (mCons (mC (.int 3)) mNil))))))) mNil))) mNil))))
def d__law_number : List D → Mo D := runD 2 m__law_number
theorem b__law_number {P : Program} {w : World} {K : Fr'} {mg : Str → Option Value} {base : Heap} (Z : Zx P w K mg base) (cdv : Value) (A : Around) (outer : List Env) (s : Shared) (H : Hp) (E : XK) (hr : Room 2 (A.deeper (envOfC "_law_number" (defScope (top 52)) s.heap.objs.size (He.ga K "_law_number") cdv))) (hg : false = true → A.guards = some []) :
    PSsD (csK K) (cx0 P w K mg base N__law_number "_law_number" (defScope (top 52)) (He.ga K "_law_number") cdv A outer s H E) (defBody (top 52)) m__law_number := by
  obtain ⟨fd__law_draw, F__law_draw, FO__law_draw, hk__law_draw, hb__law_draw, _⟩ := w__law_draw Z
  obtain ⟨fd__law_low, F__law_low, FO__law_low, hk__law_low, hb__law_low, _⟩ := w__law_low Z
  obtain ⟨fd__law_pick, F__law_pick, FO__law_pick, hk__law_pick, hb__law_pick, _⟩ := w__law_pick Z
  exact (ss_one (s_ret (p_call F__law_low (hr.mono (by decide)) (fun (z : false = true) => nomatch z) (Z.glo__law_low) hk__law_low hb__law_low (DL.pa_cons (p_bin op_subI (p_call F__law_draw (hr.mono (by decide)) (fun (z : false = true) => nomatch z) (Z.glo__law_draw) hk__law_draw hb__law_draw (DL.pa_cons (p_var 0) (DL.pa_cons (p_bin op_addI (p_bin op_mulI p_int (p_var 1)) p_int) DL.pa_nil))) (p_var 1)) (DL.pa_cons (p_call F__law_pick (hr.mono (by decide)) (fun (z : false = true) => nomatch z) (Z.glo__law_pick) hk__law_pick hb__law_pick (DL.pa_cons (p_var 0) (DL.pa_cons (POD.d (o_lst (DL.pa_cons p_int (DL.pa_cons p_int (DL.pa_cons p_int (DL.pa_cons p_int (DL.pa_cons p_int DL.pa_nil))))))) DL.pa_nil))) DL.pa_nil)))))
theorem w__law_number {P : Program} {w : World} {K : Fr'} {mg : Str → Option Value} {base : Heap} (Z : Zx P w K mg base) : ∃ fd, FnD false P w K mg base 3 (He.ga K "_law_number") fd ["pot", "most"] (spD K (csK K) 2 d__law_number) ∧ True ∧ PySem.W.keepIn K (.ref (He.ga K "_law_number")) = true ∧ Binds K fd ["pot", "most"] [] ∧ True := by
  obtain ⟨fd, D⟩ := Z.says.def_ 42 (d := z__law_number)
  refine ⟨fd, fn_d (N := N__law_number) D S__law_number fun cdv A outer s H E hr hg => b__law_number Z cdv A outer s H E hr hg, trivial, D.kp, D.bindsN (fun _ _ _ _ _ _ us hl => match us, hl with
    | [a0, a1], _ => rfl), trivial⟩
/-! _law_ratio -/
def N__law_ratio : List Str := ["pair"]
theorem S__law_ratio : FnScope N__law_ratio ["pair"] (defScope (top 53)) := ⟨rfl, rfl, rfl, by decide +kernel, rfl, by decide +kernel, by decide +kernel⟩
def m__law_ratio : MS := (mRet (mCall (mk_Ratio_2 d_Ratio___init__) (mCons (mBin atD (mVar 0) (mC (.int 0))) (mCons (mBin atD (mVar 0) (mC (.int 1))) mNil))))
def d__law_ratio : List D → Mo D := runD 1 m__law_ratio
theorem b__law_ratio {P : Program} {w : World} {K : Fr'} {mg : Str → Option Value} {base : Heap} (Z : Zx P w K mg base) (cdv : Value) (A : Around) (outer : List Env) (s : Shared) (H : Hp) (E : XK) (hr : Room 3 (A.deeper (envOfC "_law_ratio" (defScope (top 53)) s.heap.objs.size (He.ga K "_law_ratio") cdv))) (hg : false = true → A.guards = some []) :
    PSsD (csK K) (cx0 P w K mg base N__law_ratio "_law_ratio" (defScope (top 53)) (He.ga K "_law_ratio") cdv A outer s H E) (defBody (top 53)) m__law_ratio := by
  exact (ss_one (s_ret (mkW_Ratio_2 Z (hr.mono (by decide)) (DL.pa_cons (p_ix (p_var 0) p_int) (DL.pa_cons (p_ix (p_var 0) p_int) DL.pa_nil)))))
theorem w__law_ratio {P : Program} {w : World} {K : Fr'} {mg : Str → Option Value} {base : Heap} (Z : Zx P w K mg base) : ∃ fd, FnD false P w K mg base 4 (He.ga K "_law_ratio") fd ["pair"] (spD K (csK K) 1 d__law_ratio) ∧ True ∧ PySem.W.keepIn K (.ref (He.ga K "_law_ratio")) = true ∧ Binds K fd ["pair"] [] ∧ True := by
  obtain ⟨fd, D⟩ := Z.says.def_ 43 (d := z__law_ratio)
  refine ⟨fd, fn_d (N := N__law_ratio) D S__law_ratio fun cdv A outer s H E hr hg => b__law_ratio Z cdv A outer s H E hr hg, trivial, D.kp, D.bindsN (fun _ _ _ _ _ _ us hl => match us, hl with
    | [a0], _ => rfl), trivial⟩
/-! _law_passed -/
def N__law_passed : List Str := ["pot", "pair"]
theorem S__law_passed : FnScope N__law_passed ["pot", "pair"] (defScope (top 54)) := ⟨rfl, rfl, rfl, by decide +kernel, rfl, by decide +kernel, by decide +kernel⟩
def m__law_passed : MS := (mRet (mIf (mAnd (mB (mBin (dEqF false) (mBin atD (mVar 1) (mC (.int 1))) (mC (.int 1)))) (mB (mBin (dEqF false) (mCall (lenM 2 d__law_draw) (mCons (mVar 0) (mCons (mC (.int 2)) mNil))) (mC (.int 0))))) (mBin atD (mVar 1) (mC (.int 0))) (mCall (lenM 1 d__law_ratio) (mCons (mVar 1) mNil))))
def d__law_passed : List D → Mo D := runD 2 m__law_passed
theorem b__law_passed {P : Program} {w : World} {K : Fr'} {mg : Str → Option Value} {base : Heap} (Z : Zx P w K mg base) (cdv : Value) (A : Around) (outer : List Env) (s : Shared) (H : Hp) (E : XK) (hr : Room 4 (A.deeper (envOfC "_law_passed" (defScope (top 54)) s.heap.objs.size (He.ga K "_law_passed") cdv))) (hg : false = true → A.guards = some []) :
    PSsD (csK K) (cx0 P w K mg base N__law_passed "_law_passed" (defScope (top 54)) (He.ga K "_law_passed") cdv A outer s H E) (defBody (top 54)) m__law_passed := by
  obtain ⟨fd__law_draw, F__law_draw, FO__law_draw, hk__law_draw, hb__law_draw, _⟩ := w__law_draw Z
  obtain ⟨fd__law_ratio, F__law_ratio, FO__law_ratio, hk__law_ratio, hb__law_ratio, _⟩ := w__law_ratio Z
  exact (ss_one (s_ret (p_if (PWD.pt (DL.pw_and (pt_cmp (op_eqF false) (p_ix (p_var 1) p_int) p_int rfl) (pw_one (pt_cmp (op_eqF false) (p_call F__law_draw (hr.mono (by decide)) (fun (z : false = true) => nomatch z) (Z.glo__law_draw) hk__law_draw hb__law_draw (DL.pa_cons (p_var 0) (DL.pa_cons p_int DL.pa_nil))) p_int rfl)))) (p_ix (p_var 1) p_int) (p_call F__law_ratio (hr.mono (by decide)) (fun (z : false = true) => nomatch z) (Z.glo__law_ratio) hk__law_ratio hb__law_ratio (DL.pa_cons (p_var 1) DL.pa_nil)))))
theorem w__law_passed {P : Program} {w : World} {K : Fr'} {mg : Str → Option Value} {base : Heap} (Z : Zx P w K mg base) : ∃ fd, FnD false P w K mg base 5 (He.ga K "_law_passed") fd ["pot", "pair"] (spD K (csK K) 2 d__law_passed) ∧ True ∧ PySem.W.keepIn K (.ref (He.ga K "_law_passed")) = true ∧ Binds K fd ["pot", "pair"] [] ∧ True := by
  obtain ⟨fd, D⟩ := Z.says.def_ 44 (d := z__law_passed)
  refine ⟨fd, fn_d (N := N__law_passed) D S__law_passed fun cdv A outer s H E hr hg => b__law_passed Z cdv A outer s H E hr hg, trivial, D.kp, D.bindsN (fun _ _ _ _ _ _ us hl => match us, hl with
    | [a0, a1], _ => rfl), trivial⟩
/-! _law_trim -/
def N__law_trim : List Str := ["line", "many"]
theorem S__law_trim : FnScope N__law_trim ["line"] (defScope (top 55)) := ⟨rfl, rfl, rfl, by decide +kernel, rfl, by decide +kernel, by decide +kernel⟩
def m__law_trim : MS := (mSeq (mSet 1 (mCall cLen (mCons (mVar 0) mNil))) (mSeq (mWhile (mAnd (mB (mBin dGt (mVar 1) (mC (.int 0)))) (mB (mBin (dEqF false) (mBin atD (mBin atD (mVar 0) (mBin dSubI (mVar 1) (mC (.int 1)))) (mC (.int 0))) (mC (.int 0))))) (mSet 1 (mBin dSubI (mVar 1) (mC (.int 1))))) (mRetO (oSlice (mVar 0) mNoP (mPart (mVar 1))))))
def d__law_trim : List D → Mo D := runD 2 m__law_trim
def o__law_trim : List D → Mo (List D) := runO 2 m__law_trim
theorem b__law_trim {P : Program} {w : World} {K : Fr'} {mg : Str → Option Value} {base : Heap} (Z : Zx P w K mg base) (cdv : Value) (A : Around) (outer : List Env) (s : Shared) (H : Hp) (E : XK) (hr : Room 0 (A.deeper (envOfC "_law_trim" (defScope (top 55)) s.heap.objs.size (He.ga K "_law_trim") cdv))) (hg : false = true → A.guards = some []) :
    PSsD (csK K) (cx0 P w K mg base N__law_trim "_law_trim" (defScope (top 55)) (He.ga K "_law_trim") cdv A outer s H E) (defBody (top 55)) m__law_trim := by
  exact (ss_cons (s_set 1 S__law_trim.nd (p_bltn ca_len Z.fr_len (DL.pa_cons (p_var 0) DL.pa_nil))) (ss_cons (s_while PassesOwn.never (PWD.pt (DL.pw_and (pt_cmp op_gtI (p_var 1) p_int rfl) (pw_one (pt_cmp (op_eqF false) (p_ix (p_ix (p_var 0) (p_bin op_subI (p_var 1) p_int)) p_int) p_int rfl)))) (ss_one (s_set 1 S__law_trim.nd (p_bin op_subI (p_var 1) p_int)))) (ss_one (s_retO (oSliceB ((p_var 0)).bo x_none (x_some (p_var 1)))))))
theorem w__law_trim {P : Program} {w : World} {K : Fr'} {mg : Str → Option Value} {base : Heap} (Z : Zx P w K mg base) : ∃ fd, FnD false P w K mg base 1 (He.ga K "_law_trim") fd ["line"] (spD K (csK K) 1 d__law_trim) ∧ FnD false P w K mg base 1 (He.ga K "_law_trim") fd ["line"] (spO K (csK K) 1 o__law_trim) ∧ PySem.W.keepIn K (.ref (He.ga K "_law_trim")) = true ∧ Binds K fd ["line"] [] ∧ True := by
  obtain ⟨fd, D⟩ := Z.says.def_ 45 (d := z__law_trim)
  refine ⟨fd, fn_d (N := N__law_trim) D S__law_trim fun cdv A outer s H E hr hg => b__law_trim Z cdv A outer s H E hr hg, fn_dO (N := N__law_trim) D S__law_trim fun cdv A outer s H E hr hg => b__law_trim Z cdv A outer s H E hr hg, D.kp, D.bindsN (fun _ _ _ _ _ _ us hl => match us, hl with
    | [a0], _ => rfl), trivial⟩
/-! _law_line -/
def N__law_line : List Str := ["pot", "most", "at"]
theorem S__law_line : FnScope N__law_line ["pot", "most"] (defScope (top 56)) := ⟨rfl, rfl, rfl, by decide +kernel, rfl, by decide +kernel, by decide +kernel⟩
def m__law_line : MS := (mRetO (mCallO (lenO 1 o__law_trim) (mCons (mLst (mLc (srcR1 (mCons (mCall (lenM 2 d__law_draw) (mCons (mVar 0) (mCons (mBin dAddI (mVar 1) (mC (.int 2))) mNil))) mNil)) [2] (tgN 2) mYes (mCall (lenM 2 d__law_number) (mCons (mVar 0) (mCons (mC (.int 6)) mNil))))) mNil)))
def d__law_line : List D → Mo D := runD 3 m__law_line
def o__law_line : List D → Mo (List D) := runO 3 m__law_line
theorem b__law_line {P : Program} {w : World} {K : Fr'} {mg : Str → Option Value} {base : Heap} (Z : Zx P w K mg base) (cdv : Value) (A : Around) (outer : List Env) (s : Shared) (H : Hp) (E : XK) (hr : Room 3 (A.deeper (envOfC "_law_line" (defScope (top 56)) s.heap.objs.size (He.ga K "_law_line") cdv))) (hg : false = true → A.guards = some []) :
    PSsD (csK K) (cx0 P w K mg base N__law_line "_law_line" (defScope (top 56)) (He.ga K "_law_line") cdv A outer s H E) (defBody (top 56)) m__law_line := by
  obtain ⟨fd__law_draw, F__law_draw, FO__law_draw, hk__law_draw, hb__law_draw, _⟩ := w__law_draw Z
  obtain ⟨fd__law_number, F__law_number, FO__law_number, hk__law_number, hb__law_number, _⟩ := w__law_number Z
  obtain ⟨fd__law_trim, F__law_trim, FO__law_trim, hk__law_trim, hb__law_trim, _⟩ := w__law_trim Z
  exact (ss_one (s_retO (p_callO FO__law_trim (hr.mono (by decide)) (fun (z : false = true) => nomatch z) (Z.glo__law_trim) hk__law_trim hb__law_trim (DL.pa_cons (POD.d (o_lc [("at", 2)] rfl S__law_line.nd (blkOk_by rfl) ((i_range1 Z.fr_range (DL.pa_cons (p_call F__law_draw (hr.mono (by decide)) (fun (z : false = true) => nomatch z) (Z.glo__law_draw) hk__law_draw hb__law_draw (DL.pa_cons (p_var 0) (DL.pa_cons (p_bin op_addI (p_var 1) p_int) DL.pa_nil))) DL.pa_nil))).j (fun _ _ _ _ _ => (g_name 2 S__law_line.nd)) (fun _ _ _ _ _ => ts_nil) (fun _ _ _ _ _ => (p_call F__law_number (hr.mono (by decide)) (fun (z : false = true) => nomatch z) (Z.glo__law_number) hk__law_number hb__law_number (DL.pa_cons (p_var 0) (DL.pa_cons p_int DL.pa_nil)))))) DL.pa_nil))))
theorem w__law_line {P : Program} {w : World} {K : Fr'} {mg : Str → Option Value} {base : Heap} (Z : Zx P w K mg base) : ∃ fd, FnD false P w K mg base 4 (He.ga K "_law_line") fd ["pot", "most"] (spD K (csK K) 2 d__law_line) ∧ FnD false P w K mg base 4 (He.ga K "_law_line") fd ["pot", "most"] (spO K (csK K) 2 o__law_line) ∧ PySem.W.keepIn K (.ref (He.ga K "_law_line")) = true ∧ Binds K fd ["pot", "most"] [] ∧ True := by
  obtain ⟨fd, D⟩ := Z.says.def_ 46 (d := z__law_line)
  refine ⟨fd, fn_d (N := N__law_line) D S__law_line fun cdv A outer s H E hr hg => b__law_line Z cdv A outer s H E hr hg, fn_dO (N := N__law_line) D S__law_line fun cdv A outer s H E hr hg => b__law_line Z cdv A outer s H E hr hg, D.kp, D.bindsN (fun _ _ _ _ _ _ us hl => match us, hl with
    | [a0, a1], _ => rfl), trivial⟩
/-! _law_given -/
def N__law_given : List Str := ["pot", "line", "found", "one"]
theorem S__law_given : FnScope N__law_given ["pot", "line"] (defScope (top 57)) := ⟨rfl, rfl, rfl, by decide +kernel, rfl, by decide +kernel, by decide +kernel⟩
def m__law_given : MS := (mSeq (mSet 2 (mLst (oCat (mLst (mLc (srcL (mVar 1)) [3] (tgN 3) mYes (mCall (lenM 2 d__law_passed) (mCons (mVar 0) (mCons (mVar 3) mNil))))) (mLst (oRep (mLst (mNew (mCons (mC (.int 0)) mNil))) (mIf (mB (mBin dLt (mCall cLen (mCons (mVar 1) mNil)) (mC (.int 29)))) (mCall (lenM 2 d__law_pick) (mCons (mVar 0) (mCons (mLst (mNew (mCons (mC (.int 0)) (mCons (mC (.int 0)) (mCons (mC (.int 1)) (mCons (mC (.int 2)) mNil)))))) mNil))) (mC (.int 0)))))))) (mRet (mIf (mB (mBin (dEqU false) (mCall (lenM 2 d__law_draw) (mCons (mVar 0) (mCons (mC (.int 4)) mNil))) (mC (.int 0)))) (mCall cTup (mCons (mVar 2) mNil)) (mVar 2))))
def d__law_given : List D → Mo D := runD 4 m__law_given
theorem b__law_given {P : Program} {w : World} {K : Fr'} {mg : Str → Option Value} {base : Heap} (Z : Zx P w K mg base) (cdv : Value) (A : Around) (outer : List Env) (s : Shared) (H : Hp) (E : XK) (hr : Room 5 (A.deeper (envOfC "_law_given" (defScope (top 57)) s.heap.objs.size (He.ga K "_law_given") cdv))) (hg : false = true → A.guards = some []) :
    PSsD (csK K) (cx0 P w K mg base N__law_given "_law_given" (defScope (top 57)) (He.ga K "_law_given") cdv A outer s H E) (defBody (top 57)) m__law_given := by
  obtain ⟨fd__law_draw, F__law_draw, FO__law_draw, hk__law_draw, hb__law_draw, _⟩ := w__law_draw Z
  obtain ⟨fd__law_passed, F__law_passed, FO__law_passed, hk__law_passed, hb__law_passed, _⟩ := w__law_passed Z
  obtain ⟨fd__law_pick, F__law_pick, FO__law_pick, hk__law_pick, hb__law_pick, _⟩ := w__law_pick Z
  exact (ss_cons (s_set 2 S__law_given.nd (POD.d (o_cat (POD.d (o_lc [("one", 3)] rfl S__law_given.nd (blkOk_by rfl) ((i_list (p_var 1))).j (fun _ _ _ _ _ => (g_name 3 S__law_given.nd)) (fun _ _ _ _ _ => ts_nil) (fun _ _ _ _ _ => (p_call F__law_passed (hr.mono (by decide)) (fun (z : false = true) => nomatch z) (Z.glo__law_passed) hk__law_passed hb__law_passed (DL.pa_cons (p_var 0) (DL.pa_cons (p_var 3) DL.pa_nil)))))) (POD.d (o_rep (POD.d (o_lst (DL.pa_cons p_int DL.pa_nil))) (p_if (pt_cmp op_ltI (p_bltn ca_len Z.fr_len (DL.pa_cons (p_var 1) DL.pa_nil)) p_int rfl) (p_call F__law_pick (hr.mono (by decide)) (fun (z : false = true) => nomatch z) (Z.glo__law_pick) hk__law_pick hb__law_pick (DL.pa_cons (p_var 0) (DL.pa_cons (POD.d (o_lst (DL.pa_cons p_int (DL.pa_cons p_int (DL.pa_cons p_int (DL.pa_cons p_int DL.pa_nil)))))) DL.pa_nil))) p_int)))))) (ss_one (s_ret (p_if (pt_cmp (op_eqU Z (hr.mono (by decide)) false) (p_call F__law_draw (hr.mono (by decide)) (fun (z : false = true) => nomatch z) (Z.glo__law_draw) hk__law_draw hb__law_draw (DL.pa_cons (p_var 0) (DL.pa_cons p_int DL.pa_nil))) p_int rfl) (p_type ca_tup Z.fr_tuple (DL.pa_cons (p_var 2) DL.pa_nil)) (p_var 2)))))
theorem w__law_given {P : Program} {w : World} {K : Fr'} {mg : Str → Option Value} {base : Heap} (Z : Zx P w K mg base) : ∃ fd, FnD false P w K mg base 6 (He.ga K "_law_given") fd ["pot", "line"] (spD K (csK K) 2 d__law_given) ∧ True ∧ PySem.W.keepIn K (.ref (He.ga K "_law_given")) = true ∧ Binds K fd ["pot", "line"] [] ∧ True := by
  obtain ⟨fd, D⟩ := Z.says.def_ 47 (d := z__law_given)
  refine ⟨fd, fn_d (N := N__law_given) D S__law_given fun cdv A outer s H E hr hg => b__law_given Z cdv A outer s H E hr hg, trivial, D.kp, D.bindsN (fun _ _ _ _ _ _ us hl => match us, hl with
    | [a0, a1], _ => rfl), trivial⟩
/-! _law_line_sum -/
def N__law_line_sum : List Str := ["one", "other", "found", "at"]
theorem S__law_line_sum : FnScope N__law_line_sum ["one", "other"] (defScope (top 58)) := ⟨rfl, rfl, rfl, by decide +kernel, rfl, by decide +kernel, by decide +kernel⟩
def m__law_line_sum : MS := (mSeq (mSetO 2 (mNew mNil)) (mSeq (mFor (srcR1 (mCons (mCall cMax2 (mCons (mCall cLen (mCons (mVar 0) mNil)) (mCons (mCall cLen (mCons (mVar 1) mNil)) mNil))) mNil)) (tgN 3) (mApp 2 (mCall (lenM 2 d__law_sum) (mCons (mIf (mB (mBin dLt (mVar 3) (mCall cLen (mCons (mVar 0) mNil)))) (mBin atD (mVar 0) (mVar 3)) (mTup (mCons (mC (.int 0)) (mCons (mC (.int 1)) mNil)))) (mCons (mIf (mB (mBin dLt (mVar 3) (mCall cLen (mCons (mVar 1) mNil)))) (mBin atD (mVar 1) (mVar 3)) (mTup (mCons (mC (.int 0)) (mCons (mC (.int 1)) mNil)))) mNil))))) (mFrz 2 (mRetO (mCallO (lenO 1 o__law_trim) (mCons (mVar 2) mNil))))))
def d__law_line_sum : List D → Mo D := runD 4 m__law_line_sum
def o__law_line_sum : List D → Mo (List D) := runO 4 m__law_line_sum
theorem b__law_line_sum {P : Program} {w : World} {K : Fr'} {mg : Str → Option Value} {base : Heap} (Z : Zx P w K mg base) (cdv : Value) (A : Around) (outer : List Env) (s : Shared) (H : Hp) (E : XK) (hr : Room 2 (A.deeper (envOfC "_law_line_sum" (defScope (top 58)) s.heap.objs.size (He.ga K "_law_line_sum") cdv))) (hg : false = true → A.guards = some []) :
    PSsD (csK K) (cx0 P w K mg base N__law_line_sum "_law_line_sum" (defScope (top 58)) (He.ga K "_law_line_sum") cdv A outer s H E) (defBody (top 58)) m__law_line_sum := by
  obtain ⟨fd__law_sum, F__law_sum, FO__law_sum, hk__law_sum, hb__law_sum, _⟩ := w__law_sum Z
  obtain ⟨fd__law_trim, F__law_trim, FO__law_trim, hk__law_trim, hb__law_trim, _⟩ := w__law_trim Z
  exact (ss_cons (s_setO 2 S__law_line_sum.nd (o_lst DL.pa_nil)) (ss_cons (s_for PassesOwn.never rfl (i_range1 Z.fr_range (DL.pa_cons (p_bltn (ca_max2 rfl) Z.fr_max (DL.pa_cons (p_bltn ca_len Z.fr_len (DL.pa_cons (p_var 0) DL.pa_nil)) (DL.pa_cons (p_bltn ca_len Z.fr_len (DL.pa_cons (p_var 1) DL.pa_nil)) DL.pa_nil))) DL.pa_nil)) (g_name 3 S__law_line_sum.nd) (ss_one (s_app 2 (p_call F__law_sum (hr.mono (by decide)) (fun (z : false = true) => nomatch z) (Z.glo__law_sum) hk__law_sum hb__law_sum (DL.pa_cons (p_if (pt_cmp op_ltI (p_var 3) (p_bltn ca_len Z.fr_len (DL.pa_cons (p_var 0) DL.pa_nil)) rfl) (p_ix (p_var 0) (p_var 3)) (p_tup (DL.pa_cons p_int (DL.pa_cons p_int DL.pa_nil)))) (DL.pa_cons (p_if (pt_cmp op_ltI (p_var 3) (p_bltn ca_len Z.fr_len (DL.pa_cons (p_var 1) DL.pa_nil)) rfl) (p_ix (p_var 1) (p_var 3)) (p_tup (DL.pa_cons p_int (DL.pa_cons p_int DL.pa_nil)))) DL.pa_nil)))))) (ss_frz 2 (ss_one (s_retO (p_callO FO__law_trim (hr.mono (by decide)) (fun (z : false = true) => nomatch z) (Z.glo__law_trim) hk__law_trim hb__law_trim (DL.pa_cons (p_var 2) DL.pa_nil)))))))
theorem w__law_line_sum {P : Program} {w : World} {K : Fr'} {mg : Str → Option Value} {base : Heap} (Z : Zx P w K mg base) : ∃ fd, FnD false P w K mg base 3 (He.ga K "_law_line_sum") fd ["one", "other"] (spD K (csK K) 2 d__law_line_sum) ∧ FnD false P w K mg base 3 (He.ga K "_law_line_sum") fd ["one", "other"] (spO K (csK K) 2 o__law_line_sum) ∧ PySem.W.keepIn K (.ref (He.ga K "_law_line_sum")) = true ∧ Binds K fd ["one", "other"] [] ∧ True := by
  obtain ⟨fd, D⟩ := Z.says.def_ 48 (d := z__law_line_sum)
  refine ⟨fd, fn_d (N := N__law_line_sum) D S__law_line_sum fun cdv A outer s H E hr hg => b__law_line_sum Z cdv A outer s H E hr hg, fn_dO (N := N__law_line_sum) D S__law_line_sum fun cdv A outer s H E hr hg => b__law_line_sum Z cdv A outer s H E hr hg, D.kp, D.bindsN (fun _ _ _ _ _ _ us hl => match us, hl with
    | [a0, a1], _ => rfl), trivial⟩
/-! _law_line_scaled -/
def N__law_line_scaled : List Str := ["one", "number", "part"]
theorem S__law_line_scaled : FnScope N__law_line_scaled ["one", "number"] (defScope (top 59)) := ⟨rfl, rfl, rfl, by decide +kernel, rfl, by decide +kernel, by decide +kernel⟩
def m__law_line_scaled : MS := (mRetO (mCallO (lenO 1 o__law_trim) (mCons (mLst (mLc (srcL (mVar 0)) [2] (tgN 2) mYes (mCall (lenM 2 d__law_by) (mCons (mVar 2) (mCons (mVar 1) mNil))))) mNil)))
def d__law_line_scaled : List D → Mo D := runD 3 m__law_line_scaled
def o__law_line_scaled : List D → Mo (List D) := runO 3 m__law_line_scaled
theorem b__law_line_scaled {P : Program} {w : World} {K : Fr'} {mg : Str → Option Value} {base : Heap} (Z : Zx P w K mg base) (cdv : Value) (A : Around) (outer : List Env) (s : Shared) (H : Hp) (E : XK) (hr : Room 2 (A.deeper (envOfC "_law_line_scaled" (defScope (top 59)) s.heap.objs.size (He.ga K "_law_line_scaled") cdv))) (hg : false = true → A.guards = some []) :
    PSsD (csK K) (cx0 P w K mg base N__law_line_scaled "_law_line_scaled" (defScope (top 59)) (He.ga K "_law_line_scaled") cdv A outer s H E) (defBody (top 59)) m__law_line_scaled := by
  obtain ⟨fd__law_by, F__law_by, FO__law_by, hk__law_by, hb__law_by, _⟩ := w__law_by Z
  obtain ⟨fd__law_trim, F__law_trim, FO__law_trim, hk__law_trim, hb__law_trim, _⟩ := w__law_trim Z
  exact (ss_one (s_retO (p_callO FO__law_trim (hr.mono (by decide)) (fun (z : false = true) => nomatch z) (Z.glo__law_trim) hk__law_trim hb__law_trim (DL.pa_cons (POD.d (o_lc [("part", 2)] rfl S__law_line_scaled.nd (blkOk_by rfl) ((i_list (p_var 0))).j (fun _ _ _ _ _ => (g_name 2 S__law_line_scaled.nd)) (fun _ _ _ _ _ => ts_nil) (fun _ _ _ _ _ => (p_call F__law_by (hr.mono (by decide)) (fun (z : false = true) => nomatch z) (Z.glo__law_by) hk__law_by hb__law_by (DL.pa_cons (p_var 2) (DL.pa_cons (p_var 1) DL.pa_nil)))))) DL.pa_nil))))
theorem w__law_line_scaled {P : Program} {w : World} {K : Fr'} {mg : Str → Option Value} {base : Heap} (Z : Zx P w K mg base) : ∃ fd, FnD false P w K mg base 3 (He.ga K "_law_line_scaled") fd ["one", "number"] (spD K (csK K) 2 d__law_line_scaled) ∧ FnD false P w K mg base 3 (He.ga K "_law_line_scaled") fd ["one", "number"] (spO K (csK K) 2 o__law_line_scaled) ∧ PySem.W.keepIn K (.ref (He.ga K "_law_line_scaled")) = true ∧ Binds K fd ["one", "number"] [] ∧ True := by
  obtain ⟨fd, D⟩ := Z.says.def_ 49 (d := z__law_line_scaled)
  refine ⟨fd, fn_d (N := N__law_line_scaled) D S__law_line_scaled fun cdv A outer s H E hr hg => b__law_line_scaled Z cdv A outer s H E hr hg, fn_dO (N := N__law_line_scaled) D S__law_line_scaled fun cdv A outer s H E hr hg => b__law_line_scaled Z cdv A outer s H E hr hg, D.kp, D.bindsN (fun _ _ _ _ _ _ us hl => match us, hl with
    | [a0, a1], _ => rfl), trivial⟩
/-! _law_line_by -/
def N__law_line_by : List Str := ["one", "other", "found", "at", "part", "to", "more"]
theorem S__law_line_by : FnScope N__law_line_by ["one", "other"] (defScope (top 60)) := ⟨rfl, rfl, rfl, by decide +kernel, rfl, by decide +kernel, by decide +kernel⟩
def m__law_line_by : MS := (mSeq (mSetO 2 (oRep (mLst (mNew (mCons (mTup (mCons (mC (.int 0)) (mCons (mC (.int 1)) mNil))) mNil))) (mCall cMax2 (mCons (mC (.int 0)) (mCons (mBin dSubI (mBin dAddI (mCall cLen (mCons (mVar 0) mNil)) (mCall cLen (mCons (mVar 1) mNil))) (mC (.int 1))) mNil))))) (mSeq (mFor (srcE (mCons (mVar 0) mNil)) (tgTup 2 (tgCons (tgN 3) (tgCons (tgN 4) tgNil))) (mFor (srcE (mCons (mVar 1) mNil)) (tgTup 2 (tgCons (tgN 5) (tgCons (tgN 6) tgNil))) (mSetIx 2 (mCall (lenM 2 d__law_sum) (mCons (mBin atD (mVarB 2) (mBin dAddI (mVar 3) (mVar 5))) (mCons (mCall (lenM 2 d__law_by) (mCons (mVar 4) (mCons (mVar 6) mNil))) mNil))) (mBin dAddI (mVar 3) (mVar 5))))) (mFrz 2 (mRetO (mCallO (lenO 1 o__law_trim) (mCons (mVar 2) mNil))))))
def d__law_line_by : List D → Mo D := runD 7 m__law_line_by
def o__law_line_by : List D → Mo (List D) := runO 7 m__law_line_by
theorem b__law_line_by {P : Program} {w : World} {K : Fr'} {mg : Str → Option Value} {base : Heap} (Z : Zx P w K mg base) (cdv : Value) (A : Around) (outer : List Env) (s : Shared) (H : Hp) (E : XK) (hr : Room 2 (A.deeper (envOfC "_law_line_by" (defScope (top 60)) s.heap.objs.size (He.ga K "_law_line_by") cdv))) (hg : false = true → A.guards = some []) :
    PSsD (csK K) (cx0 P w K mg base N__law_line_by "_law_line_by" (defScope (top 60)) (He.ga K "_law_line_by") cdv A outer s H E) (defBody (top 60)) m__law_line_by := by
  obtain ⟨fd__law_by, F__law_by, FO__law_by, hk__law_by, hb__law_by, _⟩ := w__law_by Z
  obtain ⟨fd__law_sum, F__law_sum, FO__law_sum, hk__law_sum, hb__law_sum, _⟩ := w__law_sum Z
  obtain ⟨fd__law_trim, F__law_trim, FO__law_trim, hk__law_trim, hb__law_trim, _⟩ := w__law_trim Z
  exact (ss_cons (s_setO 2 S__law_line_by.nd (o_rep (POD.d (o_lst (DL.pa_cons (p_tup (DL.pa_cons p_int (DL.pa_cons p_int DL.pa_nil))) DL.pa_nil))) (p_bltn (ca_max2 rfl) Z.fr_max (DL.pa_cons p_int (DL.pa_cons (p_bin op_subI (p_bin op_addI (p_bltn ca_len Z.fr_len (DL.pa_cons (p_var 0) DL.pa_nil)) (p_bltn ca_len Z.fr_len (DL.pa_cons (p_var 1) DL.pa_nil))) p_int) DL.pa_nil))))) (ss_cons (s_for PassesOwn.never rfl (i_enum Z.fr_enumerate (DL.pa_cons (p_var 0) DL.pa_nil)) (g_tup rfl (gs_cons (g_name 3 S__law_line_by.nd) (gs_cons (g_name 4 S__law_line_by.nd) gs_nil))) (ss_one (s_for PassesOwn.never rfl (i_enum Z.fr_enumerate (DL.pa_cons (p_var 1) DL.pa_nil)) (g_tup rfl (gs_cons (g_name 5 S__law_line_by.nd) (gs_cons (g_name 6 S__law_line_by.nd) gs_nil))) (ss_one (s_setIx 2 (p_call F__law_sum (hr.mono (by decide)) (fun (z : false = true) => nomatch z) (Z.glo__law_sum) hk__law_sum hb__law_sum (DL.pa_cons (p_ixB (b_var 2) (p_bin op_addI (p_var 3) (p_var 5))) (DL.pa_cons (p_call F__law_by (hr.mono (by decide)) (fun (z : false = true) => nomatch z) (Z.glo__law_by) hk__law_by hb__law_by (DL.pa_cons (p_var 4) (DL.pa_cons (p_var 6) DL.pa_nil))) DL.pa_nil))) (p_bin op_addI (p_var 3) (p_var 5))))))) (ss_frz 2 (ss_one (s_retO (p_callO FO__law_trim (hr.mono (by decide)) (fun (z : false = true) => nomatch z) (Z.glo__law_trim) hk__law_trim hb__law_trim (DL.pa_cons (p_var 2) DL.pa_nil)))))))
theorem w__law_line_by {P : Program} {w : World} {K : Fr'} {mg : Str → Option Value} {base : Heap} (Z : Zx P w K mg base) : ∃ fd, FnD false P w K mg base 3 (He.ga K "_law_line_by") fd ["one", "other"] (spD K (csK K) 2 d__law_line_by) ∧ FnD false P w K mg base 3 (He.ga K "_law_line_by") fd ["one", "other"] (spO K (csK K) 2 o__law_line_by) ∧ PySem.W.keepIn K (.ref (He.ga K "_law_line_by")) = true ∧ Binds K fd ["one", "other"] [] ∧ True := by
  obtain ⟨fd, D⟩ := Z.says.def_ 50 (d := z__law_line_by)
  refine ⟨fd, fn_d (N := N__law_line_by) D S__law_line_by fun cdv A outer s H E hr hg => b__law_line_by Z cdv A outer s H E hr hg, fn_dO (N := N__law_line_by) D S__law_line_by fun cdv A outer s H E hr hg => b__law_line_by Z cdv A outer s H E hr hg, D.kp, D.bindsN (fun _ _ _ _ _ _ us hl => match us, hl with
    | [a0, a1], _ => rfl), trivial⟩
/-! _law_line_at -/
def N__law_line_at : List Str := ["line", "number", "found", "part"]
theorem S__law_line_at : FnScope N__law_line_at ["line", "number"] (defScope (top 61)) := ⟨rfl, rfl, rfl, by decide +kernel, rfl, by decide +kernel, by decide +kernel⟩
def m__law_line_at : MS := (mSeq (mSet 2 (mTup (mCons (mC (.int 0)) (mCons (mC (.int 1)) mNil)))) (mSeq (mFor (srcL (mLst (oRev (mVar 0)))) (tgN 3) (mSet 2 (mCall (lenM 2 d__law_sum) (mCons (mCall (lenM 2 d__law_by) (mCons (mVar 2) (mCons (mVar 1) mNil))) (mCons (mVar 3) mNil))))) (mRet (mVar 2))))
def d__law_line_at : List D → Mo D := runD 4 m__law_line_at
theorem b__law_line_at {P : Program} {w : World} {K : Fr'} {mg : Str → Option Value} {base : Heap} (Z : Zx P w K mg base) (cdv : Value) (A : Around) (outer : List Env) (s : Shared) (H : Hp) (E : XK) (hr : Room 2 (A.deeper (envOfC "_law_line_at" (defScope (top 61)) s.heap.objs.size (He.ga K "_law_line_at") cdv))) (hg : false = true → A.guards = some []) :
    PSsD (csK K) (cx0 P w K mg base N__law_line_at "_law_line_at" (defScope (top 61)) (He.ga K "_law_line_at") cdv A outer s H E) (defBody (top 61)) m__law_line_at := by
  obtain ⟨fd__law_by, F__law_by, FO__law_by, hk__law_by, hb__law_by, _⟩ := w__law_by Z
  obtain ⟨fd__law_sum, F__law_sum, FO__law_sum, hk__law_sum, hb__law_sum, _⟩ := w__law_sum Z
  exact (ss_cons (s_set 2 S__law_line_at.nd (p_tup (DL.pa_cons p_int (DL.pa_cons p_int DL.pa_nil)))) (ss_cons (s_for PassesOwn.never rfl (i_list (POD.d (oRevB ((p_var 0)).bo))) (g_name 3 S__law_line_at.nd) (ss_one (s_set 2 S__law_line_at.nd (p_call F__law_sum (hr.mono (by decide)) (fun (z : false = true) => nomatch z) (Z.glo__law_sum) hk__law_sum hb__law_sum (DL.pa_cons (p_call F__law_by (hr.mono (by decide)) (fun (z : false = true) => nomatch z) (Z.glo__law_by) hk__law_by hb__law_by (DL.pa_cons (p_var 2) (DL.pa_cons (p_var 1) DL.pa_nil))) (DL.pa_cons (p_var 3) DL.pa_nil)))))) (ss_one (s_ret (p_var 2)))))
theorem w__law_line_at {P : Program} {w : World} {K : Fr'} {mg : Str → Option Value} {base : Heap} (Z : Zx P w K mg base) : ∃ fd, FnD false P w K mg base 3 (He.ga K "_law_line_at") fd ["line", "number"] (spD K (csK K) 2 d__law_line_at) ∧ True ∧ PySem.W.keepIn K (.ref (He.ga K "_law_line_at")) = true ∧ Binds K fd ["line", "number"] [] ∧ True := by
  obtain ⟨fd, D⟩ := Z.says.def_ 51 (d := z__law_line_at)
  refine ⟨fd, fn_d (N := N__law_line_at) D S__law_line_at fun cdv A outer s H E hr hg => b__law_line_at Z cdv A outer s H E hr hg, trivial, D.kp, D.bindsN (fun _ _ _ _ _ _ us hl => match us, hl with
    | [a0, a1], _ => rfl), trivial⟩
/-! _law_is_line -/
def N__law_is_line : List Str := ["kept", "line", "one"]
theorem S__law_is_line : FnScope N__law_is_line ["kept", "line"] (defScope (top 62)) := ⟨rfl, rfl, rfl, by decide +kernel, rfl, by decide +kernel, by decide +kernel⟩
def m__law_is_line : MS := (mRet (mTV (mAnd (mB (mIsT "list" (mVar 0))) (mB (mBin (dEqU false) (mCall cReprU (mCons (mVar 0) mNil)) (mCall cReprU (mCons (mLst (mLc (srcL (mVar 1)) [2] (tgN 2) mYes (mCall (lenM 1 d__law_ratio) (mCons (mVar 2) mNil)))) mNil)))))))
def d__law_is_line : List D → Mo D := runD 3 m__law_is_line
theorem b__law_is_line {P : Program} {w : World} {K : Fr'} {mg : Str → Option Value} {base : Heap} (Z : Zx P w K mg base) (cdv : Value) (A : Around) (outer : List Env) (s : Shared) (H : Hp) (E : XK) (hr : Room 7 (A.deeper (envOfC "_law_is_line" (defScope (top 62)) s.heap.objs.size (He.ga K "_law_is_line") cdv))) (hg : true = true → A.guards = some []) :
    PSsD (csK K) (cx0 P w K mg base N__law_is_line "_law_is_line" (defScope (top 62)) (He.ga K "_law_is_line") cdv A outer s H E) (defBody (top 62)) m__law_is_line := by
  obtain ⟨fd__law_ratio, F__law_ratio, FO__law_ratio, hk__law_ratio, hb__law_ratio, _⟩ := w__law_ratio Z
  exact (ss_one (s_ret (p_and (p_isT "list" Z.isi Z.fr_isinstance Z.fr_list (p_var 0)) (p_one (p_cmp (op_eqU Z (hr.mono (by decide)) false) (p_bltn (ca_reprU Z (hr.mono (by decide)) (hg rfl)) Z.fr_repr (DL.pa_cons (p_var 0) DL.pa_nil)) (p_bltn (ca_reprU Z (hr.mono (by decide)) (hg rfl)) Z.fr_repr (DL.pa_cons (POD.d (o_lc [("one", 2)] rfl S__law_is_line.nd (blkOk_by rfl) ((i_list (p_var 1))).j (fun _ _ _ _ _ => (g_name 2 S__law_is_line.nd)) (fun _ _ _ _ _ => ts_nil) (fun _ _ _ _ _ => (p_call F__law_ratio (hr.mono (by decide)) (fun (z : false = true) => nomatch z) (Z.glo__law_ratio) hk__law_ratio hb__law_ratio (DL.pa_cons (p_var 2) DL.pa_nil))))) DL.pa_nil)) rfl)))))
theorem w__law_is_line {P : Program} {w : World} {K : Fr'} {mg : Str → Option Value} {base : Heap} (Z : Zx P w K mg base) : ∃ fd, FnD true P w K mg base 8 (He.ga K "_law_is_line") fd ["kept", "line"] (spD K (csK K) 2 d__law_is_line) ∧ True ∧ PySem.W.keepIn K (.ref (He.ga K "_law_is_line")) = true ∧ Binds K fd ["kept", "line"] [] ∧ True := by
  obtain ⟨fd, D⟩ := Z.says.def_ 52 (d := z__law_is_line)
  refine ⟨fd, fn_d (N := N__law_is_line) D S__law_is_line fun cdv A outer s H E hr hg => b__law_is_line Z cdv A outer s H E hr hg, trivial, D.kp, D.bindsN (fun _ _ _ _ _ _ us hl => match us, hl with
    | [a0, a1], _ => rfl), trivial⟩
/-! _law_one_right -/
def N__law_one_right : List Str := ["pot", "line", "given", "number", "passed", "shown", "due", "near", "first", "at"]
theorem S__law_one_right : FnScope N__law_one_right ["pot", "line"] (defScope (top 63)) := ⟨rfl, rfl, rfl, by decide +kernel, rfl, by decide +kernel, by decide +kernel⟩
def m__law_one_right : MS := (mSeq (mPar 2 3 (mCons (mCall (lenM 2 d__law_given) (mCons (mVar 0) (mCons (mVar 1) mNil))) (mCons (mCall (lenM 2 d__law_number) (mCons (mVar 0) (mCons (mC (.int 9)) mNil))) mNil))) (mSeq (mPar 4 5 (mCons (mCall (lenM 2 d__law_passed) (mCons (mVar 0) (mCons (mVar 3) mNil))) (mCons (mCall cReprU (mCons (mVar 2) mNil)) mNil))) (mSeq (mIfS (mOr (mNot (mB (mCall (lenM 2 d__law_is_line) (mCons (mLst (mCallO (lenO 1 o_told) (mCons (mVar 2) mNil))) (mCons (mVar 1) mNil))))) (mB (mBin (dEqU true) (mCall cReprU (mCons (mCall (lenM 1 d_degree) (mCons (mVar 2) mNil)) mNil)) (mCall cStr (mCons (mBin dSubU (mCall cLen (mCons (mVar 1) mNil)) (mC (.int 1))) mNil))))) (mRet (mC (.bl false))) mNx) (mSeq (mIfS (mNot (mB (mCall (lenM 2 d__law_is_line) (mCons (mLst (mCallO (lenO 2 o_scaled) (mCons (mVar 2) (mCons (mVar 4) mNil)))) (mCons (mLst (mCallO (lenO 2 o__law_line_scaled) (mCons (mVar 1) (mCons (mVar 3) mNil)))) mNil))))) (mRet (mC (.bl false))) mNx) (mSeq (mIfS (mB (mBin (dEqU true) (mCall (pickM 2 [1, 0] d_scaled) (mCons (mVar 4) (mCons (mVar 2) mNil))) (mLst (mCallO (lenO 2 o_scaled) (mCons (mVar 2) (mCons (mVar 4) mNil)))))) (mRet (mC (.bl false))) mNx) (mSeq (mSet 6 (mLst (mCallO (lenO 1 o__law_trim) (mCons (mLst (mLc (srcR2 (mCons (mC (.int 1)) (mCons (mCall cLen (mCons (mVar 1) mNil)) mNil))) [9] (tgN 9) mYes (mCall (lenM 2 d__law_by) (mCons (mBin atD (mVar 1) (mVar 9)) (mCons (mTup (mCons (mVar 9) (mCons (mC (.int 1)) mNil))) mNil))))) mNil)))) (mSeq (mIfS (mOr (mNot (mB (mCall (lenM 2 d__law_is_line) (mCons (mLst (mCallO (lenO 1 o_derived) (mCons (mVar 2) mNil))) (mCons (mVar 6) mNil))))) (mB (mBin (dEqU true) (mCall (pickM 1 [0] d_derived) (mCons (mVar 2) mNil)) (mLst (mCallO (lenO 1 o_derived) (mCons (mVar 2) mNil)))))) (mRet (mC (.bl false))) mNx) (mSeq (mSet 7 (mCall (lenM 2 d_worth) (mCons (mVar 2) (mCons (mVar 4) mNil)))) (mSeq (mIfS (mOr (mB (mBin (dEqU true) (mCall cReprU (mCons (mVar 7) mNil)) (mCall cReprU (mCons (mCall (lenM 1 d__law_ratio) (mCons (mCall (lenM 2 d__law_line_at) (mCons (mVar 1) (mCons (mVar 3) mNil))) mNil)) mNil)))) (mB (mBin (dEqU true) (mCall (pickM 2 [1, 0] d_worth) (mCons (mVar 4) (mCons (mVar 2) mNil))) (mVar 7)))) (mRet (mC (.bl false))) mNx) (mSeq (mSetO 8 (mCallO (lenO 1 o_told) (mCons (mVar 2) mNil))) (mSeq (mApp 8 (mCall (mk_Ratio_1 d_Ratio___init__) (mCons (mC (.int 7)) mNil))) (mRet (mTV (mAnd (mB (mCall (lenM 2 d__law_is_line) (mCons (mCall (pickM 1 [0] d_told) (mCons (mVar 2) mNil)) (mCons (mVar 1) mNil)))) (mB (mBin (dEqU false) (mCall cReprU (mCons (mVar 2) mNil)) (mVar 5)))))))))))))))))
def d__law_one_right : List D → Mo D := runD 10 m__law_one_right
theorem b__law_one_right {P : Program} {w : World} {K : Fr'} {mg : Str → Option Value} {base : Heap} (Z : Zx P w K mg base) (cdv : Value) (A : Around) (outer : List Env) (s : Shared) (H : Hp) (E : XK) (hr : Room 8 (A.deeper (envOfC "_law_one_right" (defScope (top 63)) s.heap.objs.size (He.ga K "_law_one_right") cdv))) (hg : true = true → A.guards = some []) :
    PSsD (csK K) (cx0 P w K mg base N__law_one_right "_law_one_right" (defScope (top 63)) (He.ga K "_law_one_right") cdv A outer s H E) (defBody (top 63)) m__law_one_right := by
  obtain ⟨fd__law_by, F__law_by, FO__law_by, hk__law_by, hb__law_by, _⟩ := w__law_by Z
  obtain ⟨fd__law_given, F__law_given, FO__law_given, hk__law_given, hb__law_given, _⟩ := w__law_given Z
  obtain ⟨fd__law_is_line, F__law_is_line, FO__law_is_line, hk__law_is_line, hb__law_is_line, _⟩ := w__law_is_line Z
  obtain ⟨fd__law_line_at, F__law_line_at, FO__law_line_at, hk__law_line_at, hb__law_line_at, _⟩ := w__law_line_at Z
  obtain ⟨fd__law_line_scaled, F__law_line_scaled, FO__law_line_scaled, hk__law_line_scaled, hb__law_line_scaled, _⟩ := w__law_line_scaled Z
  obtain ⟨fd__law_number, F__law_number, FO__law_number, hk__law_number, hb__law_number, _⟩ := w__law_number Z
  obtain ⟨fd__law_passed, F__law_passed, FO__law_passed, hk__law_passed, hb__law_passed, _⟩ := w__law_passed Z
  obtain ⟨fd__law_ratio, F__law_ratio, FO__law_ratio, hk__law_ratio, hb__law_ratio, _⟩ := w__law_ratio Z
  obtain ⟨fd__law_trim, F__law_trim, FO__law_trim, hk__law_trim, hb__law_trim, _⟩ := w__law_trim Z
  obtain ⟨fd_degree, F_degree, FO_degree, hk_degree, hb_degree, _⟩ := w_degree Z
  obtain ⟨fd_derived, F_derived, FO_derived, hk_derived, hb_derived, kw_derived_0, _⟩ := w_derived Z
  obtain ⟨fd_scaled, F_scaled, FO_scaled, hk_scaled, hb_scaled, kw_scaled_0, _⟩ := w_scaled Z
  obtain ⟨fd_told, F_told, FO_told, hk_told, hb_told, kw_told_0, _⟩ := w_told Z
  obtain ⟨fd_worth, F_worth, FO_worth, hk_worth, hb_worth, kw_worth_0, _⟩ := w_worth Z
  exact (ss_cons (s_par 2 3 rfl S__law_one_right.nd (DL.pa_cons (p_call F__law_given (hr.mono (by decide)) (fun (z : false = true) => nomatch z) (Z.glo__law_given) hk__law_given hb__law_given (DL.pa_cons (p_var 0) (DL.pa_cons (p_var 1) DL.pa_nil))) (DL.pa_cons (p_call F__law_number (hr.mono (by decide)) (fun (z : false = true) => nomatch z) (Z.glo__law_number) hk__law_number hb__law_number (DL.pa_cons (p_var 0) (DL.pa_cons p_int DL.pa_nil))) DL.pa_nil)) rfl) (ss_cons (s_par 4 5 rfl S__law_one_right.nd (DL.pa_cons (p_call F__law_passed (hr.mono (by decide)) (fun (z : false = true) => nomatch z) (Z.glo__law_passed) hk__law_passed hb__law_passed (DL.pa_cons (p_var 0) (DL.pa_cons (p_var 3) DL.pa_nil))) (DL.pa_cons (p_bltn (ca_reprU Z (hr.mono (by decide)) (hg rfl)) Z.fr_repr (DL.pa_cons (p_var 2) DL.pa_nil)) DL.pa_nil)) rfl) (ss_cons (s_if (PWD.pt (DL.pw_or (DL.pt_not (pt_v (p_call F__law_is_line (hr.mono (by decide)) (fun _ => hg rfl) (Z.glo__law_is_line) hk__law_is_line hb__law_is_line (DL.pa_cons (POD.d (p_callO FO_told (hr.mono (by decide)) (fun (z : false = true) => nomatch z) (Z.glo_told) hk_told hb_told (DL.pa_cons (p_var 2) DL.pa_nil))) (DL.pa_cons (p_var 1) DL.pa_nil))))) (pw_one (pt_cmp (op_eqU Z (hr.mono (by decide)) true) (p_bltn (ca_reprU Z (hr.mono (by decide)) (hg rfl)) Z.fr_repr (DL.pa_cons (p_call F_degree (hr.mono (by decide)) (fun (z : false = true) => nomatch z) (Z.glo_degree) hk_degree hb_degree (DL.pa_cons (p_var 2) DL.pa_nil)) DL.pa_nil)) (p_type ca_str Z.fr_str (DL.pa_cons (p_bin (op_subU Z (hr.mono (by decide))) (p_bltn ca_len Z.fr_len (DL.pa_cons (p_var 1) DL.pa_nil)) p_int) DL.pa_nil)) rfl)))) (ss_one (s_ret p_bl)) ss_nil) (ss_cons (s_if (DL.pt_not (pt_v (p_call F__law_is_line (hr.mono (by decide)) (fun _ => hg rfl) (Z.glo__law_is_line) hk__law_is_line hb__law_is_line (DL.pa_cons (POD.d (p_callO FO_scaled (hr.mono (by decide)) (fun (z : false = true) => nomatch z) (Z.glo_scaled) hk_scaled hb_scaled (DL.pa_cons (p_var 2) (DL.pa_cons (p_var 4) DL.pa_nil)))) (DL.pa_cons (POD.d (p_callO FO__law_line_scaled (hr.mono (by decide)) (fun (z : false = true) => nomatch z) (Z.glo__law_line_scaled) hk__law_line_scaled hb__law_line_scaled (DL.pa_cons (p_var 1) (DL.pa_cons (p_var 3) DL.pa_nil)))) DL.pa_nil))))) (ss_one (s_ret p_bl)) ss_nil) (ss_cons (s_if (pt_cmp (op_eqU Z (hr.mono (by decide)) true) (p_callK (ks := ["number", "line"]) (ix := [1, 0]) F_scaled (hr.mono (by decide)) (fun (z : false = true) => nomatch z) (Z.glo_scaled) hk_scaled kw_scaled_0 (k_cons (p_var 4) (k_cons (p_var 2) k_nil))) (POD.d (p_callO FO_scaled (hr.mono (by decide)) (fun (z : false = true) => nomatch z) (Z.glo_scaled) hk_scaled hb_scaled (DL.pa_cons (p_var 2) (DL.pa_cons (p_var 4) DL.pa_nil)))) rfl) (ss_one (s_ret p_bl)) ss_nil) (ss_cons (s_set 6 S__law_one_right.nd (POD.d (p_callO FO__law_trim (hr.mono (by decide)) (fun (z : false = true) => nomatch z) (Z.glo__law_trim) hk__law_trim hb__law_trim (DL.pa_cons (POD.d (o_lc [("at", 9)] rfl S__law_one_right.nd (blkOk_by rfl) ((i_range2 Z.fr_range (DL.pa_cons p_int (DL.pa_cons (p_bltn ca_len Z.fr_len (DL.pa_cons (p_var 1) DL.pa_nil)) DL.pa_nil)))).j (fun _ _ _ _ _ => (g_name 9 S__law_one_right.nd)) (fun _ _ _ _ _ => ts_nil) (fun _ _ _ _ _ => (p_call F__law_by (hr.mono (by decide)) (fun (z : false = true) => nomatch z) (Z.glo__law_by) hk__law_by hb__law_by (DL.pa_cons (p_ix (p_var 1) (p_var 9)) (DL.pa_cons (p_tup (DL.pa_cons (p_var 9) (DL.pa_cons p_int DL.pa_nil))) DL.pa_nil)))))) DL.pa_nil)))) (ss_cons (s_if (PWD.pt (DL.pw_or (DL.pt_not (pt_v (p_call F__law_is_line (hr.mono (by decide)) (fun _ => hg rfl) (Z.glo__law_is_line) hk__law_is_line hb__law_is_line (DL.pa_cons (POD.d (p_callO FO_derived (hr.mono (by decide)) (fun (z : false = true) => nomatch z) (Z.glo_derived) hk_derived hb_derived (DL.pa_cons (p_var 2) DL.pa_nil))) (DL.pa_cons (p_var 6) DL.pa_nil))))) (pw_one (pt_cmp (op_eqU Z (hr.mono (by decide)) true) (p_callK (ks := ["line"]) (ix := [0]) F_derived (hr.mono (by decide)) (fun (z : false = true) => nomatch z) (Z.glo_derived) hk_derived kw_derived_0 (k_cons (p_var 2) k_nil)) (POD.d (p_callO FO_derived (hr.mono (by decide)) (fun (z : false = true) => nomatch z) (Z.glo_derived) hk_derived hb_derived (DL.pa_cons (p_var 2) DL.pa_nil))) rfl)))) (ss_one (s_ret p_bl)) ss_nil) (ss_cons (s_set 7 S__law_one_right.nd (p_call F_worth (hr.mono (by decide)) (fun (z : false = true) => nomatch z) (Z.glo_worth) hk_worth hb_worth (DL.pa_cons (p_var 2) (DL.pa_cons (p_var 4) DL.pa_nil)))) (ss_cons (s_if (PWD.pt (DL.pw_or (pt_cmp (op_eqU Z (hr.mono (by decide)) true) (p_bltn (ca_reprU Z (hr.mono (by decide)) (hg rfl)) Z.fr_repr (DL.pa_cons (p_var 7) DL.pa_nil)) (p_bltn (ca_reprU Z (hr.mono (by decide)) (hg rfl)) Z.fr_repr (DL.pa_cons (p_call F__law_ratio (hr.mono (by decide)) (fun (z : false = true) => nomatch z) (Z.glo__law_ratio) hk__law_ratio hb__law_ratio (DL.pa_cons (p_call F__law_line_at (hr.mono (by decide)) (fun (z : false = true) => nomatch z) (Z.glo__law_line_at) hk__law_line_at hb__law_line_at (DL.pa_cons (p_var 1) (DL.pa_cons (p_var 3) DL.pa_nil))) DL.pa_nil)) DL.pa_nil)) rfl) (pw_one (pt_cmp (op_eqU Z (hr.mono (by decide)) true) (p_callK (ks := ["number", "line"]) (ix := [1, 0]) F_worth (hr.mono (by decide)) (fun (z : false = true) => nomatch z) (Z.glo_worth) hk_worth kw_worth_0 (k_cons (p_var 4) (k_cons (p_var 2) k_nil))) (p_var 7) rfl)))) (ss_one (s_ret p_bl)) ss_nil) (ss_cons (s_setO 8 S__law_one_right.nd (p_callO FO_told (hr.mono (by decide)) (fun (z : false = true) => nomatch z) (Z.glo_told) hk_told hb_told (DL.pa_cons (p_var 2) DL.pa_nil))) (ss_cons (s_app 8 (mkW_Ratio_1 Z (hr.mono (by decide)) (DL.pa_cons p_int DL.pa_nil))) (ss_one (s_ret (p_and (p_call F__law_is_line (hr.mono (by decide)) (fun _ => hg rfl) (Z.glo__law_is_line) hk__law_is_line hb__law_is_line (DL.pa_cons (p_callK (ks := ["line"]) (ix := [0]) F_told (hr.mono (by decide)) (fun (z : false = true) => nomatch z) (Z.glo_told) hk_told kw_told_0 (k_cons (p_var 2) k_nil)) (DL.pa_cons (p_var 1) DL.pa_nil))) (p_one (p_cmp (op_eqU Z (hr.mono (by decide)) false) (p_bltn (ca_reprU Z (hr.mono (by decide)) (hg rfl)) Z.fr_repr (DL.pa_cons (p_var 2) DL.pa_nil)) (p_var 5) rfl))))))))))))))))
theorem w__law_one_right {P : Program} {w : World} {K : Fr'} {mg : Str → Option Value} {base : Heap} (Z : Zx P w K mg base) : ∃ fd, FnD true P w K mg base 9 (He.ga K "_law_one_right") fd ["pot", "line"] (spD K (csK K) 2 d__law_one_right) ∧ True ∧ PySem.W.keepIn K (.ref (He.ga K "_law_one_right")) = true ∧ Binds K fd ["pot", "line"] [] ∧ True := by
  obtain ⟨fd, D⟩ := Z.says.def_ 53 (d := z__law_one_right)
  refine ⟨fd, fn_d (N := N__law_one_right) D S__law_one_right fun cdv A outer s H E hr hg => b__law_one_right Z cdv A outer s H E hr hg, trivial, D.kp, D.bindsN (fun _ _ _ _ _ _ us hl => match us, hl with
    | [a0, a1], _ => rfl), trivial⟩
/-! _law_pair_right -/
def N__law_pair_right : List Str := ["pot", "one", "other", "near", "far", "shown", "less", "product"]
theorem S__law_pair_right : FnScope N__law_pair_right ["pot", "one", "other"] (defScope (top 64)) := ⟨rfl, rfl, rfl, by decide +kernel, rfl, by decide +kernel, by decide +kernel⟩
def m__law_pair_right : MS := (mSeq (mPar 3 4 (mCons (mCall (lenM 2 d__law_given) (mCons (mVar 0) (mCons (mVar 1) mNil))) (mCons (mCall (lenM 2 d__law_given) (mCons (mVar 0) (mCons (mVar 2) mNil))) mNil))) (mSeq (mPar 5 6 (mCons (mCall cReprU (mCons (mLst (mNew (mCons (mVar 3) (mCons (mVar 4) mNil)))) mNil)) (mCons (mLst (mCallO (lenO 2 o__law_line_scaled) (mCons (mVar 2) (mCons (mTup (mCons (mUn dNegI (mC (.int 1))) (mCons (mC (.int 1)) mNil))) mNil)))) mNil))) (mSeq (mIfS (mNot (mB (mCall (lenM 2 d__law_is_line) (mCons (mLst (mCallO (lenO 2 o_plus) (mCons (mVar 3) (mCons (mVar 4) mNil)))) (mCons (mLst (mCallO (lenO 2 o__law_line_sum) (mCons (mVar 1) (mCons (mVar 2) mNil)))) mNil))))) (mRet (mC (.bl false))) mNx) (mSeq (mIfS (mNot (mB (mCall (lenM 2 d__law_is_line) (mCons (mLst (mCallO (lenO 2 o_minus) (mCons (mVar 3) (mCons (mVar 4) mNil)))) (mCons (mLst (mCallO (lenO 2 o__law_line_sum) (mCons (mVar 1) (mCons (mVar 6) mNil)))) mNil))))) (mRet (mC (.bl false))) mNx) (mSeq (mSet 7 (mLst (mCallO (lenO 2 o_times) (mCons (mVar 3) (mCons (mVar 4) mNil))))) (mSeq (mIfS (mNot (mB (mCall (lenM 2 d__law_is_line) (mCons (mVar 7) (mCons (mLst (mCallO (lenO 2 o__law_line_by) (mCons (mVar 1) (mCons (mVar 2) mNil)))) mNil))))) (mRet (mC (.bl false))) mNx) (mSeq (mIfS (mOr (mB (mBin (dEqU true) (mCall (pickM 2 [1, 0] d_times) (mCons (mVar 4) (mCons (mVar 3) mNil))) (mVar 7))) (mB (mBin (dEqU true) (mLst (mCallO (lenO 2 o_times) (mCons (mVar 4) (mCons (mVar 3) mNil)))) (mVar 7)))) (mRet (mC (.bl false))) mNx) (mSeq (mIfS (mOr (mB (mBin (dEqU true) (mCall (pickM 2 [1, 0] d_plus) (mCons (mVar 4) (mCons (mVar 3) mNil))) (mLst (mCallO (lenO 2 o_plus) (mCons (mVar 4) (mCons (mVar 3) mNil)))))) (mB (mBin (dEqU true) (mCall (pickM 2 [1, 0] d_minus) (mCons (mVar 4) (mCons (mVar 3) mNil))) (mLst (mCallO (lenO 2 o_plus) (mCons (mVar 3) (mCons (mLst (mCallO (lenO 2 o_scaled) (mCons (mVar 4) (mCons (mUn dNegI (mC (.int 1))) mNil)))) mNil))))))) (mRet (mC (.bl false))) mNx) (mSeq (mIfS (mAnd (mB (mBin (dEqU true) (mVar 7) (mLst (mNew mNil)))) (mB (mBin (dEqU true) (mCall (lenM 1 d_degree) (mCons (mVar 7) mNil)) (mBin dAddU (mCall (lenM 1 d_degree) (mCons (mVar 3) mNil)) (mCall (lenM 1 d_degree) (mCons (mVar 4) mNil)))))) (mRet (mC (.bl false))) mNx) (mSeq (mIfS (mB (mBin (dEqU true) (mLst (mCallO (lenO 1 o_derived) (mCons (mVar 7) mNil))) (mLst (mCallO (lenO 2 o_plus) (mCons (mLst (mCallO (lenO 2 o_times) (mCons (mLst (mCallO (lenO 1 o_derived) (mCons (mVar 3) mNil))) (mCons (mVar 4) mNil)))) (mCons (mLst (mCallO (lenO 2 o_times) (mCons (mVar 3) (mCons (mLst (mCallO (lenO 1 o_derived) (mCons (mVar 4) mNil))) mNil)))) mNil)))))) (mRet (mC (.bl false))) mNx) (mRet (mTV (mAnd (mB (mBin (dEqU false) (mCall cReprU (mCons (mLst (mNew (mCons (mVar 3) (mCons (mVar 4) mNil)))) mNil)) (mVar 5))) (mB (mBin (dEqU false) (mBin (dEqU false) (mVar 7) (mLst (mNew mNil))) (mTV (mOr (mB (mBin (dEqU false) (mVar 1) (mLst (mNew mNil)))) (mB (mBin (dEqU false) (mVar 2) (mLst (mNew mNil)))))))))))))))))))))
def d__law_pair_right : List D → Mo D := runD 8 m__law_pair_right
theorem b__law_pair_right {P : Program} {w : World} {K : Fr'} {mg : Str → Option Value} {base : Heap} (Z : Zx P w K mg base) (cdv : Value) (A : Around) (outer : List Env) (s : Shared) (H : Hp) (E : XK) (hr : Room 9 (A.deeper (envOfC "_law_pair_right" (defScope (top 64)) s.heap.objs.size (He.ga K "_law_pair_right") cdv))) (hg : true = true → A.guards = some []) :
    PSsD (csK K) (cx0 P w K mg base N__law_pair_right "_law_pair_right" (defScope (top 64)) (He.ga K "_law_pair_right") cdv A outer s H E) (defBody (top 64)) m__law_pair_right := by
  obtain ⟨fd__law_given, F__law_given, FO__law_given, hk__law_given, hb__law_given, _⟩ := w__law_given Z
  obtain ⟨fd__law_is_line, F__law_is_line, FO__law_is_line, hk__law_is_line, hb__law_is_line, _⟩ := w__law_is_line Z
  obtain ⟨fd__law_line_by, F__law_line_by, FO__law_line_by, hk__law_line_by, hb__law_line_by, _⟩ := w__law_line_by Z
  obtain ⟨fd__law_line_scaled, F__law_line_scaled, FO__law_line_scaled, hk__law_line_scaled, hb__law_line_scaled, _⟩ := w__law_line_scaled Z
  obtain ⟨fd__law_line_sum, F__law_line_sum, FO__law_line_sum, hk__law_line_sum, hb__law_line_sum, _⟩ := w__law_line_sum Z
  obtain ⟨fd_degree, F_degree, FO_degree, hk_degree, hb_degree, _⟩ := w_degree Z
  obtain ⟨fd_derived, F_derived, FO_derived, hk_derived, hb_derived, kw_derived_0, _⟩ := w_derived Z
  obtain ⟨fd_minus, F_minus, FO_minus, hk_minus, hb_minus, kw_minus_0, _⟩ := w_minus Z
  obtain ⟨fd_plus, F_plus, FO_plus, hk_plus, hb_plus, kw_plus_0, _⟩ := w_plus Z
  obtain ⟨fd_scaled, F_scaled, FO_scaled, hk_scaled, hb_scaled, kw_scaled_0, _⟩ := w_scaled Z
  obtain ⟨fd_times, F_times, FO_times, hk_times, hb_times, kw_times_0, _⟩ := w_times Z
  exact (ss_cons (s_par 3 4 rfl S__law_pair_right.nd (DL.pa_cons (p_call F__law_given (hr.mono (by decide)) (fun (z : false = true) => nomatch z) (Z.glo__law_given) hk__law_given hb__law_given (DL.pa_cons (p_var 0) (DL.pa_cons (p_var 1) DL.pa_nil))) (DL.pa_cons (p_call F__law_given (hr.mono (by decide)) (fun (z : false = true) => nomatch z) (Z.glo__law_given) hk__law_given hb__law_given (DL.pa_cons (p_var 0) (DL.pa_cons (p_var 2) DL.pa_nil))) DL.pa_nil)) rfl) (ss_cons (s_par 5 6 rfl S__law_pair_right.nd (DL.pa_cons (p_bltn (ca_reprU Z (hr.mono (by decide)) (hg rfl)) Z.fr_repr (DL.pa_cons (POD.d (o_lst (DL.pa_cons (p_var 3) (DL.pa_cons (p_var 4) DL.pa_nil)))) DL.pa_nil)) (DL.pa_cons (POD.d (p_callO FO__law_line_scaled (hr.mono (by decide)) (fun (z : false = true) => nomatch z) (Z.glo__law_line_scaled) hk__law_line_scaled hb__law_line_scaled (DL.pa_cons (p_var 2) (DL.pa_cons (p_tup (DL.pa_cons (p_neg p_int) (DL.pa_cons p_int DL.pa_nil))) DL.pa_nil)))) DL.pa_nil)) rfl) (ss_cons (s_if (DL.pt_not (pt_v (p_call F__law_is_line (hr.mono (by decide)) (fun _ => hg rfl) (Z.glo__law_is_line) hk__law_is_line hb__law_is_line (DL.pa_cons (POD.d (p_callO FO_plus (hr.mono (by decide)) (fun (z : false = true) => nomatch z) (Z.glo_plus) hk_plus hb_plus (DL.pa_cons (p_var 3) (DL.pa_cons (p_var 4) DL.pa_nil)))) (DL.pa_cons (POD.d (p_callO FO__law_line_sum (hr.mono (by decide)) (fun (z : false = true) => nomatch z) (Z.glo__law_line_sum) hk__law_line_sum hb__law_line_sum (DL.pa_cons (p_var 1) (DL.pa_cons (p_var 2) DL.pa_nil)))) DL.pa_nil))))) (ss_one (s_ret p_bl)) ss_nil) (ss_cons (s_if (DL.pt_not (pt_v (p_call F__law_is_line (hr.mono (by decide)) (fun _ => hg rfl) (Z.glo__law_is_line) hk__law_is_line hb__law_is_line (DL.pa_cons (POD.d (p_callO FO_minus (hr.mono (by decide)) (fun (z : false = true) => nomatch z) (Z.glo_minus) hk_minus hb_minus (DL.pa_cons (p_var 3) (DL.pa_cons (p_var 4) DL.pa_nil)))) (DL.pa_cons (POD.d (p_callO FO__law_line_sum (hr.mono (by decide)) (fun (z : false = true) => nomatch z) (Z.glo__law_line_sum) hk__law_line_sum hb__law_line_sum (DL.pa_cons (p_var 1) (DL.pa_cons (p_var 6) DL.pa_nil)))) DL.pa_nil))))) (ss_one (s_ret p_bl)) ss_nil) (ss_cons (s_set 7 S__law_pair_right.nd (POD.d (p_callO FO_times (hr.mono (by decide)) (fun (z : false = true) => nomatch z) (Z.glo_times) hk_times hb_times (DL.pa_cons (p_var 3) (DL.pa_cons (p_var 4) DL.pa_nil))))) (ss_cons (s_if (DL.pt_not (pt_v (p_call F__law_is_line (hr.mono (by decide)) (fun _ => hg rfl) (Z.glo__law_is_line) hk__law_is_line hb__law_is_line (DL.pa_cons (p_var 7) (DL.pa_cons (POD.d (p_callO FO__law_line_by (hr.mono (by decide)) (fun (z : false = true) => nomatch z) (Z.glo__law_line_by) hk__law_line_by hb__law_line_by (DL.pa_cons (p_var 1) (DL.pa_cons (p_var 2) DL.pa_nil)))) DL.pa_nil))))) (ss_one (s_ret p_bl)) ss_nil) (ss_cons (s_if (PWD.pt (DL.pw_or (pt_cmp (op_eqU Z (hr.mono (by decide)) true) (p_callK (ks := ["other", "line"]) (ix := [1, 0]) F_times (hr.mono (by decide)) (fun (z : false = true) => nomatch z) (Z.glo_times) hk_times kw_times_0 (k_cons (p_var 4) (k_cons (p_var 3) k_nil))) (p_var 7) rfl) (pw_one (pt_cmp (op_eqU Z (hr.mono (by decide)) true) (POD.d (p_callO FO_times (hr.mono (by decide)) (fun (z : false = true) => nomatch z) (Z.glo_times) hk_times hb_times (DL.pa_cons (p_var 4) (DL.pa_cons (p_var 3) DL.pa_nil)))) (p_var 7) rfl)))) (ss_one (s_ret p_bl)) ss_nil) (ss_cons (s_if (PWD.pt (DL.pw_or (pt_cmp (op_eqU Z (hr.mono (by decide)) true) (p_callK (ks := ["other", "line"]) (ix := [1, 0]) F_plus (hr.mono (by decide)) (fun (z : false = true) => nomatch z) (Z.glo_plus) hk_plus kw_plus_0 (k_cons (p_var 4) (k_cons (p_var 3) k_nil))) (POD.d (p_callO FO_plus (hr.mono (by decide)) (fun (z : false = true) => nomatch z) (Z.glo_plus) hk_plus hb_plus (DL.pa_cons (p_var 4) (DL.pa_cons (p_var 3) DL.pa_nil)))) rfl) (pw_one (pt_cmp (op_eqU Z (hr.mono (by decide)) true) (p_callK (ks := ["other", "line"]) (ix := [1, 0]) F_minus (hr.mono (by decide)) (fun (z : false = true) => nomatch z) (Z.glo_minus) hk_minus kw_minus_0 (k_cons (p_var 4) (k_cons (p_var 3) k_nil))) (POD.d (p_callO FO_plus (hr.mono (by decide)) (fun (z : false = true) => nomatch z) (Z.glo_plus) hk_plus hb_plus (DL.pa_cons (p_var 3) (DL.pa_cons (POD.d (p_callO FO_scaled (hr.mono (by decide)) (fun (z : false = true) => nomatch z) (Z.glo_scaled) hk_scaled hb_scaled (DL.pa_cons (p_var 4) (DL.pa_cons (p_neg p_int) DL.pa_nil)))) DL.pa_nil)))) rfl)))) (ss_one (s_ret p_bl)) ss_nil) (ss_cons (s_if (PWD.pt (DL.pw_and (pt_cmp (op_eqU Z (hr.mono (by decide)) true) (p_var 7) (POD.d (o_lst DL.pa_nil)) rfl) (pw_one (pt_cmp (op_eqU Z (hr.mono (by decide)) true) (p_call F_degree (hr.mono (by decide)) (fun (z : false = true) => nomatch z) (Z.glo_degree) hk_degree hb_degree (DL.pa_cons (p_var 7) DL.pa_nil)) (p_bin (op_addU Z (hr.mono (by decide))) (p_call F_degree (hr.mono (by decide)) (fun (z : false = true) => nomatch z) (Z.glo_degree) hk_degree hb_degree (DL.pa_cons (p_var 3) DL.pa_nil)) (p_call F_degree (hr.mono (by decide)) (fun (z : false = true) => nomatch z) (Z.glo_degree) hk_degree hb_degree (DL.pa_cons (p_var 4) DL.pa_nil))) rfl)))) (ss_one (s_ret p_bl)) ss_nil) (ss_cons (s_if (pt_cmp (op_eqU Z (hr.mono (by decide)) true) (POD.d (p_callO FO_derived (hr.mono (by decide)) (fun (z : false = true) => nomatch z) (Z.glo_derived) hk_derived hb_derived (DL.pa_cons (p_var 7) DL.pa_nil))) (POD.d (p_callO FO_plus (hr.mono (by decide)) (fun (z : false = true) => nomatch z) (Z.glo_plus) hk_plus hb_plus (DL.pa_cons (POD.d (p_callO FO_times (hr.mono (by decide)) (fun (z : false = true) => nomatch z) (Z.glo_times) hk_times hb_times (DL.pa_cons (POD.d (p_callO FO_derived (hr.mono (by decide)) (fun (z : false = true) => nomatch z) (Z.glo_derived) hk_derived hb_derived (DL.pa_cons (p_var 3) DL.pa_nil))) (DL.pa_cons (p_var 4) DL.pa_nil)))) (DL.pa_cons (POD.d (p_callO FO_times (hr.mono (by decide)) (fun (z : false = true) => nomatch z) (Z.glo_times) hk_times hb_times (DL.pa_cons (p_var 3) (DL.pa_cons (POD.d (p_callO FO_derived (hr.mono (by decide)) (fun (z : false = true) => nomatch z) (Z.glo_derived) hk_derived hb_derived (DL.pa_cons (p_var 4) DL.pa_nil))) DL.pa_nil)))) DL.pa_nil)))) rfl) (ss_one (s_ret p_bl)) ss_nil) (ss_one (s_ret (p_and (p_cmp (op_eqU Z (hr.mono (by decide)) false) (p_bltn (ca_reprU Z (hr.mono (by decide)) (hg rfl)) Z.fr_repr (DL.pa_cons (POD.d (o_lst (DL.pa_cons (p_var 3) (DL.pa_cons (p_var 4) DL.pa_nil)))) DL.pa_nil)) (p_var 5) rfl) (p_one (p_cmp (op_eqU Z (hr.mono (by decide)) false) (p_cmp (op_eqU Z (hr.mono (by decide)) false) (p_var 7) (POD.d (o_lst DL.pa_nil)) rfl) (p_or (p_cmp (op_eqU Z (hr.mono (by decide)) false) (p_var 1) (POD.d (o_lst DL.pa_nil)) rfl) (p_one (p_cmp (op_eqU Z (hr.mono (by decide)) false) (p_var 2) (POD.d (o_lst DL.pa_nil)) rfl))) rfl)))))))))))))))
theorem w__law_pair_right {P : Program} {w : World} {K : Fr'} {mg : Str → Option Value} {base : Heap} (Z : Zx P w K mg base) : ∃ fd, FnD true P w K mg base 10 (He.ga K "_law_pair_right") fd ["pot", "one", "other"] (spD K (csK K) 3 d__law_pair_right) ∧ True ∧ PySem.W.keepIn K (.ref (He.ga K "_law_pair_right")) = true ∧ Binds K fd ["pot", "one", "other"] [] ∧ True := by
  obtain ⟨fd, D⟩ := Z.says.def_ 54 (d := z__law_pair_right)
  refine ⟨fd, fn_d (N := N__law_pair_right) D S__law_pair_right fun cdv A outer s H E hr hg => b__law_pair_right Z cdv A outer s H E hr hg, trivial, D.kp, D.bindsN (fun _ _ _ _ _ _ us hl => match us, hl with
    | [a0, a1, a2], _ => rfl), trivial⟩
/-! _law_bound_right -/
def N__law_bound_right : List Str := ["pot", "line", "many", "power", "one"]
theorem S__law_bound_right : FnScope N__law_bound_right ["pot", "line"] (defScope (top 65)) := ⟨rfl, rfl, rfl, by decide +kernel, rfl, by decide +kernel, by decide +kernel⟩
def m__law_bound_right : MS := (mSeq (mSet 2 (mBin dSubU (mC (.int 30)) (mCall cMax2 (mCons (mC (.int 0)) (mCons (mBin dSubU (mCall cLen (mCons (mVar 1) mNil)) (mC (.int 1))) mNil))))) (mSeq (mSet 3 (mLst (oCat (mLst (oRep (mLst (mNew (mCons (mTup (mCons (mC (.int 0)) (mCons (mC (.int 1)) mNil))) mNil))) (mVar 2))) (mLst (mNew (mCons (mTup (mCons (mBin dAddU (mC (.int 1)) (mCall (lenM 2 d__law_draw) (mCons (mVar 0) (mCons (mC (.int 5)) mNil)))) (mCons (mBin dAddU (mC (.int 1)) (mCall (lenM 2 d__law_draw) (mCons (mVar 0) (mCons (mC (.int 3)) mNil)))) mNil))) mNil)))))) (mSeq (mSet 3 (mLst (oCat (mLst (oSlice (mVar 3) mNoP (mPart (mUn dNegI (mC (.int 1)))))) (mLst (mNew (mCons (mCall (lenM 2 d__law_low) (mCons (mBin atD (mBin atD (mVar 3) (mUn dNegI (mC (.int 1)))) (mC (.int 0))) (mCons (mBin atD (mBin atD (mVar 3) (mUn dNegI (mC (.int 1)))) (mC (.int 1))) mNil))) mNil)))))) (mRet (mCall (lenM 2 d__law_is_line) (mCons (mLst (mCallO (lenO 2 o_times) (mCons (mCall (lenM 2 d__law_given) (mCons (mVar 0) (mCons (mVar 1) mNil))) (mCons (mLst (mLc (srcL (mVar 3)) [4] (tgN 4) mYes (mCall (lenM 1 d__law_ratio) (mCons (mVar 4) mNil)))) mNil)))) (mCons (mLst (mCallO (lenO 2 o__law_line_by) (mCons (mVar 1) (mCons (mVar 3) mNil)))) mNil)))))))
def d__law_bound_right : List D → Mo D := runD 5 m__law_bound_right
theorem b__law_bound_right {P : Program} {w : World} {K : Fr'} {mg : Str → Option Value} {base : Heap} (Z : Zx P w K mg base) (cdv : Value) (A : Around) (outer : List Env) (s : Shared) (H : Hp) (E : XK) (hr : Room 9 (A.deeper (envOfC "_law_bound_right" (defScope (top 65)) s.heap.objs.size (He.ga K "_law_bound_right") cdv))) (hg : true = true → A.guards = some []) :
    PSsD (csK K) (cx0 P w K mg base N__law_bound_right "_law_bound_right" (defScope (top 65)) (He.ga K "_law_bound_right") cdv A outer s H E) (defBody (top 65)) m__law_bound_right := by
  obtain ⟨fd__law_draw, F__law_draw, FO__law_draw, hk__law_draw, hb__law_draw, _⟩ := w__law_draw Z
  obtain ⟨fd__law_given, F__law_given, FO__law_given, hk__law_given, hb__law_given, _⟩ := w__law_given Z
  obtain ⟨fd__law_is_line, F__law_is_line, FO__law_is_line, hk__law_is_line, hb__law_is_line, _⟩ := w__law_is_line Z
  obtain ⟨fd__law_line_by, F__law_line_by, FO__law_line_by, hk__law_line_by, hb__law_line_by, _⟩ := w__law_line_by Z
  obtain ⟨fd__law_low, F__law_low, FO__law_low, hk__law_low, hb__law_low, _⟩ := w__law_low Z
  obtain ⟨fd__law_ratio, F__law_ratio, FO__law_ratio, hk__law_ratio, hb__law_ratio, _⟩ := w__law_ratio Z
  obtain ⟨fd_times, F_times, FO_times, hk_times, hb_times, kw_times_0, _⟩ := w_times Z
  exact (ss_cons (s_set 2 S__law_bound_right.nd (p_bin (op_subU Z (hr.mono (by decide))) p_int (p_bltn (ca_max2 rfl) Z.fr_max (DL.pa_cons p_int (DL.pa_cons (p_bin (op_subU Z (hr.mono (by decide))) (p_bltn ca_len Z.fr_len (DL.pa_cons (p_var 1) DL.pa_nil)) p_int) DL.pa_nil))))) (ss_cons (s_set 3 S__law_bound_right.nd (POD.d (o_cat (POD.d (o_rep (POD.d (o_lst (DL.pa_cons (p_tup (DL.pa_cons p_int (DL.pa_cons p_int DL.pa_nil))) DL.pa_nil))) (p_var 2))) (POD.d (o_lst (DL.pa_cons (p_tup (DL.pa_cons (p_bin (op_addU Z (hr.mono (by decide))) p_int (p_call F__law_draw (hr.mono (by decide)) (fun (z : false = true) => nomatch z) (Z.glo__law_draw) hk__law_draw hb__law_draw (DL.pa_cons (p_var 0) (DL.pa_cons p_int DL.pa_nil)))) (DL.pa_cons (p_bin (op_addU Z (hr.mono (by decide))) p_int (p_call F__law_draw (hr.mono (by decide)) (fun (z : false = true) => nomatch z) (Z.glo__law_draw) hk__law_draw hb__law_draw (DL.pa_cons (p_var 0) (DL.pa_cons p_int DL.pa_nil)))) DL.pa_nil))) DL.pa_nil)))))) (ss_cons (s_set 3 S__law_bound_right.nd (POD.d (o_cat (POD.d (oSliceB ((p_var 3)).bo x_none (x_some (p_neg p_int)))) (POD.d (o_lst (DL.pa_cons (p_call F__law_low (hr.mono (by decide)) (fun (z : false = true) => nomatch z) (Z.glo__law_low) hk__law_low hb__law_low (DL.pa_cons (p_ix (p_ix (p_var 3) (p_neg p_int)) p_int) (DL.pa_cons (p_ix (p_ix (p_var 3) (p_neg p_int)) p_int) DL.pa_nil))) DL.pa_nil)))))) (ss_one (s_ret (p_call F__law_is_line (hr.mono (by decide)) (fun _ => hg rfl) (Z.glo__law_is_line) hk__law_is_line hb__law_is_line (DL.pa_cons (POD.d (p_callO FO_times (hr.mono (by decide)) (fun (z : false = true) => nomatch z) (Z.glo_times) hk_times hb_times (DL.pa_cons (p_call F__law_given (hr.mono (by decide)) (fun (z : false = true) => nomatch z) (Z.glo__law_given) hk__law_given hb__law_given (DL.pa_cons (p_var 0) (DL.pa_cons (p_var 1) DL.pa_nil))) (DL.pa_cons (POD.d (o_lc [("one", 4)] rfl S__law_bound_right.nd (blkOk_by rfl) ((i_list (p_var 3))).j (fun _ _ _ _ _ => (g_name 4 S__law_bound_right.nd)) (fun _ _ _ _ _ => ts_nil) (fun _ _ _ _ _ => (p_call F__law_ratio (hr.mono (by decide)) (fun (z : false = true) => nomatch z) (Z.glo__law_ratio) hk__law_ratio hb__law_ratio (DL.pa_cons (p_var 4) DL.pa_nil))))) DL.pa_nil)))) (DL.pa_cons (POD.d (p_callO FO__law_line_by (hr.mono (by decide)) (fun (z : false = true) => nomatch z) (Z.glo__law_line_by) hk__law_line_by hb__law_line_by (DL.pa_cons (p_var 1) (DL.pa_cons (p_var 3) DL.pa_nil)))) DL.pa_nil))))))))
theorem w__law_bound_right {P : Program} {w : World} {K : Fr'} {mg : Str → Option Value} {base : Heap} (Z : Zx P w K mg base) : ∃ fd, FnD true P w K mg base 10 (He.ga K "_law_bound_right") fd ["pot", "line"] (spD K (csK K) 2 d__law_bound_right) ∧ True ∧ PySem.W.keepIn K (.ref (He.ga K "_law_bound_right")) = true ∧ Binds K fd ["pot", "line"] [] ∧ True := by
  obtain ⟨fd, D⟩ := Z.says.def_ 55 (d := z__law_bound_right)
  refine ⟨fd, fn_d (N := N__law_bound_right) D S__law_bound_right fun cdv A outer s H E hr hg => b__law_bound_right Z cdv A outer s H E hr hg, trivial, D.kp, D.bindsN (fun _ _ _ _ _ _ us hl => match us, hl with
    | [a0, a1], _ => rfl), trivial⟩
/-! _law_right -/
def N__law_right : List Str := ["pot", "lines", "at", "one", "two", "three", "line"]
theorem S__law_right : FnScope N__law_right ["pot"] (defScope (top 66)) := ⟨rfl, rfl, rfl, by decide +kernel, rfl, by decide +kernel, by decide +kernel⟩
def m__law_right : MS := (mSeq (mSetO 1 (mNew (mCons (mLst (mCallO (lenO 2 o__law_line) (mCons (mVar 0) (mCons (mC (.int 8)) mNil)))) (mCons (mLst (mCallO (lenO 2 o__law_line) (mCons (mVar 0) (mCons (mC (.int 8)) mNil)))) (mCons (mLst (mCallO (lenO 2 o__law_line) (mCons (mVar 0) (mCons (mC (.int 5)) mNil)))) mNil))))) (mSeq (mIfS (mB (mBin (dEqU false) (mCall (lenM 2 d__law_draw) (mCons (mVar 0) (mCons (mC (.int 3)) mNil))) (mC (.int 0)))) (mSetIx 1 (mCall (lenM 2 d__law_pick) (mCons (mVar 0) (mCons (mLst (mNew (mCons (mLst (mNew mNil)) (mCons (mLst (mNew (mCons (mTup (mCons (mC (.int 1)) (mCons (mC (.int 1)) mNil))) mNil))) (mCons (mLst (mNew (mCons (mTup (mCons (mC (.int 0)) (mCons (mC (.int 1)) mNil))) (mCons (mTup (mCons (mC (.int 1)) (mCons (mC (.int 1)) mNil))) mNil)))) (mCons (mBin atD (mVarB 1) (mC (.int 0))) mNil)))))) mNil))) (mCall (lenM 2 d__law_draw) (mCons (mVar 0) (mCons (mC (.int 3)) mNil)))) mNx) (mSeq (mFor (srcR1 (mCons (mC (.int 3)) mNil)) (tgN 2) (mIfS (mOr (mNot (mB (mCall (lenM 2 d__law_one_right) (mCons (mVar 0) (mCons (mBin atD (mVarB 1) (mVar 2)) mNil))))) (mNot (mB (mCall (lenM 3 d__law_pair_right) (mCons (mVar 0) (mCons (mBin atD (mVarB 1) (mVar 2)) (mCons (mBin atD (mVarB 1) (mBin dSubU (mVar 2) (mC (.int 1)))) mNil))))))) (mRet (mC (.bl false))) mNx)) (mSeq (mAsg (tgLst 3 (tgCons (tgN 3) (tgCons (tgN 4) (tgCons (tgN 5) tgNil)))) (mLst (mLc (srcL (mVarB 1)) [6] (tgN 6) mYes (mCall (lenM 2 d__law_given) (mCons (mVar 0) (mCons (mVar 6) mNil)))))) (mSeq (mIfS (mB (mBin (dEqU true) (mLst (mCallO (lenO 2 o_times) (mCons (mLst (mCallO (lenO 2 o_times) (mCons (mVar 3) (mCons (mVar 4) mNil)))) (mCons (mVar 5) mNil)))) (mLst (mCallO (lenO 2 o_times) (mCons (mVar 3) (mCons (mLst (mCallO (lenO 2 o_times) (mCons (mVar 4) (mCons (mVar 5) mNil)))) mNil)))))) (mRet (mC (.bl false))) mNx) (mSeq (mIfS (mOr (mB (mBin (dEqU true) (mLst (mCallO (lenO 2 o_plus) (mCons (mLst (mCallO (lenO 2 o_plus) (mCons (mVar 3) (mCons (mVar 4) mNil)))) (mCons (mVar 5) mNil)))) (mLst (mCallO (lenO 2 o_plus) (mCons (mVar 3) (mCons (mLst (mCallO (lenO 2 o_plus) (mCons (mVar 4) (mCons (mVar 5) mNil)))) mNil)))))) (mB (mBin (dEqU true) (mLst (mCallO (lenO 2 o_minus) (mCons (mVar 3) (mCons (mVar 3) mNil)))) (mLst (mNew mNil))))) (mRet (mC (.bl false))) mNx) (mSeq (mIfS (mOr (mB (mBin (dEqU true) (mLst (mCallO (lenO 2 o_times) (mCons (mVar 3) (mCons (mLst (mCallO (lenO 2 o_plus) (mCons (mVar 4) (mCons (mVar 5) mNil)))) mNil)))) (mLst (mCallO (lenO 2 o_plus) (mCons (mLst (mCallO (lenO 2 o_times) (mCons (mVar 3) (mCons (mVar 4) mNil)))) (mCons (mLst (mCallO (lenO 2 o_times) (mCons (mVar 3) (mCons (mVar 5) mNil)))) mNil)))))) (mB (mBin (dEqU true) (mLst (mCallO (lenO 2 o_times) (mCons (mVar 3) (mCons (mLst (mNew mNil)) mNil)))) (mLst (mNew mNil))))) (mRet (mC (.bl false))) mNx) (mRet (mTV (mAnd (mB (mCall (lenM 2 d__law_bound_right) (mCons (mVar 0) (mCons (mBin atD (mVarB 1) (mC (.int 0))) mNil)))) (mB (mCall (lenM 2 d__law_bound_right) (mCons (mVar 0) (mCons (mBin atD (mVarB 1) (mC (.int 2))) mNil))))))))))))))
def d__law_right : List D → Mo D := runD 7 m__law_right
theorem b__law_right {P : Program} {w : World} {K : Fr'} {mg : Str → Option Value} {base : Heap} (Z : Zx P w K mg base) (cdv : Value) (A : Around) (outer : List Env) (s : Shared) (H : Hp) (E : XK) (hr : Room 10 (A.deeper (envOfC "_law_right" (defScope (top 66)) s.heap.objs.size (He.ga K "_law_right") cdv))) (hg : true = true → A.guards = some []) :
    PSsD (csK K) (cx0 P w K mg base N__law_right "_law_right" (defScope (top 66)) (He.ga K "_law_right") cdv A outer s H E) (defBody (top 66)) m__law_right := by
  obtain ⟨fd__law_bound_right, F__law_bound_right, FO__law_bound_right, hk__law_bound_right, hb__law_bound_right, _⟩ := w__law_bound_right Z
  obtain ⟨fd__law_draw, F__law_draw, FO__law_draw, hk__law_draw, hb__law_draw, _⟩ := w__law_draw Z
  obtain ⟨fd__law_given, F__law_given, FO__law_given, hk__law_given, hb__law_given, _⟩ := w__law_given Z
  obtain ⟨fd__law_line, F__law_line, FO__law_line, hk__law_line, hb__law_line, _⟩ := w__law_line Z
  obtain ⟨fd__law_one_right, F__law_one_right, FO__law_one_right, hk__law_one_right, hb__law_one_right, _⟩ := w__law_one_right Z
  obtain ⟨fd__law_pair_right, F__law_pair_right, FO__law_pair_right, hk__law_pair_right, hb__law_pair_right, _⟩ := w__law_pair_right Z
  obtain ⟨fd__law_pick, F__law_pick, FO__law_pick, hk__law_pick, hb__law_pick, _⟩ := w__law_pick Z
  obtain ⟨fd_minus, F_minus, FO_minus, hk_minus, hb_minus, kw_minus_0, _⟩ := w_minus Z
  obtain ⟨fd_plus, F_plus, FO_plus, hk_plus, hb_plus, kw_plus_0, _⟩ := w_plus Z
  obtain ⟨fd_times, F_times, FO_times, hk_times, hb_times, kw_times_0, _⟩ := w_times Z
  exact (ss_cons (s_setO 1 S__law_right.nd (o_lst (DL.pa_cons (POD.d (p_callO FO__law_line (hr.mono (by decide)) (fun (z : false = true) => nomatch z) (Z.glo__law_line) hk__law_line hb__law_line (DL.pa_cons (p_var 0) (DL.pa_cons p_int DL.pa_nil)))) (DL.pa_cons (POD.d (p_callO FO__law_line (hr.mono (by decide)) (fun (z : false = true) => nomatch z) (Z.glo__law_line) hk__law_line hb__law_line (DL.pa_cons (p_var 0) (DL.pa_cons p_int DL.pa_nil)))) (DL.pa_cons (POD.d (p_callO FO__law_line (hr.mono (by decide)) (fun (z : false = true) => nomatch z) (Z.glo__law_line) hk__law_line hb__law_line (DL.pa_cons (p_var 0) (DL.pa_cons p_int DL.pa_nil)))) DL.pa_nil))))) (ss_cons (s_if (pt_cmp (op_eqU Z (hr.mono (by decide)) false) (p_call F__law_draw (hr.mono (by decide)) (fun (z : false = true) => nomatch z) (Z.glo__law_draw) hk__law_draw hb__law_draw (DL.pa_cons (p_var 0) (DL.pa_cons p_int DL.pa_nil))) p_int rfl) (ss_one (s_setIx 1 (p_call F__law_pick (hr.mono (by decide)) (fun (z : false = true) => nomatch z) (Z.glo__law_pick) hk__law_pick hb__law_pick (DL.pa_cons (p_var 0) (DL.pa_cons (POD.d (o_lst (DL.pa_cons (POD.d (o_lst DL.pa_nil)) (DL.pa_cons (POD.d (o_lst (DL.pa_cons (p_tup (DL.pa_cons p_int (DL.pa_cons p_int DL.pa_nil))) DL.pa_nil))) (DL.pa_cons (POD.d (o_lst (DL.pa_cons (p_tup (DL.pa_cons p_int (DL.pa_cons p_int DL.pa_nil))) (DL.pa_cons (p_tup (DL.pa_cons p_int (DL.pa_cons p_int DL.pa_nil))) DL.pa_nil)))) (DL.pa_cons (p_ixB (b_var 1) p_int) DL.pa_nil)))))) DL.pa_nil))) (p_call F__law_draw (hr.mono (by decide)) (fun (z : false = true) => nomatch z) (Z.glo__law_draw) hk__law_draw hb__law_draw (DL.pa_cons (p_var 0) (DL.pa_cons p_int DL.pa_nil))))) ss_nil) (ss_cons (s_for PassesOwn.never rfl (i_range1 Z.fr_range (DL.pa_cons p_int DL.pa_nil)) (g_name 2 S__law_right.nd) (ss_one (s_if (PWD.pt (DL.pw_or (DL.pt_not (pt_v (p_call F__law_one_right (hr.mono (by decide)) (fun _ => hg rfl) (Z.glo__law_one_right) hk__law_one_right hb__law_one_right (DL.pa_cons (p_var 0) (DL.pa_cons (p_ixB (b_var 1) (p_var 2)) DL.pa_nil))))) (pw_one (DL.pt_not (pt_v (p_call F__law_pair_right (hr.mono (by decide)) (fun _ => hg rfl) (Z.glo__law_pair_right) hk__law_pair_right hb__law_pair_right (DL.pa_cons (p_var 0) (DL.pa_cons (p_ixB (b_var 1) (p_var 2)) (DL.pa_cons (p_ixB (b_var 1) (p_bin (op_subU Z (hr.mono (by decide))) (p_var 2) p_int)) DL.pa_nil))))))))) (ss_one (s_ret p_bl)) ss_nil))) (ss_cons (s_asg (POD.d (o_lc [("line", 6)] rfl S__law_right.nd (blkOk_by rfl) (j_list (b_var 1)) (fun _ _ _ _ _ => (g_name 6 S__law_right.nd)) (fun _ _ _ _ _ => ts_nil) (fun _ _ _ _ _ => (p_call F__law_given (hr.mono (by decide)) (fun (z : false = true) => nomatch z) (Z.glo__law_given) hk__law_given hb__law_given (DL.pa_cons (p_var 0) (DL.pa_cons (p_var 6) DL.pa_nil)))))) (g_lst rfl (gs_cons (g_name 3 S__law_right.nd) (gs_cons (g_name 4 S__law_right.nd) (gs_cons (g_name 5 S__law_right.nd) gs_nil))))) (ss_cons (s_if (pt_cmp (op_eqU Z (hr.mono (by decide)) true) (POD.d (p_callO FO_times (hr.mono (by decide)) (fun (z : false = true) => nomatch z) (Z.glo_times) hk_times hb_times (DL.pa_cons (POD.d (p_callO FO_times (hr.mono (by decide)) (fun (z : false = true) => nomatch z) (Z.glo_times) hk_times hb_times (DL.pa_cons (p_var 3) (DL.pa_cons (p_var 4) DL.pa_nil)))) (DL.pa_cons (p_var 5) DL.pa_nil)))) (POD.d (p_callO FO_times (hr.mono (by decide)) (fun (z : false = true) => nomatch z) (Z.glo_times) hk_times hb_times (DL.pa_cons (p_var 3) (DL.pa_cons (POD.d (p_callO FO_times (hr.mono (by decide)) (fun (z : false = true) => nomatch z) (Z.glo_times) hk_times hb_times (DL.pa_cons (p_var 4) (DL.pa_cons (p_var 5) DL.pa_nil)))) DL.pa_nil)))) rfl) (ss_one (s_ret p_bl)) ss_nil) (ss_cons (s_if (PWD.pt (DL.pw_or (pt_cmp (op_eqU Z (hr.mono (by decide)) true) (POD.d (p_callO FO_plus (hr.mono (by decide)) (fun (z : false = true) => nomatch z) (Z.glo_plus) hk_plus hb_plus (DL.pa_cons (POD.d (p_callO FO_plus (hr.mono (by decide)) (fun (z : false = true) => nomatch z) (Z.glo_plus) hk_plus hb_plus (DL.pa_cons (p_var 3) (DL.pa_cons (p_var 4) DL.pa_nil)))) (DL.pa_cons (p_var 5) DL.pa_nil)))) (POD.d (p_callO FO_plus (hr.mono (by decide)) (fun (z : false = true) => nomatch z) (Z.glo_plus) hk_plus hb_plus (DL.pa_cons (p_var 3) (DL.pa_cons (POD.d (p_callO FO_plus (hr.mono (by decide)) (fun (z : false = true) => nomatch z) (Z.glo_plus) hk_plus hb_plus (DL.pa_cons (p_var 4) (DL.pa_cons (p_var 5) DL.pa_nil)))) DL.pa_nil)))) rfl) (pw_one (pt_cmp (op_eqU Z (hr.mono (by decide)) true) (POD.d (p_callO FO_minus (hr.mono (by decide)) (fun (z : false = true) => nomatch z) (Z.glo_minus) hk_minus hb_minus (DL.pa_cons (p_var 3) (DL.pa_cons (p_var 3) DL.pa_nil)))) (POD.d (o_lst DL.pa_nil)) rfl)))) (ss_one (s_ret p_bl)) ss_nil) (ss_cons (s_if (PWD.pt (DL.pw_or (pt_cmp (op_eqU Z (hr.mono (by decide)) true) (POD.d (p_callO FO_times (hr.mono (by decide)) (fun (z : false = true) => nomatch z) (Z.glo_times) hk_times hb_times (DL.pa_cons (p_var 3) (DL.pa_cons (POD.d (p_callO FO_plus (hr.mono (by decide)) (fun (z : false = true) => nomatch z) (Z.glo_plus) hk_plus hb_plus (DL.pa_cons (p_var 4) (DL.pa_cons (p_var 5) DL.pa_nil)))) DL.pa_nil)))) (POD.d (p_callO FO_plus (hr.mono (by decide)) (fun (z : false = true) => nomatch z) (Z.glo_plus) hk_plus hb_plus (DL.pa_cons (POD.d (p_callO FO_times (hr.mono (by decide)) (fun (z : false = true) => nomatch z) (Z.glo_times) hk_times hb_times (DL.pa_cons (p_var 3) (DL.pa_cons (p_var 4) DL.pa_nil)))) (DL.pa_cons (POD.d (p_callO FO_times (hr.mono (by decide)) (fun (z : false = true) => nomatch z) (Z.glo_times) hk_times hb_times (DL.pa_cons (p_var 3) (DL.pa_cons (p_var 5) DL.pa_nil)))) DL.pa_nil)))) rfl) (pw_one (pt_cmp (op_eqU Z (hr.mono (by decide)) true) (POD.d (p_callO FO_times (hr.mono (by decide)) (fun (z : false = true) => nomatch z) (Z.glo_times) hk_times hb_times (DL.pa_cons (p_var 3) (DL.pa_cons (POD.d (o_lst DL.pa_nil)) DL.pa_nil)))) (POD.d (o_lst DL.pa_nil)) rfl)))) (ss_one (s_ret p_bl)) ss_nil) (ss_one (s_ret (p_and (p_call F__law_bound_right (hr.mono (by decide)) (fun _ => hg rfl) (Z.glo__law_bound_right) hk__law_bound_right hb__law_bound_right (DL.pa_cons (p_var 0) (DL.pa_cons (p_ixB (b_var 1) p_int) DL.pa_nil))) (p_one (p_call F__law_bound_right (hr.mono (by decide)) (fun _ => hg rfl) (Z.glo__law_bound_right) hk__law_bound_right hb__law_bound_right (DL.pa_cons (p_var 0) (DL.pa_cons (p_ixB (b_var 1) p_int) DL.pa_nil))))))))))))))
theorem w__law_right {P : Program} {w : World} {K : Fr'} {mg : Str → Option Value} {base : Heap} (Z : Zx P w K mg base) : ∃ fd, FnD true P w K mg base 11 (He.ga K "_law_right") fd ["pot"] (spD K (csK K) 1 d__law_right) ∧ True ∧ PySem.W.keepIn K (.ref (He.ga K "_law_right")) = true ∧ Binds K fd ["pot"] [] ∧ True := by
  obtain ⟨fd, D⟩ := Z.says.def_ 56 (d := z__law_right)
  refine ⟨fd, fn_d (N := N__law_right) D S__law_right fun cdv A outer s H E hr hg => b__law_right Z cdv A outer s H E hr hg, trivial, D.kp, D.bindsN (fun _ _ _ _ _ _ us hl => match us, hl with
    | [a0], _ => rfl), trivial⟩
end
end Q
end

section
set_option Elab.async false
set_option linter.all false
/-! lines as lists of rationals: products, sums, what they are derived to. -/
namespace PL
abbrev Fn := Nat → Rat
def tl (f : Fn) : Fn := fun i => f (i + 1)
/-- the product of two rows of coefficients -/
def mulF : Fn → Fn → Nat → Rat
  | f, g, 0 => f 0 * g 0
  | f, g, k + 1 => f 0 * g (k + 1) + mulF (tl f) g k
def dF (f : Fn) : Fn := fun k => ((k : Rat) + 1) * f (k + 1)
theorem mulF_zero_left (g : Fn) : ∀ (k : Nat) (f : Fn), (∀ i, f i = 0) → mulF f g k = 0
  | 0, f, h => by unfold mulF; rw [h 0]; grind
  | k + 1, f, h => by unfold mulF; rw [h 0, mulF_zero_left g k (tl f) fun i => h (i + 1)]; grind
theorem mulF_congr_left {f f' : Fn} (g : Fn) (h : ∀ i, f i = f' i) (k : Nat) : mulF f g k = mulF f' g k := by
  rw [show f = f' from funext h]
theorem mulF_congr_right {g g' : Fn} (f : Fn) (h : ∀ i, g i = g' i) (k : Nat) : mulF f g k = mulF f g' k := by
  rw [show g = g' from funext h]
theorem mulF_add_left (g : Fn) : ∀ (k : Nat) (f f' : Fn), mulF (fun i => f i + f' i) g k = mulF f g k + mulF f' g k
  | 0, f, f' => by unfold mulF; grind
  | k + 1, f, f' => by
    have h := mulF_add_left g k (tl f) (tl f')
    have e : tl (fun i => f i + f' i) = fun i => tl f i + tl f' i := rfl
    unfold mulF
    rw [e, h]
    grind
theorem mulF_smul_left (c : Rat) (g : Fn) : ∀ (k : Nat) (f : Fn), mulF (fun i => c * f i) g k = c * mulF f g k
  | 0, f => by unfold mulF; grind
  | k + 1, f => by
    have h := mulF_smul_left c g k (tl f)
    have e : tl (fun i => c * f i) = fun i => c * tl f i := rfl
    unfold mulF
    rw [e, h]
    grind
/-- the last of the left one first -/
theorem mulF_last (g : Fn) : ∀ (k : Nat) (f : Fn), mulF f g (k + 1) = mulF f (tl g) k + f (k + 1) * g 0
  | 0, f => by
    show f 0 * g 1 + tl f 0 * g 0 = f 0 * tl g 0 + f 1 * g 0
    unfold tl; rfl
  | k + 1, f => by
    have h := mulF_last g k (tl f)
    show f 0 * g (k + 2) + mulF (tl f) g (k + 1) = (f 0 * tl g (k + 1) + mulF (tl f) (tl g) k) + f (k + 2) * g 0
    rw [h]
    show f 0 * g (k + 2) + (mulF (tl f) (tl g) k + tl f (k + 1) * g 0) = _
    unfold tl
    grind
theorem mulF_comm : ∀ (k : Nat) (f g : Fn), mulF f g k = mulF g f k
  | 0, f, g => by unfold mulF; grind
  | k + 1, f, g => by
    rw [mulF_last f k g]
    show f 0 * g (k + 1) + mulF (tl f) g k = _
    rw [mulF_comm k (tl f) g]
    grind
theorem mulF_add_right (f : Fn) (k : Nat) (g g' : Fn) : mulF f (fun i => g i + g' i) k = mulF f g k + mulF f g' k := by
  rw [mulF_comm, mulF_add_left, mulF_comm k g f, mulF_comm k g' f]
theorem mulF_smul_right (c : Rat) (f : Fn) (k : Nat) (g : Fn) : mulF f (fun i => c * g i) k = c * mulF f g k := by
  rw [mulF_comm, mulF_smul_left, mulF_comm]
theorem mulF_assoc (g h : Fn) : ∀ (k : Nat) (f : Fn), mulF (mulF f g) h k = mulF f (mulF g h) k
  | 0, f => by
    show f 0 * g 0 * h 0 = f 0 * (g 0 * h 0)
    grind
  | k + 1, f => by
    have ih := mulF_assoc g h k (tl f)
    have e : tl (mulF f g) = fun i => (fun i => f 0 * tl g i) i + mulF (tl f) g i := rfl
    show mulF f g 0 * h (k + 1) + mulF (tl (mulF f g)) h k = f 0 * mulF g h (k + 1) + mulF (tl f) (mulF g h) k
    rw [e, mulF_add_left, mulF_smul_left]
    rw [show mulF (fun i => mulF (tl f) g i) h k = mulF (mulF (tl f) g) h k from rfl, ih]
    show f 0 * g 0 * h (k + 1) + _ = f 0 * (g 0 * h (k + 1) + mulF (tl g) h k) + _
    grind
/-- the product's derived one -/
theorem dF_mul (g : Fn) : ∀ (k : Nat) (f : Fn), dF (mulF f g) k = mulF (dF f) g k + mulF f (dF g) k
  | 0, f => by
    show (((0 : Nat) : Rat) + 1) * (f 0 * g 1 + tl f 0 * g 0) = (((0 : Nat) : Rat) + 1) * f 1 * g 0 + f 0 * ((((0 : Nat) : Rat) + 1) * g 1)
    unfold tl
    grind
  | k + 1, f => by
    have ih := dF_mul g k (tl f)
    have e : tl (dF f) = fun i => dF (tl f) i + tl (tl f) i := by
      funext i
      unfold tl dF
      show (((i + 1 : Nat) : Rat) + 1) * f (i + 1 + 1) = ((i : Rat) + 1) * f (i + 1 + 1) + f (i + 1 + 1)
      rw [show ((i + 1 : Nat) : Rat) = (i : Rat) + 1 by simp]
      grind
    have c : ((k + 1 : Nat) : Rat) = (k : Rat) + 1 := by simp
    show (((k + 1 : Nat) : Rat) + 1) * (f 0 * g (k + 2) + mulF (tl f) g (k + 1)) = (dF f 0 * g (k + 1) + mulF (tl (dF f)) g k) + (f 0 * dF g (k + 1) + mulF (tl f) (dF g) k)
    rw [e, mulF_add_left]
    have i1 : ((k : Rat) + 1) * mulF (tl f) g (k + 1) = mulF (dF (tl f)) g k + mulF (tl f) (dF g) k := ih
    have i2 : mulF (tl f) g (k + 1) = tl f 0 * g (k + 1) + mulF (tl (tl f)) g k := rfl
    have i3 : dF f 0 = tl f 0 := by
      unfold dF tl
      show (((0 : Nat) : Rat) + 1) * f 1 = f 1
      grind
    have i4 : dF g (k + 1) = ((k : Rat) + 1 + 1) * g (k + 2) := by unfold dF; rw [c]
    rw [c, i3, i4]
    grind
/-- no parts of nought -/
theorem mulF_top {g : Fn} {m : Nat} (hg : ∀ j, m < j → g j = 0) : ∀ (n : Nat) (f : Fn), (∀ i, n < i → f i = 0) → mulF f g (n + m) = f n * g m ∧ ∀ k, n + m < k → mulF f g k = 0
  | 0, f, hf => by
    have z : ∀ k, mulF (tl f) g k = 0 := fun k => mulF_zero_left g k _ fun i => hf (i + 1) (by omega)
    have all : ∀ k, mulF f g k = f 0 * g k := fun k => by
      cases k with
      | zero => rfl
      | succ k => show f 0 * g (k + 1) + mulF (tl f) g k = _; rw [z k]; grind
    refine ⟨by rw [all, Nat.zero_add], fun k hk => by rw [all, hg k (by omega)]; grind⟩
  | n + 1, f, hf => by
    obtain ⟨h1, h2⟩ := mulF_top hg n (tl f) fun i hi => hf (i + 1) (by omega)
    refine ⟨?_, fun k hk => ?_⟩
    · rw [show n + 1 + m = (n + m) + 1 by omega]
      show f 0 * g (n + m + 1) + mulF (tl f) g (n + m) = _
      rw [h1, hg (n + m + 1) (by omega)]
      show f 0 * 0 + f (n + 1) * g m = _
      grind
    · obtain ⟨k, rfl⟩ : ∃ k', k = k' + 1 := ⟨k - 1, by omega⟩
      show f 0 * g (k + 1) + mulF (tl f) g k = 0
      rw [h2 k (by omega), hg (k + 1) (by omega)]
      grind
/-! ### lists -/
def coef (l : List Rat) : Fn := fun i => l.getD i 0
/-- noughts at the end left out -/
def trim : List Rat → List Rat
  | [] => []
  | x :: xs => match trim xs with
    | [] => if x = 0 then [] else [x]
    | y :: ys => x :: y :: ys
theorem coef_nil (i : Nat) : coef [] i = 0 := by simp [coef]
theorem coef_cons_zero (x : Rat) (xs : List Rat) : coef (x :: xs) 0 = x := by simp [coef]
theorem coef_cons_succ (x : Rat) (xs : List Rat) (i : Nat) : coef (x :: xs) (i + 1) = coef xs i := by simp [coef]
theorem coef_trim : ∀ (l : List Rat) (i : Nat), coef (trim l) i = coef l i
  | [], i => rfl
  | x :: xs, i => by
    have ih := coef_trim xs
    unfold trim
    rcases h : trim xs with _ | ⟨y, ys⟩
    · rw [h] at ih
      by_cases hx : x = 0
      · rw [if_pos hx]
        cases i with
        | zero => rw [coef_nil, coef_cons_zero, hx]
        | succ i => rw [coef_nil, coef_cons_succ, ← ih i, coef_nil]
      · rw [if_neg hx]
        cases i with
        | zero => rw [coef_cons_zero, coef_cons_zero]
        | succ i => rw [coef_cons_succ, coef_cons_succ, ← ih i]
    · rw [h] at ih
      cases i with
      | zero => rw [coef_cons_zero, coef_cons_zero]
      | succ i => rw [coef_cons_succ, coef_cons_succ, ih i]
/-- trimmed -/
def Tr (l : List Rat) : Prop := trim l = l
theorem trim_len : ∀ l : List Rat, (trim l).length ≤ l.length
  | [] => Nat.le_refl _
  | x :: xs => by
    have ih := trim_len xs
    unfold trim
    rcases h : trim xs with _ | ⟨y, ys⟩
    · by_cases hx : x = 0
      · rw [if_pos hx]; simp
      · rw [if_neg hx]; simp
    · rw [h] at ih; simp at ih ⊢; omega
theorem trim_zero : ∀ l : List Rat, (∀ i, coef l i = 0) → trim l = []
  | [], _ => rfl
  | x :: xs, h => by
    unfold trim
    rw [trim_zero xs fun i => by have := h (i + 1); rwa [coef_cons_succ] at this]
    have := h 0
    rw [coef_cons_zero] at this
    exact if_pos this
/-- lines with the same coefficients are the same, trimmed -/
theorem trim_ext : ∀ (l m : List Rat), (∀ i, coef l i = coef m i) → trim l = trim m
  | [], m, h => (trim_zero m fun i => by rw [← h i, coef_nil]).symm
  | x :: xs, [], h => trim_zero (x :: xs) fun i => by rw [h i, coef_nil]
  | x :: xs, y :: ys, h => by
    have h0 := h 0
    rw [coef_cons_zero, coef_cons_zero] at h0
    have := trim_ext xs ys fun i => by have := h (i + 1); rwa [coef_cons_succ, coef_cons_succ] at this
    unfold trim
    rw [this, h0]
theorem trim_trim (l : List Rat) : trim (trim l) = trim l := trim_ext _ _ (coef_trim l)
theorem Tr.ext {l m : List Rat} (hl : Tr l) (hm : Tr m) (h : ∀ i, coef l i = coef m i) : l = m := by
  rw [← hl, ← hm]
  exact trim_ext l m h
theorem coef_beyond {l : List Rat} {i : Nat} (h : l.length ≤ i) : coef l i = 0 := by
  simp [coef, List.getD, List.getElem?_eq_none h]
/-- the head of a trimmed line is not nought -/
theorem Tr.last : ∀ {l : List Rat}, Tr l → l ≠ [] → coef l (l.length - 1) ≠ 0
  | [x], h, _ => by
    intro z
    have z' : x = 0 := z
    unfold Tr trim at h
    simp [trim, z'] at h
  | x :: y :: ys, h, _ => by
    have h2 : Tr (y :: ys) := by
      unfold Tr at h ⊢
      rw [trim] at h
      rcases e : trim (y :: ys) with _ | ⟨a, b⟩
      · rw [e] at h
        by_cases hx : x = 0
        · simp [hx] at h
        · simp [hx] at h
      · rw [e] at h
        simp at h
        rw [h.1, h.2]
    have := Tr.last h2 (by simp)
    rw [show (x :: y :: ys).length - 1 = (y :: ys).length - 1 + 1 by simp, coef_cons_succ]
    exact this
end PL
end

section
set_option Elab.async false
set_option linter.all false
set_option maxRecDepth 100000
set_option maxHeartbeats 4000000
set_option exponentiation.threshold 20000
/-! the plain law: numbers. -/
namespace Q
open DL PySem
/-- a ratio's datum -/
def rat (x : Rat) : D := .ins 0 [.int x.num, .int x.den]
/-- the law's own pair -/
def pr (x : Rat) : D := .tup [.int x.num, .int x.den]
theorem ratE (x : Rat) : rat x = .ins 0 [.int x.num, .int x.den] := rfl
theorem prE (x : Rat) : pr x = .tup [.int x.num, .int x.den] := rfl
theorem divInt1 (n : Int) : Rat.divInt n 1 = (n : Rat) := by
  rw [Rat.divInt_eq_div]; grind
theorem isint_int (n : Int) : d_is_integer [.int n] = retM (.bl true) := by
  funext p; simp [runD, env0, mSeq, mIfS, mNot, mB, mIsC, mVar, isC, mRet, mC, mTV, mAnd, mOr, mBin, mFld, dEqF, flV, retM, DL.bindM, mNx, mCall, lenM, mCons, mNil, mTup, mIsT, isT, mSet, mAsg, tgTup, tgCons, tgN, tgNil, mk_Ratio_1, mk_Ratio_2, mCallO, lenO, runO, mRetO, mLst, mIf, mUn, dNegI, d_is_integer, m_is_integer]
theorem isint_ins (c : Nat) (fs : List D) : d_is_integer [.ins c fs] = retM (.bl false) := by
  funext p; simp [runD, env0, mSeq, mIfS, mNot, mB, mIsC, mVar, isC, mRet, mC, mTV, mAnd, mOr, mBin, mFld, dEqF, flV, retM, DL.bindM, mNx, mCall, lenM, mCons, mNil, mTup, mIsT, isT, mSet, mAsg, tgTup, tgCons, tgN, tgNil, mk_Ratio_1, mk_Ratio_2, mCallO, lenO, runO, mRetO, mLst, mIf, mUn, dNegI, d_is_integer, m_is_integer]
theorem gcd_ne {t b : Int} (h : b ≠ 0) : (Nat.gcd t.natAbs b.natAbs : Nat) ≠ 0 := by
  intro z
  have := Nat.gcd_eq_zero_iff.mp z
  omega
theorem init_eq (t b : Int) (hb : b ≠ 0) (hz : b.natAbs < bigN) : d_Ratio___init__ [.int t, .int b] = retM (rat (Rat.divInt t b)) := by
  have hg : (Nat.gcd t.natAbs b.natAbs : Nat) < bigN := Nat.lt_of_le_of_lt (Nat.gcd_le_right _ (by omega)) hz
  have hg0 := gcd_ne (t := t) hb
  have hg1 : ((Nat.gcd t.natAbs b.natAbs : Nat) : Int) ≠ 0 := by exact_mod_cast hg0
  have dt : ((Nat.gcd t.natAbs b.natAbs : Nat) : Int) ∣ t := PySem.W.mg_dvd_left t b
  have db : ((Nat.gcd t.natAbs b.natAbs : Nat) : Int) ∣ b := PySem.W.mg_dvd_right t b
  have hnum : (Rat.divInt t b).num = b.sign * t / ((Nat.gcd t.natAbs b.natAbs : Nat) : Int) := by
    rw [Rat.num_divInt, Int.gcd_comm]; rfl
  have hden : (((Rat.divInt t b).den : Nat) : Int) = (b.natAbs : Int) / ((Nat.gcd t.natAbs b.natAbs : Nat) : Int) := by
    rw [Rat.den_divInt, if_neg hb, Int.gcd_comm]; rfl
  funext p
  by_cases h : b < 0
  · have e1 : t.fdiv (-((Nat.gcd t.natAbs b.natAbs : Nat) : Int)) = (Rat.divInt t b).num := by
      rw [hnum, Int.sign_eq_neg_one_of_neg h]
      obtain ⟨q, hq⟩ := dt
      generalize ((Nat.gcd t.natAbs b.natAbs : Nat) : Int) = g at *
      subst hq
      rw [show -1 * (g * q) = g * (-q) by grind, Int.mul_ediv_cancel_left _ hg1, show g * q = -g * (-q) by grind, Int.mul_fdiv_cancel_left _ (by omega)]
    have e2 : b.fdiv (-((Nat.gcd t.natAbs b.natAbs : Nat) : Int)) = (((Rat.divInt t b).den : Nat) : Int) := by
      rw [hden]
      obtain ⟨q, hq⟩ := db
      rw [show (b.natAbs : Int) = -b by omega]
      generalize ((Nat.gcd t.natAbs b.natAbs : Nat) : Int) = g at *
      subst hq
      rw [show -(g * q) = g * (-q) by grind, Int.mul_ediv_cancel_left _ hg1, show g * q = -g * (-q) by grind, Int.mul_fdiv_cancel_left _ (by omega)]
    simp [runD, env0, mSeq, mIfS, mNot, mB, mIsC, mVar, isC, mRet, mC, mTV, mAnd, mOr, mBin, mFld, dEqF, flV, retM, DL.bindM, mNx, mCall, lenM, mCons, mNil, mTup, mIsT, isT, mSet, mAsg, tgTup, tgCons, tgN, tgNil, mk_Ratio_1, mk_Ratio_2, mCallO, lenO, runO, mRetO, mLst, mIf, mUn, dNegI, d_Ratio___init__, m_Ratio___init__, runI, envI, isint_int, dLt, dII, d_common_part, m_common_part, cGcd, dSubI, h, mFldAt, mFldSet, dDivI, L2.scal, hb, hg, e1, e2, ratE]
  · have e1 : t.fdiv ((Nat.gcd t.natAbs b.natAbs : Nat) : Int) = (Rat.divInt t b).num := by
      rw [hnum, Int.sign_eq_one_of_pos (by omega)]
      obtain ⟨q, hq⟩ := dt
      generalize ((Nat.gcd t.natAbs b.natAbs : Nat) : Int) = g at *
      subst hq
      rw [Int.one_mul, Int.mul_ediv_cancel_left _ hg1, Int.mul_fdiv_cancel_left _ hg1]
    have e2 : b.fdiv ((Nat.gcd t.natAbs b.natAbs : Nat) : Int) = (((Rat.divInt t b).den : Nat) : Int) := by
      rw [hden]
      obtain ⟨q, hq⟩ := db
      rw [show (b.natAbs : Int) = b by omega]
      generalize ((Nat.gcd t.natAbs b.natAbs : Nat) : Int) = g at *
      subst hq
      rw [Int.mul_ediv_cancel_left _ hg1, Int.mul_fdiv_cancel_left _ hg1]
    simp [runD, env0, mSeq, mIfS, mNot, mB, mIsC, mVar, isC, mRet, mC, mTV, mAnd, mOr, mBin, mFld, dEqF, flV, retM, DL.bindM, mNx, mCall, lenM, mCons, mNil, mTup, mIsT, isT, mSet, mAsg, tgTup, tgCons, tgN, tgNil, mk_Ratio_1, mk_Ratio_2, mCallO, lenO, runO, mRetO, mLst, mIf, mUn, dNegI, d_Ratio___init__, m_Ratio___init__, runI, envI, isint_int, dLt, dII, d_common_part, m_common_part, cGcd, dSubI, h, mFldAt, mFldSet, dDivI, L2.scal, hb, hg, hg0, e1, e2, ratE]
theorem tp_int (a : Int) : d_told_pair [.int a] = retM (.tup [.int a, .int 1]) := by
  funext p; simp [runD, env0, mSeq, mIfS, mNot, mB, mIsC, mVar, isC, mRet, mC, mTV, mAnd, mOr, mBin, mFld, dEqF, flV, retM, DL.bindM, mNx, mCall, lenM, mCons, mNil, mTup, mIsT, isT, mSet, mAsg, tgTup, tgCons, tgN, tgNil, mk_Ratio_1, mk_Ratio_2, mCallO, lenO, runO, mRetO, mLst, mIf, mUn, dNegI, d_told_pair, m_told_pair, mTup, isint_int]
theorem tp_rat (x : Rat) : d_told_pair [rat x] = retM (.tup [.int x.num, .int x.den]) := by
  funext p; simp [runD, env0, mSeq, mIfS, mNot, mB, mIsC, mVar, isC, mRet, mC, mTV, mAnd, mOr, mBin, mFld, dEqF, flV, retM, DL.bindM, mNx, mCall, lenM, mCons, mNil, mTup, mIsT, isT, mSet, mAsg, tgTup, tgCons, tgN, tgNil, mk_Ratio_1, mk_Ratio_2, mCallO, lenO, runO, mRetO, mLst, mIf, mUn, dNegI, d_told_pair, m_told_pair, mTup, ratE]
/-- small enough to be reckoned with -/
structure Sz (x : Rat) : Prop where
  n : x.num.natAbs < 10 ^ 60
  d : x.den < 10 ^ 60
theorem pow_big : 10 ^ 60 * 10 ^ 60 < bigN := by unfold bigN; decide +kernel
theorem pow_big1 : 10 ^ 60 < bigN := by unfold bigN; decide +kernel
theorem mulI_ok {i j : Int} (h : i.natAbs < 10 ^ 60) (h' : j.natAbs < 10 ^ 60) : dMulI (.int i) (.int j) = retM (.int (i * j)) := by
  have h1 := Nat.lt_trans h pow_big1
  have h2 := Nat.lt_trans h' pow_big1
  unfold dMulI dII
  simp only [h1, h2, decide_true, Bool.and_self, if_pos]
theorem den_mul {x y : Rat} (hx : Sz x) (hy : Sz y) : ((x.den : Int) * y.den).natAbs < bigN := by
  rw [Int.natAbs_mul, Int.natAbs_natCast, Int.natAbs_natCast]
  exact Nat.lt_trans (Nat.mul_lt_mul'' hx.d hy.d) pow_big
theorem den_ne (x y : Rat) : ((x.den : Int) * y.den) ≠ 0 := by
  have := x.den_nz
  have := y.den_nz
  exact Int.mul_ne_zero (by omega) (by omega)
theorem add_eq {x y : Rat} (hx : Sz x) (hy : Sz y) : d_Ratio___add__ [rat x, rat y] = retM (rat (x + y)) := by
  have e : Rat.divInt (x.num * y.den + y.num * x.den) ((x.den : Int) * y.den) = x + y := by
    rw [← Rat.divInt_add_divInt _ _ (by have := x.den_nz; omega) (by have := y.den_nz; omega), Rat.num_divInt_den, Rat.num_divInt_den]
  funext p
  simp [runD, env0, mSeq, mIfS, mNot, mB, mIsC, mVar, isC, mRet, mC, mTV, mAnd, mOr, mBin, mFld, dEqF, flV, retM, DL.bindM, mNx, mCall, lenM, mCons, mNil, mTup, mIsT, isT, mSet, mAsg, tgTup, tgCons, tgN, tgNil, mk_Ratio_1, mk_Ratio_2, mCallO, lenO, runO, mRetO, mLst, mIf, mUn, dNegI, d_Ratio___add__, m_Ratio___add__, tp_rat, mulI_ok, hx.n, hx.d, hy.n, hy.d, dAddI, dII, init_eq, den_mul hx hy, den_ne, e, ratE x]
theorem sub_eq {x y : Rat} (hx : Sz x) (hy : Sz y) : d_Ratio___sub__ [rat x, rat y] = retM (rat (x - y)) := by
  have e : Rat.divInt (x.num * y.den - y.num * x.den) ((x.den : Int) * y.den) = x - y := by
    rw [← Rat.divInt_sub_divInt _ _ (by have := x.den_nz; omega) (by have := y.den_nz; omega), Rat.num_divInt_den, Rat.num_divInt_den]
  funext p
  simp [runD, env0, mSeq, mIfS, mNot, mB, mIsC, mVar, isC, mRet, mC, mTV, mAnd, mOr, mBin, mFld, dEqF, flV, retM, DL.bindM, mNx, mCall, lenM, mCons, mNil, mTup, mIsT, isT, mSet, mAsg, tgTup, tgCons, tgN, tgNil, mk_Ratio_1, mk_Ratio_2, mCallO, lenO, runO, mRetO, mLst, mIf, mUn, dNegI, d_Ratio___sub__, m_Ratio___sub__, tp_rat, mulI_ok, hx.n, hx.d, hy.n, hy.d, dSubI, dII, init_eq, den_mul hx hy, den_ne, e, ratE x]
theorem mul_eq {x y : Rat} (hx : Sz x) (hy : Sz y) : d_Ratio___mul__ [rat x, rat y] = retM (rat (x * y)) := by
  have e : Rat.divInt (x.num * y.num) ((x.den : Int) * y.den) = x * y := by
    rw [← Rat.divInt_mul_divInt, Rat.num_divInt_den, Rat.num_divInt_den]
  funext p
  simp [runD, env0, mSeq, mIfS, mNot, mB, mIsC, mVar, isC, mRet, mC, mTV, mAnd, mOr, mBin, mFld, dEqF, flV, retM, DL.bindM, mNx, mCall, lenM, mCons, mNil, mTup, mIsT, isT, mSet, mAsg, tgTup, tgCons, tgN, tgNil, mk_Ratio_1, mk_Ratio_2, mCallO, lenO, runO, mRetO, mLst, mIf, mUn, dNegI, d_Ratio___mul__, m_Ratio___mul__, tp_rat, mulI_ok, hx.n, hx.d, hy.n, hy.d, init_eq, den_mul hx hy, den_ne, e, ratE x]
/-- a ratio times an int -/
theorem mul_int {x : Rat} {n : Int} (hx : Sz x) (hn : n.natAbs < 10 ^ 60) : d_Ratio___mul__ [rat x, .int n] = retM (rat (x * n)) := by
  have e : Rat.divInt (x.num * n) ((x.den : Int) * 1) = x * n := by
    rw [show (x * (n : Rat)) = x * Rat.divInt n 1 by rw [divInt1], ← Rat.divInt_mul_divInt, Rat.num_divInt_den]
  have hz : x.den < bigN := Nat.lt_trans hx.d pow_big1
  have hz0 : ((x.den : Int)) ≠ 0 := by have := x.den_nz; omega
  rw [Int.mul_one] at e
  have h1 : (1 : Int).natAbs < 10 ^ 60 := by decide +kernel
  funext p
  simp [runD, env0, mSeq, mIfS, mNot, mB, mIsC, mVar, isC, mRet, mC, mTV, mAnd, mOr, mBin, mFld, dEqF, flV, retM, DL.bindM, mNx, mCall, lenM, mCons, mNil, mTup, mIsT, isT, mSet, mAsg, tgTup, tgCons, tgN, tgNil, mk_Ratio_1, mk_Ratio_2, mCallO, lenO, runO, mRetO, mLst, mIf, mUn, dNegI, d_Ratio___mul__, m_Ratio___mul__, tp_int, mulI_ok, hx.n, hx.d, hn, h1, init_eq, hz, x.den_nz, e, ratE x]
theorem addU {x y : Rat} (hx : Sz x) (hy : Sz y) : dAddU (rat x) (rat y) = retM (rat (x + y)) := by
  unfold dAddU
  rw [dOr_fail (by rfl), dOr_ret (a := rat (x + y))]
  exact add_eq hx hy
theorem mulU {x y : Rat} (hx : Sz x) (hy : Sz y) : dMulU (rat x) (rat y) = retM (rat (x * y)) := by
  unfold dMulU
  rw [dOr_fail (by rfl), dOr_ret (a := rat (x * y))]
  exact mul_eq hx hy
theorem mulUI {x : Rat} {n : Int} (hx : Sz x) (hn : n.natAbs < 10 ^ 60) : dMulU (rat x) (.int n) = retM (rat (x * n)) := by
  unfold dMulU
  rw [dOr_fail (by rfl), dOr_ret (a := rat (x * n))]
  exact mul_int hx hn
theorem mulII {i j : Int} (h : i.natAbs < 10 ^ 60) (h' : j.natAbs < 10 ^ 60) : dMulU (.int i) (.int j) = retM (.int (i * j)) := by
  unfold dMulU
  rw [dOr_ret (mulI_ok h h')]
theorem addII (i j : Int) : dAddU (.int i) (.int j) = retM (.int (i + j)) := by
  unfold dAddU
  rw [dOr_ret (a := .int (i + j)) (by simp [runD, env0, mSeq, mIfS, mNot, mB, mIsC, mVar, isC, mRet, mC, mTV, mAnd, mOr, mBin, mFld, dEqF, flV, retM, DL.bindM, mNx, mCall, lenM, mCons, mNil, mTup, mIsT, isT, mSet, mAsg, tgTup, tgCons, tgN, tgNil, mk_Ratio_1, mk_Ratio_2, mCallO, lenO, runO, mRetO, mLst, mIf, mUn, dNegI, dAddI, dII])]
theorem subII (i j : Int) : dSubU (.int i) (.int j) = retM (.int (i - j)) := by
  unfold dSubU
  rw [dOr_ret (a := .int (i - j)) (by simp [runD, env0, mSeq, mIfS, mNot, mB, mIsC, mVar, isC, mRet, mC, mTV, mAnd, mOr, mBin, mFld, dEqF, flV, retM, DL.bindM, mNx, mCall, lenM, mCons, mNil, mTup, mIsT, isT, mSet, mAsg, tgTup, tgCons, tgN, tgNil, mk_Ratio_1, mk_Ratio_2, mCallO, lenO, runO, mRetO, mLst, mIf, mUn, dNegI, dSubI, dII])]
theorem num_int (n : Int) : d_is_number [.int n] = retM (.bl true) := by
  funext p; simp [runD, env0, mSeq, mIfS, mNot, mB, mIsC, mVar, isC, mRet, mC, mTV, mAnd, mOr, mBin, mFld, dEqF, flV, retM, DL.bindM, mNx, mCall, lenM, mCons, mNil, mTup, mIsT, isT, mSet, mAsg, tgTup, tgCons, tgN, tgNil, mk_Ratio_1, mk_Ratio_2, mCallO, lenO, runO, mRetO, mLst, mIf, mUn, dNegI, d_is_number, m_is_number, isint_int]
theorem num_rat (x : Rat) : d_is_number [rat x] = retM (.bl true) := by
  funext p; simp [runD, env0, mSeq, mIfS, mNot, mB, mIsC, mVar, isC, mRet, mC, mTV, mAnd, mOr, mBin, mFld, dEqF, flV, retM, DL.bindM, mNx, mCall, lenM, mCons, mNil, mTup, mIsT, isT, mSet, mAsg, tgTup, tgCons, tgN, tgNil, mk_Ratio_1, mk_Ratio_2, mCallO, lenO, runO, mRetO, mLst, mIf, mUn, dNegI, d_is_number, m_is_number, isint_ins, ratE]
theorem rof_int (n : Int) : d_ratio_of [.int n] = retM (rat n) := by
  have h1 : 1 < bigN := by unfold bigN; decide +kernel
  funext p; simp [runD, env0, mSeq, mIfS, mNot, mB, mIsC, mVar, isC, mRet, mC, mTV, mAnd, mOr, mBin, mFld, dEqF, flV, retM, DL.bindM, mNx, mCall, lenM, mCons, mNil, mTup, mIsT, isT, mSet, mAsg, tgTup, tgCons, tgN, tgNil, mk_Ratio_1, mk_Ratio_2, mCallO, lenO, runO, mRetO, mLst, mIf, mUn, dNegI, d_ratio_of, m_ratio_of, init_eq, h1, divInt1]
theorem rof_rat (x : Rat) : d_ratio_of [rat x] = retM (rat x) := by
  funext p; simp [runD, env0, mSeq, mIfS, mNot, mB, mIsC, mVar, isC, mRet, mC, mTV, mAnd, mOr, mBin, mFld, dEqF, flV, retM, DL.bindM, mNx, mCall, lenM, mCons, mNil, mTup, mIsT, isT, mSet, mAsg, tgTup, tgCons, tgN, tgNil, mk_Ratio_1, mk_Ratio_2, mCallO, lenO, runO, mRetO, mLst, mIf, mUn, dNegI, d_ratio_of, m_ratio_of, ratE]
theorem wn_int (n : Int) : d_want_number [.int n] = retM (rat n) := by
  funext p; simp [runD, env0, mSeq, mIfS, mNot, mB, mIsC, mVar, isC, mRet, mC, mTV, mAnd, mOr, mBin, mFld, dEqF, flV, retM, DL.bindM, mNx, mCall, lenM, mCons, mNil, mTup, mIsT, isT, mSet, mAsg, tgTup, tgCons, tgN, tgNil, mk_Ratio_1, mk_Ratio_2, mCallO, lenO, runO, mRetO, mLst, mIf, mUn, dNegI, d_want_number, m_want_number, num_int, rof_int]
theorem wn_rat (x : Rat) : d_want_number [rat x] = retM (rat x) := by
  funext p; simp [runD, env0, mSeq, mIfS, mNot, mB, mIsC, mVar, isC, mRet, mC, mTV, mAnd, mOr, mBin, mFld, dEqF, flV, retM, DL.bindM, mNx, mCall, lenM, mCons, mNil, mTup, mIsT, isT, mSet, mAsg, tgTup, tgCons, tgN, tgNil, mk_Ratio_1, mk_Ratio_2, mCallO, lenO, runO, mRetO, mLst, mIf, mUn, dNegI, d_want_number, m_want_number, num_rat, rof_rat]
end Q
end

section
set_option Elab.async false
set_option linter.all false
set_option maxRecDepth 100000
set_option maxHeartbeats 4000000
/-! the plain law: lines. -/
namespace Q
open DL PySem PL
def L (xs : List Rat) : D := .lst (xs.map rat)
def AllSz (xs : List Rat) : Prop := ∀ x ∈ xs, Sz x
theorem atI_nat {α : Type} {l : List α} {i : Nat} {x : α} (h : l[i]? = some x) : L2.atI l (i : Int) = some x := by
  have hi := (List.getElem?_eq_some_iff.mp h).1
  unfold L2.atI L2.ixN
  rw [if_pos (by omega), if_pos (by omega)]
  show l[((i : Int)).toNat]? = _
  rw [Int.toNat_natCast, h]
theorem at_lst {ds : List D} {i : Nat} {d : D} (h : ds[i]? = some d) : atD (.lst ds) (.int (i : Nat)) = retM d := by
  unfold atD
  simp only [atI_nat h]
theorem eqUI (ne : Bool) (a b : Int) : dEqU ne (.int a) (.int b) = retM (.bl (decide (a = b) != ne)) := by
  unfold dEqU dEqR
  rw [dOr_ret (a := .bl (decide (a = b) != ne)) (by rw [dOr_ret (a := .bl (decide (a = b) != ne))]; by_cases h : a = b <;> simp [runD, env0, mSeq, mIfS, mNot, mB, mIsC, mVar, isC, mRet, mC, mTV, mAnd, mOr, mBin, mFld, dEqF, flV, retM, DL.bindM, mNx, mCall, lenM, mCons, mNil, mTup, mIsT, isT, mSet, mAsg, tgTup, tgCons, tgN, tgNil, mk_Ratio_1, mk_Ratio_2, mCallO, lenO, runO, mRetO, mLst, mIf, mUn, dNegI, mIsT2, mNoP, mPart, oListC, dEqF, L2.scal, h])]
  try by_cases h : a = b <;> simp [runD, env0, mSeq, mIfS, mNot, mB, mIsC, mVar, isC, mRet, mC, mTV, mAnd, mOr, mBin, mFld, dEqF, flV, retM, DL.bindM, mNx, mCall, lenM, mCons, mNil, mTup, mIsT, isT, mSet, mAsg, tgTup, tgCons, tgN, tgNil, mk_Ratio_1, mk_Ratio_2, mCallO, lenO, runO, mRetO, mLst, mIf, mUn, dNegI, mIsT2, mNoP, mPart, oListC, dEqF, L2.scal, h]
theorem comp_ret {i : Nat} {e : Env' → Mo D} {env : Env'} {f : D → D} : ∀ {ds : List D}, (∀ d ∈ ds, e (env.set i (.val d)) = retM (f d)) → compM (tgN i) mYes e env ds = retM (ds.map f)
  | [], _ => rfl
  | d :: ds, h => by
    unfold compM
    show DL.bindM (mYes (env.set i (.val d))) _ = _
    rw [show mYes (env.set i (.val d)) = retM true from rfl, bindM_ret, if_pos rfl, h d List.mem_cons_self, bindM_ret, comp_ret fun d' h' => h d' (List.mem_cons_of_mem _ h')]
    rfl
theorem list_tuple (ds : List D) (h : True) : d_is_list [.lst ds] = retM (.bl true) ∧ d_is_list [.tup ds] = retM (.bl true) := by
  constructor <;> (funext p; simp [runD, env0, mSeq, mIfS, mNot, mB, mIsC, mVar, isC, mRet, mC, mTV, mAnd, mOr, mBin, mFld, dEqF, flV, retM, DL.bindM, mNx, mCall, lenM, mCons, mNil, mTup, mIsT, isT, mSet, mAsg, tgTup, tgCons, tgN, tgNil, mk_Ratio_1, mk_Ratio_2, mCallO, lenO, runO, mRetO, mLst, mIf, mUn, dNegI, mIsT2, mNoP, mPart, oListC, d_is_list, m_is_list])
/-- a number as it may be passed -/
def Num (d : D) (x : Rat) : Prop := d = rat x ∨ ∃ n : Int, x = n ∧ d = .int n
/-- a line as it may be passed -/
inductive Nums : List D → List Rat → Prop where
  | nil : Nums [] []
  | cons {d : D} {x : Rat} {ds : List D} {xs : List Rat} (h : Num d x) (r : Nums ds xs) : Nums (d :: ds) (x :: xs)
def Given (d : D) (xs : List Rat) : Prop := ∃ ds, Nums ds xs ∧ (d = .lst ds ∨ d = .tup ds)
theorem Nums.len {ds : List D} {xs : List Rat} (h : Nums ds xs) : ds.length = xs.length := by
  induction h with
  | nil => rfl
  | cons _ _ ih => simp [runD, env0, mSeq, mIfS, mNot, mB, mIsC, mVar, isC, mRet, mC, mTV, mAnd, mOr, mBin, mFld, dEqF, flV, retM, DL.bindM, mNx, mCall, lenM, mCons, mNil, mTup, mIsT, isT, mSet, mAsg, tgTup, tgCons, tgN, tgNil, mk_Ratio_1, mk_Ratio_2, mCallO, lenO, runO, mRetO, mLst, mIf, mUn, dNegI, mIsT2, mNoP, mPart, oListC, ih]
theorem Nums.rats : ∀ xs : List Rat, Nums (xs.map rat) xs
  | [] => .nil
  | x :: xs => .cons (.inl rfl) (Nums.rats xs)
theorem Num.is {d : D} {x : Rat} (h : Num d x) : d_is_number [d] = retM (.bl true) := by
  rcases h with rfl | ⟨n, rfl, rfl⟩
  · exact num_rat x
  · exact num_int n
theorem Num.of {d : D} {x : Rat} (h : Num d x) : d_ratio_of [d] = retM (rat x) := by
  rcases h with rfl | ⟨n, rfl, rfl⟩
  · exact rof_rat x
  · exact rof_int n
theorem Num.want {d : D} {x : Rat} (h : Num d x) : d_want_number [d] = retM (rat x) := by
  rcases h with rfl | ⟨n, rfl, rfl⟩
  · exact wn_rat x
  · exact wn_int n
theorem Nums.comp {i : Nat} {e : Env' → Mo D} {env : Env'} {g : Rat → D} {ds : List D} {xs : List Rat} (h : Nums ds xs) (he : ∀ d x, Num d x → e (env.set i (.val d)) = retM (g x)) : compM (tgN i) mYes e env ds = retM (xs.map g) := by
  induction h with
  | nil => rfl
  | @cons d x ds xs h r ih =>
    unfold compM
    show DL.bindM (mYes (env.set i (.val d))) _ = _
    rw [show mYes (env.set i (.val d)) = retM true from rfl, bindM_ret, if_pos rfl, he d x h, bindM_ret, ih]
    rfl
theorem blsD_true : ∀ xs : List Rat, blsD (xs.map fun _ => D.bl true) = some (xs.map fun _ => true)
  | [] => rfl
  | x :: xs => by
    have := blsD_true xs
    simp only [List.map_cons]
    unfold blsD
    rw [this]
theorem isline {d : D} {xs : List Rat} (h : Given d xs) (hl : xs.length ≤ 31) : d_is_line [d] = retM (.bl true) := by
  obtain ⟨ds, hn, hd⟩ := h
  have hlen := hn.len
  have key : ∀ v : SV, compM (tgN 1) mYes (mCall (lenM 1 d_is_number) (mCons (mVar 1) mNil)) [v, .un] ds = retM (xs.map fun _ => D.bl true) := fun v =>
    hn.comp fun d x hx => by funext p; simp [runD, env0, mSeq, mIfS, mNot, mB, mIsC, mVar, isC, mRet, mC, mTV, mAnd, mOr, mBin, mFld, dEqF, flV, retM, DL.bindM, mNx, mCall, lenM, mCons, mNil, mTup, mIsT, isT, mSet, mAsg, tgTup, tgCons, tgN, tgNil, mk_Ratio_1, mk_Ratio_2, mCallO, lenO, runO, mRetO, mLst, mIf, mUn, dNegI, mIsT2, mNoP, mPart, oListC, hx.is]
  have hall : cAll [.lst (xs.map fun _ => D.bl true)] = retM (.bl true) := by
    unfold cAll
    simp only [blsD_true]
    rw [show (xs.map fun _ => true).all id = true by induction xs <;> simp_all]
  have h30 : ((ds.length : Nat) : Int) ≤ 31 := by omega
  have h5 : ds.length ≤ 100000 := by omega
  funext p
  rcases hd with rfl | rfl
  · simp [runD, env0, mSeq, mIfS, mNot, mB, mIsC, mVar, isC, mRet, mC, mTV, mAnd, mOr, mBin, mFld, dEqF, flV, retM, DL.bindM, mNx, mCall, lenM, mCons, mNil, mTup, mIsT, isT, mSet, mAsg, tgTup, tgCons, tgN, tgNil, mk_Ratio_1, mk_Ratio_2, mCallO, lenO, runO, mRetO, mLst, mIf, mUn, dNegI, mIsT2, mNoP, mPart, oListC, d_is_line, m_is_line, (list_tuple ds trivial).1, cLen, addII, dLe, dII, mLc, srcS, wipeE, h5, key, hall, h30]
  · simp [runD, env0, mSeq, mIfS, mNot, mB, mIsC, mVar, isC, mRet, mC, mTV, mAnd, mOr, mBin, mFld, dEqF, flV, retM, DL.bindM, mNx, mCall, lenM, mCons, mNil, mTup, mIsT, isT, mSet, mAsg, tgTup, tgCons, tgN, tgNil, mk_Ratio_1, mk_Ratio_2, mCallO, lenO, runO, mRetO, mLst, mIf, mUn, dNegI, mIsT2, mNoP, mPart, oListC, d_is_line, m_is_line, (list_tuple ds trivial).2, cLen, addII, dLe, dII, mLc, srcS, wipeE, h5, key, hall, h30]
/-! ### noughts at the end -/
theorem trim_snoc : ∀ (l : List Rat) (x : Rat), x ≠ 0 → trim (l ++ [x]) = l ++ [x]
  | [], x, h => by simp [runD, env0, mSeq, mIfS, mNot, mB, mIsC, mVar, isC, mRet, mC, mTV, mAnd, mOr, mBin, mFld, dEqF, flV, retM, DL.bindM, mNx, mCall, lenM, mCons, mNil, mTup, mIsT, isT, mSet, mAsg, tgTup, tgCons, tgN, tgNil, mk_Ratio_1, mk_Ratio_2, mCallO, lenO, runO, mRetO, mLst, mIf, mUn, dNegI, mIsT2, mNoP, mPart, oListC, trim, h]
  | y :: l, x, h => by
    have ih := trim_snoc l x h
    show trim (y :: (l ++ [x])) = _
    unfold trim
    rw [ih]
    cases l <;> rfl
theorem trim_snoc0 (l : List Rat) : trim (l ++ [0]) = trim l := by
  refine trim_ext _ _ fun i => ?_
  unfold coef
  rw [List.getD_eq_getElem?_getD, List.getD_eq_getElem?_getD, List.getElem?_append]
  split
  · rfl
  · rename_i h
    rw [List.getElem?_eq_none (by omega : l.length ≤ i)]
    cases e : i - l.length with
    | zero => simp [runD, env0, mSeq, mIfS, mNot, mB, mIsC, mVar, isC, mRet, mC, mTV, mAnd, mOr, mBin, mFld, dEqF, flV, retM, DL.bindM, mNx, mCall, lenM, mCons, mNil, mTup, mIsT, isT, mSet, mAsg, tgTup, tgCons, tgN, tgNil, mk_Ratio_1, mk_Ratio_2, mCallO, lenO, runO, mRetO, mLst, mIf, mUn, dNegI, mIsT2, mNoP, mPart, oListC]
    | succ k => simp [runD, env0, mSeq, mIfS, mNot, mB, mIsC, mVar, isC, mRet, mC, mTV, mAnd, mOr, mBin, mFld, dEqF, flV, retM, DL.bindM, mNx, mCall, lenM, mCons, mNil, mTup, mIsT, isT, mSet, mAsg, tgTup, tgCons, tgN, tgNil, mk_Ratio_1, mk_Ratio_2, mCallO, lenO, runO, mRetO, mLst, mIf, mUn, dNegI, mIsT2, mNoP, mPart, oListC]
theorem take_succ' {xs : List Rat} {m : Nat} (h : m < xs.length) : xs.take (m + 1) = xs.take m ++ [xs[m]] := by
  rw [List.take_add_one, List.getElem?_eq_getElem h]; rfl
def tCond : Env' → Mo Bool := mAnd (mB (mBin dGt (mVar 1) (mC (.int 0)))) (mB (mBin (dEqU false) (mFld 0 0 (mBin atD (mVar 0) (mBin dSubU (mVar 1) (mC (.int 1))))) (mC (.int 0))))
def tBody : MS := mSet 1 (mBin dSubU (mVar 1) (mC (.int 1)))
theorem at_rat {xs : List Rat} {m : Nat} (h : m < xs.length) : atD (L xs) (.int (m : Nat)) = retM (rat xs[m]) := at_lst (by rw [List.getElem?_map, List.getElem?_eq_getElem h]; rfl)
theorem trim_loop (xs : List Rat) : ∀ (m n : Nat), m < n → m ≤ xs.length → ∃ k, k ≤ xs.length ∧ xs.take k = trim (xs.take m) ∧ whileM tCond tBody n [.val (L xs), .val (.int (m : Nat))] = retM (.nx, [.val (L xs), .val (.int (k : Nat))])
  | 0, n + 1, _, _ => by
    refine ⟨0, Nat.zero_le _, by simp [runD, env0, mSeq, mIfS, mNot, mB, mIsC, mVar, isC, mRet, mC, mTV, mAnd, mOr, mBin, mFld, dEqF, flV, retM, DL.bindM, mNx, mCall, lenM, mCons, mNil, mTup, mIsT, isT, mSet, mAsg, tgTup, tgCons, tgN, tgNil, mk_Ratio_1, mk_Ratio_2, mCallO, lenO, runO, mRetO, mLst, mIf, mUn, dNegI, mIsT2, mNoP, mPart, oListC, trim], ?_⟩
    funext p
    simp [runD, env0, mSeq, mIfS, mNot, mB, mIsC, mVar, isC, mRet, mC, mTV, mAnd, mOr, mBin, mFld, dEqF, flV, retM, DL.bindM, mNx, mCall, lenM, mCons, mNil, mTup, mIsT, isT, mSet, mAsg, tgTup, tgCons, tgN, tgNil, mk_Ratio_1, mk_Ratio_2, mCallO, lenO, runO, mRetO, mLst, mIf, mUn, dNegI, mIsT2, mNoP, mPart, oListC, whileM, tCond, dGt, dII]
  | m + 1, n + 1, hn, hm => by
    have hlt : m < xs.length := by omega
    have hs : dSubU (.int ((m : Int) + 1)) (.int 1) = retM (.int (m : Nat)) := by rw [subII]; congr 2; omega
    have hpos : (0 : Int) < (m : Int) + 1 := by omega
    have hat := at_rat hlt
    by_cases hx : xs[m] = 0
    · obtain ⟨k, h1, h2, h3⟩ := trim_loop xs m n (by omega) (by omega)
      refine ⟨k, h1, ?_, ?_⟩
      · rw [take_succ' hlt, hx, trim_snoc0]; exact h2
      · have hz : (xs[m]).num = 0 := by rw [hx]; rfl
        rw [← h3]
        funext p
        conv => lhs; unfold whileM
        simp [runD, env0, mSeq, mIfS, mNot, mB, mIsC, mVar, isC, mRet, mC, mTV, mAnd, mOr, mBin, mFld, dEqF, flV, retM, DL.bindM, mNx, mCall, lenM, mCons, mNil, mTup, mIsT, isT, mSet, mAsg, tgTup, tgCons, tgN, tgNil, mk_Ratio_1, mk_Ratio_2, mCallO, lenO, runO, mRetO, mLst, mIf, mUn, dNegI, mIsT2, mNoP, mPart, oListC, tCond, tBody, dGt, dII, hs, hpos, hat, ratE, eqUI, hz]
    · refine ⟨m + 1, hm, ?_, ?_⟩
      · rw [take_succ' hlt, trim_snoc _ _ hx]
      · have hz : (xs[m]).num ≠ 0 := fun z => hx (Rat.num_eq_zero.mp z)
        funext p
        unfold whileM
        simp [runD, env0, mSeq, mIfS, mNot, mB, mIsC, mVar, isC, mRet, mC, mTV, mAnd, mOr, mBin, mFld, dEqF, flV, retM, DL.bindM, mNx, mCall, lenM, mCons, mNil, mTup, mIsT, isT, mSet, mAsg, tgTup, tgCons, tgN, tgNil, mk_Ratio_1, mk_Ratio_2, mCallO, lenO, runO, mRetO, mLst, mIf, mUn, dNegI, mIsT2, mNoP, mPart, oListC, tCond, tBody, dGt, dII, hs, hpos, hat, ratE, eqUI, hz]
theorem cut0 {ds : List D} {k : Nat} (h : k ≤ ds.length) : cutD ds none (some (k : Int)) = ds.take k := by
  unfold cutD
  rw [HT.sIx_none, HT.sIx_nat, Nat.sub_zero, List.drop_zero, Nat.min_eq_left h]
theorem trimmed_eq (xs : List Rat) (hl : xs.length ≤ 1000) : o_trimmed [L xs] = retM ((trim xs).map rat) := by
  obtain ⟨k, h1, h2, h3⟩ := trim_loop xs xs.length fuelW (by unfold fuelW; omega) (Nat.le_refl _)
  rw [List.take_length] at h2
  have hc : cutD (xs.map rat) none (some (k : Int)) = (trim xs).map rat := by
    rw [cut0 (by simpa [runD, env0, mSeq, mIfS, mNot, mB, mIsC, mVar, isC, mRet, mC, mTV, mAnd, mOr, mBin, mFld, dEqF, flV, retM, DL.bindM, mNx, mCall, lenM, mCons, mNil, mTup, mIsT, isT, mSet, mAsg, tgTup, tgCons, tgN, tgNil, mk_Ratio_1, mk_Ratio_2, mCallO, lenO, runO, mRetO, mLst, mIf, mUn, dNegI, mIsT2, mNoP, mPart, oListC] using h1), ← List.map_take, h2]
  have hm : m_trimmed = mSeq (mSet 1 (mCall cLen (mCons (mVar 0) mNil))) (mSeq (mWhile tCond tBody) (mRetO (mCallO oListC (mCons (mLst (oSlice (mVar 0) mNoP (mPart (mVar 1)))) mNil)))) := rfl
  have h4 : whileM tCond tBody fuelW [.val (.lst (xs.map rat)), .val (.int (xs.length : Nat))] = retM (.nx, [.val (L xs), .val (.int (k : Nat))]) := h3
  funext p
  simp [runD, env0, mSeq, mIfS, mNot, mB, mIsC, mVar, isC, mRet, mC, mTV, mAnd, mOr, mBin, mFld, dEqF, flV, retM, DL.bindM, mNx, mCall, lenM, mCons, mNil, mTup, mIsT, isT, mSet, mAsg, tgTup, tgCons, tgN, tgNil, mk_Ratio_1, mk_Ratio_2, mCallO, lenO, runO, mRetO, mLst, mIf, mUn, dNegI, mIsT2, mNoP, mPart, oListC, o_trimmed, hm, mWhile, h4, cLen, oSlice, hc, L]
theorem want_line_eq {d : D} {xs : List Rat} (h : Given d xs) (hl : xs.length ≤ 31) : o_want_line [d] = retM ((trim xs).map rat) := by
  have h1 := isline h hl
  have h2 := trimmed_eq xs (by omega)
  unfold L at h2
  obtain ⟨ds, hn, hd⟩ := h
  have hlen := hn.len
  have h5 : ds.length ≤ 100000 := by omega
  have key : ∀ v : SV, compM (tgN 1) mYes (mCall (lenM 1 d_ratio_of) (mCons (mVar 1) mNil)) [v, .un] ds = retM (xs.map rat) := fun v =>
    hn.comp fun d x hx => by funext p; simp [runD, env0, mSeq, mIfS, mNot, mB, mIsC, mVar, isC, mRet, mC, mTV, mAnd, mOr, mBin, mFld, dEqF, flV, retM, DL.bindM, mNx, mCall, lenM, mCons, mNil, mTup, mIsT, isT, mSet, mAsg, tgTup, tgCons, tgN, tgNil, mk_Ratio_1, mk_Ratio_2, mCallO, lenO, runO, mRetO, mLst, mIf, mUn, dNegI, mIsT2, mNoP, mPart, oListC, hx.of]
  funext p
  rcases hd with rfl | rfl
  · simp [runD, env0, mSeq, mIfS, mNot, mB, mIsC, mVar, isC, mRet, mC, mTV, mAnd, mOr, mBin, mFld, dEqF, flV, retM, DL.bindM, mNx, mCall, lenM, mCons, mNil, mTup, mIsT, isT, mSet, mAsg, tgTup, tgCons, tgN, tgNil, mk_Ratio_1, mk_Ratio_2, mCallO, lenO, runO, mRetO, mLst, mIf, mUn, dNegI, mIsT2, mNoP, mPart, oListC, o_want_line, m_want_line, h1, mLc, srcS, wipeE, h5, key, h2]
  · simp [runD, env0, mSeq, mIfS, mNot, mB, mIsC, mVar, isC, mRet, mC, mTV, mAnd, mOr, mBin, mFld, dEqF, flV, retM, DL.bindM, mNx, mCall, lenM, mCons, mNil, mTup, mIsT, isT, mSet, mAsg, tgTup, tgCons, tgN, tgNil, mk_Ratio_1, mk_Ratio_2, mCallO, lenO, runO, mRetO, mLst, mIf, mUn, dNegI, mIsT2, mNoP, mPart, oListC, o_want_line, m_want_line, h1, mLc, srcS, wipeE, h5, key, h2]
/-- a line that is told may be passed -/
theorem given_L (xs : List Rat) : Given (L xs) xs := ⟨_, Nums.rats xs, .inl rfl⟩
theorem told_eq {d : D} {xs : List Rat} (h : Given d xs) (hl : xs.length ≤ 31) : o_told [d] = retM ((trim xs).map rat) := by
  funext p; simp [runD, env0, mSeq, mIfS, mNot, mB, mIsC, mVar, isC, mRet, mC, mTV, mAnd, mOr, mBin, mFld, dEqF, flV, retM, DL.bindM, mNx, mCall, lenM, mCons, mNil, mTup, mIsT, isT, mSet, mAsg, tgTup, tgCons, tgN, tgNil, mk_Ratio_1, mk_Ratio_2, mCallO, lenO, runO, mRetO, mLst, mIf, mUn, dNegI, mIsT2, mNoP, mPart, oListC, o_told, m_told, want_line_eq h hl]
theorem degree_eq {d : D} {xs : List Rat} (h : Given d xs) (hl : xs.length ≤ 31) : d_degree [d] = retM (.int ((trim xs).length - 1 : Int)) := by
  funext p; simp [runD, env0, mSeq, mIfS, mNot, mB, mIsC, mVar, isC, mRet, mC, mTV, mAnd, mOr, mBin, mFld, dEqF, flV, retM, DL.bindM, mNx, mCall, lenM, mCons, mNil, mTup, mIsT, isT, mSet, mAsg, tgTup, tgCons, tgN, tgNil, mk_Ratio_1, mk_Ratio_2, mCallO, lenO, runO, mRetO, mLst, mIf, mUn, dNegI, mIsT2, mNoP, mPart, oListC, d_degree, m_degree, want_line_eq h hl, cLen, subII]
theorem two_eq {d e : D} {xs ys : List Rat} (h : Given d xs) (hl : xs.length ≤ 31) (h' : Given e ys) (hl' : ys.length ≤ 31) : d_two_lines [d, e] = retM (.tup [L (trim xs), L (trim ys)]) := by
  funext p; simp [runD, env0, mSeq, mIfS, mNot, mB, mIsC, mVar, isC, mRet, mC, mTV, mAnd, mOr, mBin, mFld, dEqF, flV, retM, DL.bindM, mNx, mCall, lenM, mCons, mNil, mTup, mIsT, isT, mSet, mAsg, tgTup, tgCons, tgN, tgNil, mk_Ratio_1, mk_Ratio_2, mCallO, lenO, runO, mRetO, mLst, mIf, mUn, dNegI, mIsT2, mNoP, mPart, oListC, d_two_lines, m_two_lines, want_line_eq h hl, want_line_eq h' hl', mTup, L]
theorem deg0_eq (xs : List Rat) : d_degree_from_nought [L xs] = retM (.int (xs.length - 1 : Nat)) := by
  funext p
  by_cases h : xs.length = 0
  · simp [runD, env0, mSeq, mIfS, mNot, mB, mIsC, mVar, isC, mRet, mC, mTV, mAnd, mOr, mBin, mFld, dEqF, flV, retM, DL.bindM, mNx, mCall, lenM, mCons, mNil, mTup, mIsT, isT, mSet, mAsg, tgTup, tgCons, tgN, tgNil, mk_Ratio_1, mk_Ratio_2, mCallO, lenO, runO, mRetO, mLst, mIf, mUn, dNegI, mIsT2, mNoP, mPart, oListC, d_degree_from_nought, m_degree_from_nought, L, cLen, subII, cMax2, h]
  · have h1 : ((xs.length : Int) - 1 > 0 ∨ xs.length = 1) := by omega
    rcases h1 with h1 | h1
    · have h2 : (xs.length : Int) - 1 = ((xs.length - 1 : Nat) : Int) := by omega
      simp [runD, env0, mSeq, mIfS, mNot, mB, mIsC, mVar, isC, mRet, mC, mTV, mAnd, mOr, mBin, mFld, dEqF, flV, retM, DL.bindM, mNx, mCall, lenM, mCons, mNil, mTup, mIsT, isT, mSet, mAsg, tgTup, tgCons, tgN, tgNil, mk_Ratio_1, mk_Ratio_2, mCallO, lenO, runO, mRetO, mLst, mIf, mUn, dNegI, mIsT2, mNoP, mPart, oListC, d_degree_from_nought, m_degree_from_nought, L, cLen, subII, cMax2]
      rw [if_pos (by omega), h2]
    · simp [runD, env0, mSeq, mIfS, mNot, mB, mIsC, mVar, isC, mRet, mC, mTV, mAnd, mOr, mBin, mFld, dEqF, flV, retM, DL.bindM, mNx, mCall, lenM, mCons, mNil, mTup, mIsT, isT, mSet, mAsg, tgTup, tgCons, tgN, tgNil, mk_Ratio_1, mk_Ratio_2, mCallO, lenO, runO, mRetO, mLst, mIf, mUn, dNegI, mIsT2, mNoP, mPart, oListC, d_degree_from_nought, m_degree_from_nought, L, cLen, subII, cMax2, h1]
/-! ### sums -/
def sumL (a b : List Rat) : List Rat := (List.range (max a.length b.length)).map fun i => coef a i + coef b i
theorem coef_map_range (n : Nat) (f : Nat → Rat) (i : Nat) : coef ((List.range n).map f) i = if i < n then f i else 0 := by
  unfold coef
  rw [List.getD_eq_getElem?_getD, List.getElem?_map]
  by_cases h : i < n
  · rw [List.getElem?_range h, if_pos h]; rfl
  · rw [List.getElem?_eq_none (by simpa [runD, env0, mSeq, mIfS, mNot, mB, mIsC, mVar, isC, mRet, mC, mTV, mAnd, mOr, mBin, mFld, dEqF, flV, retM, DL.bindM, mNx, mCall, lenM, mCons, mNil, mTup, mIsT, isT, mSet, mAsg, tgTup, tgCons, tgN, tgNil, mk_Ratio_1, mk_Ratio_2, mCallO, lenO, runO, mRetO, mLst, mIf, mUn, dNegI, mIsT2, mNoP, mPart, oListC] using h), if_neg h]; rfl
theorem coef_sumL (a b : List Rat) (i : Nat) : coef (sumL a b) i = coef a i + coef b i := by
  unfold sumL
  rw [coef_map_range]
  split
  · rfl
  · rw [coef_beyond (by omega : a.length ≤ i), coef_beyond (by omega : b.length ≤ i)]; grind
theorem coef_get {xs : List Rat} {i : Nat} (h : i < xs.length) : coef xs i = xs[i] := by
  unfold coef
  rw [List.getD_eq_getElem?_getD, List.getElem?_eq_getElem h]; rfl
theorem comp_map {α : Type} {i : Nat} {e : Env' → Mo D} {env : Env'} {F g : α → D} : ∀ {l : List α}, (∀ j ∈ l, e (env.set i (.val (F j))) = retM (g j)) → compM (tgN i) mYes e env (l.map F) = retM (l.map g)
  | [], _ => rfl
  | d :: ds, h => by
    rw [List.map_cons]
    unfold compM
    show DL.bindM (mYes (env.set i (.val (F d)))) _ = _
    rw [show mYes (env.set i (.val (F d))) = retM true from rfl, bindM_ret, if_pos rfl, h d List.mem_cons_self, bindM_ret, comp_map fun d' h' => h d' (List.mem_cons_of_mem _ h')]
    rfl
theorem comp_rng {i n : Nat} {lo : Int} {e : Env' → Mo D} {env : Env'} {g : Nat → D} (h : ∀ j, j < n → e (env.set i (.val (.int (lo + (j : Nat))))) = retM (g j)) : compM (tgN i) mYes e env (rngD lo n) = retM ((List.range n).map g) := by
  unfold rngD
  exact comp_map fun j hj => h j (List.mem_range.mp hj)
theorem get_sz {xs : List Rat} (h : AllSz xs) {i : Nat} (hi : i < xs.length) : Sz xs[i] := h _ (List.getElem_mem hi)
def sumE : Env' → Mo D := mIf (mB (mBin dLt (mVar 4) (mCall cLen (mCons (mVar 3) mNil)))) (mBin dAddU (mBin atD (mVar 2) (mVar 4)) (mBin atD (mVar 3) (mVar 4))) (mBin atD (mVar 2) (mVar 4))
theorem sum_core {a b : List Rat} (h : b.length ≤ a.length) (ha : AllSz a) (hb : AllSz b) (v0 v1 v4 : SV) :
    compM (tgN 4) mYes sumE [v0, v1, .val (L a), .val (L b), v4] (rngD 0 a.length) = retM ((sumL a b).map rat) := by
  unfold sumL
  rw [Nat.max_eq_left h, List.map_map]
  refine comp_rng fun j hj => ?_
  have h1 := at_rat hj
  have e0 : (0 : Int) + (j : Nat) = (j : Nat) := by omega
  rw [e0]
  funext p
  by_cases hjb : j < b.length
  · have h2 := at_rat hjb
    have h3 : (j : Int) < (b.length : Int) := by omega
    have hs := addU (get_sz ha hj) (get_sz hb hjb)
    unfold L at h1 h2
    simp [runD, env0, mSeq, mIfS, mNot, mB, mIsC, mVar, isC, mRet, mC, mTV, mAnd, mOr, mBin, mFld, dEqF, flV, retM, DL.bindM, mNx, mCall, lenM, mCons, mNil, mTup, mIsT, isT, mSet, mAsg, tgTup, tgCons, tgN, tgNil, mk_Ratio_1, mk_Ratio_2, mCallO, lenO, runO, mRetO, mLst, mIf, mUn, dNegI, mIsT2, mNoP, mPart, oListC, sumE, L, cLen, dLt, dII, h3, h1, h2, hs, coef_get hj, coef_get hjb]
  · have h3 : ¬ (j : Int) < (b.length : Int) := by omega
    have h5 : a[j] + coef b j = a[j] := by rw [coef_beyond (by omega : b.length ≤ j)]; grind
    unfold L at h1
    simp [runD, env0, mSeq, mIfS, mNot, mB, mIsC, mVar, isC, mRet, mC, mTV, mAnd, mOr, mBin, mFld, dEqF, flV, retM, DL.bindM, mNx, mCall, lenM, mCons, mNil, mTup, mIsT, isT, mSet, mAsg, tgTup, tgCons, tgN, tgNil, mk_Ratio_1, mk_Ratio_2, mCallO, lenO, runO, mRetO, mLst, mIf, mUn, dNegI, mIsT2, mNoP, mPart, oListC, sumE, L, cLen, dLt, dII, h3, h1, coef_get hj, h5]
theorem sumL_comm (a b : List Rat) : sumL a b = sumL b a := by
  unfold sumL
  rw [Nat.max_comm]
  exact List.map_congr_left fun i _ => by grind
theorem lsum_eq {a b : List Rat} (hla : a.length ≤ 500) (hlb : b.length ≤ 500) (ha : AllSz a) (hb : AllSz b) : o_line_sum [L a, L b] = retM ((trim (sumL a b)).map rat) := by
  have hm : m_line_sum = mSeq (mAsg (tgTup 2 (tgCons (tgN 2) (tgCons (tgN 3) tgNil))) (mIf (mB (mBin dGe (mCall cLen (mCons (mVar 0) mNil)) (mCall cLen (mCons (mVar 1) mNil)))) (mTup (mCons (mVar 0) (mCons (mVar 1) mNil))) (mTup (mCons (mVar 1) (mCons (mVar 0) mNil))))) (mRetO (mCallO (lenO 1 o_trimmed) (mCons (mLst (mLc (srcR1 (mCons (mCall cLen (mCons (mVar 2) mNil)) mNil)) [4] (tgN 4) mYes sumE)) mNil))) := rfl
  have ht := trimmed_eq (sumL a b) (by unfold sumL; rw [List.length_map, List.length_range]; omega)
  unfold L at ht
  funext p
  by_cases h : b.length ≤ a.length
  · have hc := sum_core h ha hb (.val (L a)) (.val (L b)) .un
    unfold L at hc
    have hg : ((b.length : Nat) : Int) ≤ (a.length : Int) := by omega
    have hr : -1000000 ≤ (a.length : Int) ∧ (a.length : Int) ≤ 1000000 := by omega
    have hr2 : a.length ≤ 100000 := by omega
    have hr3 : (rngD 0 a.length).length = a.length := by unfold rngD; simp [runD, env0, mSeq, mIfS, mNot, mB, mIsC, mVar, isC, mRet, mC, mTV, mAnd, mOr, mBin, mFld, dEqF, flV, retM, DL.bindM, mNx, mCall, lenM, mCons, mNil, mTup, mIsT, isT, mSet, mAsg, tgTup, tgCons, tgN, tgNil, mk_Ratio_1, mk_Ratio_2, mCallO, lenO, runO, mRetO, mLst, mIf, mUn, dNegI, mIsT2, mNoP, mPart, oListC]
    simp [runD, env0, mSeq, mIfS, mNot, mB, mIsC, mVar, isC, mRet, mC, mTV, mAnd, mOr, mBin, mFld, dEqF, flV, retM, DL.bindM, mNx, mCall, lenM, mCons, mNil, mTup, mIsT, isT, mSet, mAsg, tgTup, tgCons, tgN, tgNil, mk_Ratio_1, mk_Ratio_2, mCallO, lenO, runO, mRetO, mLst, mIf, mUn, dNegI, mIsT2, mNoP, mPart, oListC, o_line_sum, hm, L, cLen, dGe, dII, hg, mTup, mLc, srcR1, hr, hr2, hr3, wipeE, hc, ht]
  · have hc := sum_core (a := b) (b := a) (by omega) hb ha (.val (L a)) (.val (L b)) .un
    rw [sumL_comm b a] at hc
    unfold L at hc
    have hg : ¬ ((b.length : Nat) : Int) ≤ (a.length : Int) := by omega
    have hr : -1000000 ≤ (b.length : Int) ∧ (b.length : Int) ≤ 1000000 := by omega
    have hr2 : b.length ≤ 100000 := by omega
    have hr3 : (rngD 0 b.length).length = b.length := by unfold rngD; simp [runD, env0, mSeq, mIfS, mNot, mB, mIsC, mVar, isC, mRet, mC, mTV, mAnd, mOr, mBin, mFld, dEqF, flV, retM, DL.bindM, mNx, mCall, lenM, mCons, mNil, mTup, mIsT, isT, mSet, mAsg, tgTup, tgCons, tgN, tgNil, mk_Ratio_1, mk_Ratio_2, mCallO, lenO, runO, mRetO, mLst, mIf, mUn, dNegI, mIsT2, mNoP, mPart, oListC]
    simp [runD, env0, mSeq, mIfS, mNot, mB, mIsC, mVar, isC, mRet, mC, mTV, mAnd, mOr, mBin, mFld, dEqF, flV, retM, DL.bindM, mNx, mCall, lenM, mCons, mNil, mTup, mIsT, isT, mSet, mAsg, tgTup, tgCons, tgN, tgNil, mk_Ratio_1, mk_Ratio_2, mCallO, lenO, runO, mRetO, mLst, mIf, mUn, dNegI, mIsT2, mNoP, mPart, oListC, o_line_sum, hm, L, cLen, dGe, dII, hg, mTup, mLc, srcR1, hr, hr2, hr3, wipeE, hc, ht]
/-! ### a line times a number -/
theorem lby_eq {a : List Rat} {r : Rat} (hla : a.length ≤ 500) (ha : AllSz a) (hr : Sz r) : o_line_by [L a, rat r] = retM ((trim (a.map (· * r))).map rat) := by
  have ht := trimmed_eq (a.map (· * r)) (by rw [List.length_map]; omega)
  have hc : ∀ v : SV, compM (tgN 2) mYes (mBin dMulU (mVar 2) (mVar 1)) [v, .val (rat r), .un] (a.map rat) = retM ((a.map (· * r)).map rat) := fun v => by
    rw [List.map_map]
    refine comp_map fun x hx => ?_
    funext p
    simp [runD, env0, mSeq, mIfS, mNot, mB, mIsC, mVar, isC, mRet, mC, mTV, mAnd, mOr, mBin, mFld, dEqF, flV, retM, DL.bindM, mNx, mCall, lenM, mCons, mNil, mTup, mIsT, isT, mSet, mAsg, tgTup, tgCons, tgN, tgNil, mk_Ratio_1, mk_Ratio_2, mCallO, lenO, runO, mRetO, mLst, mIf, mUn, dNegI, mIsT2, mNoP, mPart, oListC, mulU (ha x hx) hr]
  have hr2 : a.length ≤ 100000 := by omega
  unfold L at ht
  funext p
  simp only [List.map_map] at hc ht
  simp [runD, env0, mSeq, mIfS, mNot, mB, mIsC, mVar, isC, mRet, mC, mTV, mAnd, mOr, mBin, mFld, dEqF, flV, retM, DL.bindM, mNx, mCall, lenM, mCons, mNil, mTup, mIsT, isT, mSet, mAsg, tgTup, tgCons, tgN, tgNil, mk_Ratio_1, mk_Ratio_2, mCallO, lenO, runO, mRetO, mLst, mIf, mUn, dNegI, mIsT2, mNoP, mPart, oListC, o_line_by, m_line_by, L, mLc, srcL, wipeE, hr2, hc, ht]
theorem lless_eq {a b : List Rat} (hla : a.length ≤ 500) (hlb : b.length ≤ 500) (ha : AllSz a) (hb : AllSz b) (hm : AllSz (trim (b.map (· * (-1))))) : o_line_less [L a, L b] = retM ((trim (sumL a (trim (b.map (· * (-1)))))).map rat) := by
  have h1 : Sz (-1 : Rat) := ⟨by decide +kernel, by decide +kernel⟩
  have hb1 := lby_eq hlb hb h1
  have hs := lsum_eq hla (Nat.le_trans (trim_len _) (by rw [List.length_map]; exact hlb)) ha hm
  have hz : (1 : Int).natAbs < bigN := by unfold bigN; decide +kernel
  have hz1 : 1 < bigN := by unfold bigN; decide +kernel
  have hi : d_Ratio___init__ [.int (-1), .int 1] = retM (rat (-1)) := by
    rw [init_eq _ _ (by decide) hz, divInt1]; rfl
  unfold L at hb1 hs
  funext p
  simp [runD, env0, mSeq, mIfS, mNot, mB, mIsC, mVar, isC, mRet, mC, mTV, mAnd, mOr, mBin, mFld, dEqF, flV, retM, DL.bindM, mNx, mCall, lenM, mCons, mNil, mTup, mIsT, isT, mSet, mAsg, tgTup, tgCons, tgN, tgNil, mk_Ratio_1, mk_Ratio_2, mCallO, lenO, runO, mRetO, mLst, mIf, mUn, dNegI, mIsT2, mNoP, mPart, oListC, o_line_less, m_line_less, L, hi, hb1, hs]
/-! ### derived -/
def slopeL (a : List Rat) : List Rat := (List.range (a.length - 1)).map fun i : Nat => dF (coef a) i
theorem coef_slopeL (a : List Rat) (i : Nat) : coef (slopeL a) i = dF (coef a) i := by
  unfold slopeL
  rw [coef_map_range]
  split
  · rfl
  · unfold dF
    rw [coef_beyond (by omega : a.length ≤ i + 1)]; grind
theorem slope_eq {a : List Rat} (hla : a.length ≤ 500) (ha : AllSz a) : o_line_slope [L a] = retM ((slopeL a).map rat) := by
  have hc : ∀ v : SV, compM (tgN 1) mYes (mBin dMulU (mBin atD (mVar 0) (mVar 1)) (mVar 1)) [.val (L a), v] (rngD 1 (a.length - 1)) = retM ((slopeL a).map rat) := fun v => by
    unfold slopeL
    rw [List.map_map]
    refine comp_rng fun j hj => ?_
    have hlt : j + 1 < a.length := by omega
    have h1 := at_rat hlt
    have e0 : (1 : Int) + (j : Nat) = ((j + 1 : Nat) : Int) := by omega
    have hs := mulUI (get_sz ha hlt) (n := ((j + 1 : Nat) : Int)) (by rw [Int.natAbs_natCast]; exact Nat.lt_trans (show j + 1 < 1000 by omega) (by decide +kernel))
    have e1 : a[j + 1] * (((j + 1 : Nat) : Int) : Rat) = dF (coef a) j := by
      unfold dF
      rw [coef_get hlt, show ((((j + 1 : Nat) : Int)) : Rat) = (j : Rat) + 1 by rw [Rat.intCast_natCast]; simp [runD, env0, mSeq, mIfS, mNot, mB, mIsC, mVar, isC, mRet, mC, mTV, mAnd, mOr, mBin, mFld, dEqF, flV, retM, DL.bindM, mNx, mCall, lenM, mCons, mNil, mTup, mIsT, isT, mSet, mAsg, tgTup, tgCons, tgN, tgNil, mk_Ratio_1, mk_Ratio_2, mCallO, lenO, runO, mRetO, mLst, mIf, mUn, dNegI, mIsT2, mNoP, mPart, oListC]]
      grind
    rw [e1] at hs
    rw [e0]
    unfold L at h1
    funext p
    have h1' : atD (.lst (a.map rat)) (.int ((j : Int) + 1)) = retM (rat a[j + 1]) := h1
    have hs' : dMulU (rat a[j + 1]) (.int ((j : Int) + 1)) = retM (rat (dF (coef a) j)) := hs
    simp [runD, env0, mSeq, mIfS, mNot, mB, mIsC, mVar, isC, mRet, mC, mTV, mAnd, mOr, mBin, mFld, dEqF, flV, retM, DL.bindM, mNx, mCall, lenM, mCons, mNil, mTup, mIsT, isT, mSet, mAsg, tgTup, tgCons, tgN, tgNil, mk_Ratio_1, mk_Ratio_2, mCallO, lenO, runO, mRetO, mLst, mIf, mUn, dNegI, mIsT2, mNoP, mPart, oListC, L, h1', hs']
  have hr : -1000000 ≤ (a.length : Int) ∧ (a.length : Int) ≤ 1000000 := by omega
  have hr2 : (rngD 1 ((a.length : Int) - 1).toNat).length ≤ 100000 := by unfold rngD; simp [runD, env0, mSeq, mIfS, mNot, mB, mIsC, mVar, isC, mRet, mC, mTV, mAnd, mOr, mBin, mFld, dEqF, flV, retM, DL.bindM, mNx, mCall, lenM, mCons, mNil, mTup, mIsT, isT, mSet, mAsg, tgTup, tgCons, tgN, tgNil, mk_Ratio_1, mk_Ratio_2, mCallO, lenO, runO, mRetO, mLst, mIf, mUn, dNegI, mIsT2, mNoP, mPart, oListC]; omega
  have hn : ((a.length : Int) - 1).toNat = a.length - 1 := by omega
  have hc' := hc .un
  unfold L at hc'
  rw [hn] at hr2
  funext p
  simp [runD, env0, mSeq, mIfS, mNot, mB, mIsC, mVar, isC, mRet, mC, mTV, mAnd, mOr, mBin, mFld, dEqF, flV, retM, DL.bindM, mNx, mCall, lenM, mCons, mNil, mTup, mIsT, isT, mSet, mAsg, tgTup, tgCons, tgN, tgNil, mk_Ratio_1, mk_Ratio_2, mCallO, lenO, runO, mRetO, mLst, mIf, mUn, dNegI, mIsT2, mNoP, mPart, oListC, o_line_slope, m_line_slope, L, cLen, mLc, srcR2, wipeE, hr, hn, hr2, hc']
/-! ### worths -/
def horner (r : Rat) : List Rat → Rat
  | [] => 0
  | x :: xs => horner r xs * r + x
theorem worth_loop {r : Rat} (hr : Sz r) : ∀ (xs : List Rat) (acc : Rat) (v0 v3 : SV), (∀ k, k ≤ xs.length → Sz ((xs.take k).foldl (fun a x => a * r + x) acc)) → (∀ k, k < xs.length → Sz ((xs.take k).foldl (fun a x => a * r + x) acc * r)) → AllSz xs →
    ∃ v, loopM (mTg (tgN 3) (mSet 2 (mBin dAddU (mBin dMulU (mVar 2) (mVar 1)) (mVar 3)))) (xs.map rat) [v0, .val (rat r), .val (rat acc), v3] = retM (.nx, [v0, .val (rat r), .val (rat (xs.foldl (fun a x => a * r + x) acc)), v])
  | [], acc, v0, v3, _, _, _ => ⟨v3, rfl⟩
  | x :: xs, acc, v0, v3, h1, h2, h3 => by
    have s0 : Sz acc := h1 0 (by simp [runD, env0, mSeq, mIfS, mNot, mB, mIsC, mVar, isC, mRet, mC, mTV, mAnd, mOr, mBin, mFld, dEqF, flV, retM, DL.bindM, mNx, mCall, lenM, mCons, mNil, mTup, mIsT, isT, mSet, mAsg, tgTup, tgCons, tgN, tgNil, mk_Ratio_1, mk_Ratio_2, mCallO, lenO, runO, mRetO, mLst, mIf, mUn, dNegI, mIsT2, mNoP, mPart, oListC])
    have s1 : Sz (acc * r) := h2 0 (by simp [runD, env0, mSeq, mIfS, mNot, mB, mIsC, mVar, isC, mRet, mC, mTV, mAnd, mOr, mBin, mFld, dEqF, flV, retM, DL.bindM, mNx, mCall, lenM, mCons, mNil, mTup, mIsT, isT, mSet, mAsg, tgTup, tgCons, tgN, tgNil, mk_Ratio_1, mk_Ratio_2, mCallO, lenO, runO, mRetO, mLst, mIf, mUn, dNegI, mIsT2, mNoP, mPart, oListC])
    have sx : Sz x := h3 x List.mem_cons_self
    obtain ⟨v, ih⟩ := worth_loop hr xs (acc * r + x) v0 (.val (rat x)) (fun k hk => by have := h1 (k + 1) (by simpa [runD, env0, mSeq, mIfS, mNot, mB, mIsC, mVar, isC, mRet, mC, mTV, mAnd, mOr, mBin, mFld, dEqF, flV, retM, DL.bindM, mNx, mCall, lenM, mCons, mNil, mTup, mIsT, isT, mSet, mAsg, tgTup, tgCons, tgN, tgNil, mk_Ratio_1, mk_Ratio_2, mCallO, lenO, runO, mRetO, mLst, mIf, mUn, dNegI, mIsT2, mNoP, mPart, oListC] using hk); simpa [runD, env0, mSeq, mIfS, mNot, mB, mIsC, mVar, isC, mRet, mC, mTV, mAnd, mOr, mBin, mFld, dEqF, flV, retM, DL.bindM, mNx, mCall, lenM, mCons, mNil, mTup, mIsT, isT, mSet, mAsg, tgTup, tgCons, tgN, tgNil, mk_Ratio_1, mk_Ratio_2, mCallO, lenO, runO, mRetO, mLst, mIf, mUn, dNegI, mIsT2, mNoP, mPart, oListC] using this) (fun k hk => by have := h2 (k + 1) (by simpa [runD, env0, mSeq, mIfS, mNot, mB, mIsC, mVar, isC, mRet, mC, mTV, mAnd, mOr, mBin, mFld, dEqF, flV, retM, DL.bindM, mNx, mCall, lenM, mCons, mNil, mTup, mIsT, isT, mSet, mAsg, tgTup, tgCons, tgN, tgNil, mk_Ratio_1, mk_Ratio_2, mCallO, lenO, runO, mRetO, mLst, mIf, mUn, dNegI, mIsT2, mNoP, mPart, oListC] using hk); simpa [runD, env0, mSeq, mIfS, mNot, mB, mIsC, mVar, isC, mRet, mC, mTV, mAnd, mOr, mBin, mFld, dEqF, flV, retM, DL.bindM, mNx, mCall, lenM, mCons, mNil, mTup, mIsT, isT, mSet, mAsg, tgTup, tgCons, tgN, tgNil, mk_Ratio_1, mk_Ratio_2, mCallO, lenO, runO, mRetO, mLst, mIf, mUn, dNegI, mIsT2, mNoP, mPart, oListC] using this) (fun y hy => h3 y (List.mem_cons_of_mem _ hy))
    refine ⟨v, ?_⟩
    have a1 := mulU s0 hr
    have a2 := addU s1 sx
    rw [List.foldl_cons, ← ih]
    funext p
    rw [List.map_cons]
    conv => lhs; unfold loopM
    simp [runD, env0, mSeq, mIfS, mNot, mB, mIsC, mVar, isC, mRet, mC, mTV, mAnd, mOr, mBin, mFld, dEqF, flV, retM, DL.bindM, mNx, mCall, lenM, mCons, mNil, mTup, mIsT, isT, mSet, mAsg, tgTup, tgCons, tgN, tgNil, mk_Ratio_1, mk_Ratio_2, mCallO, lenO, runO, mRetO, mLst, mIf, mUn, dNegI, mIsT2, mNoP, mPart, oListC, mTg, a1, a2]
theorem worth_eq {a : List Rat} {r : Rat} (hr : Sz r) (ha : AllSz a) (h1 : ∀ k, k ≤ a.length → Sz ((a.reverse.take k).foldl (fun b x => b * r + x) 0)) (h2 : ∀ k, k < a.length → Sz ((a.reverse.take k).foldl (fun b x => b * r + x) 0 * r)) : d_line_worth [L a, rat r] = retM (rat (a.reverse.foldl (fun b x => b * r + x) 0)) := by
  obtain ⟨v, h⟩ := worth_loop hr a.reverse 0 (.val (L a)) .un (fun k hk => h1 k (by simpa [runD, env0, mSeq, mIfS, mNot, mB, mIsC, mVar, isC, mRet, mC, mTV, mAnd, mOr, mBin, mFld, dEqF, flV, retM, DL.bindM, mNx, mCall, lenM, mCons, mNil, mTup, mIsT, isT, mSet, mAsg, tgTup, tgCons, tgN, tgNil, mk_Ratio_1, mk_Ratio_2, mCallO, lenO, runO, mRetO, mLst, mIf, mUn, dNegI, mIsT2, mNoP, mPart, oListC] using hk)) (fun k hk => h2 k (by simpa [runD, env0, mSeq, mIfS, mNot, mB, mIsC, mVar, isC, mRet, mC, mTV, mAnd, mOr, mBin, mFld, dEqF, flV, retM, DL.bindM, mNx, mCall, lenM, mCons, mNil, mTup, mIsT, isT, mSet, mAsg, tgTup, tgCons, tgN, tgNil, mk_Ratio_1, mk_Ratio_2, mCallO, lenO, runO, mRetO, mLst, mIf, mUn, dNegI, mIsT2, mNoP, mPart, oListC] using hk)) (fun x hx => ha x (List.mem_reverse.mp hx))
  have hz1 : 1 < bigN := by unfold bigN; decide +kernel
  have hi : d_Ratio___init__ [.int 0, .int 1] = retM (rat 0) := by
    rw [init_eq _ _ (by decide) (by simpa [runD, env0, mSeq, mIfS, mNot, mB, mIsC, mVar, isC, mRet, mC, mTV, mAnd, mOr, mBin, mFld, dEqF, flV, retM, DL.bindM, mNx, mCall, lenM, mCons, mNil, mTup, mIsT, isT, mSet, mAsg, tgTup, tgCons, tgN, tgNil, mk_Ratio_1, mk_Ratio_2, mCallO, lenO, runO, mRetO, mLst, mIf, mUn, dNegI, mIsT2, mNoP, mPart, oListC] using hz1), divInt1]; rfl
  have hm : m_line_worth = mSeq (mSet 2 (mCall (mk_Ratio_1 d_Ratio___init__) (mCons (mC (.int 0)) mNil))) (mSeq (mFor (srcL (mLst (oRev (mVar 0)))) (tgN 3) (mSet 2 (mBin dAddU (mBin dMulU (mVar 2) (mVar 1)) (mVar 3)))) (mRet (mVar 2))) := rfl
  generalize hb : mSet 2 (mBin dAddU (mBin dMulU (mVar 2) (mVar 1)) (mVar 3)) = body at *
  unfold L at h
  rw [List.map_reverse] at h
  funext p
  simp [runD, env0, mSeq, mIfS, mNot, mB, mIsC, mVar, isC, mRet, mC, mTV, mAnd, mOr, mBin, mFld, dEqF, flV, retM, DL.bindM, mNx, mCall, lenM, mCons, mNil, mTup, mIsT, isT, mSet, mAsg, tgTup, tgCons, tgN, tgNil, mk_Ratio_1, mk_Ratio_2, mCallO, lenO, runO, mRetO, mLst, mIf, mUn, dNegI, mIsT2, mNoP, mPart, oListC, d_line_worth, hm, L, hi, mFor, srcL, oRev, h]
end Q
end

section
set_option Elab.async false
set_option linter.all false
set_option maxRecDepth 100000
set_option maxHeartbeats 4000000
/-! the plain law: products of lines. -/
namespace PL
/-- each left one times the right ones, added at its place -/
def addAt {α : Type} (z : α) (op : α → α → α → α) : List α → Nat → α → List α → List α
  | F, _, _, [] => F
  | F, k, l, r :: rs => addAt z op (F.set k (op (F.getD k z) l r)) (k + 1) l rs
def addAll {α : Type} (z : α) (op : α → α → α → α) : List α → Nat → List α → List α → List α
  | F, _, [], _ => F
  | F, k, l :: ls, rs => addAll z op (addAt z op F k l rs) (k + 1) ls rs
theorem addAt_len {α : Type} (z : α) (op : α → α → α → α) : ∀ (rs F : List α) (k : Nat) (l : α), (addAt z op F k l rs).length = F.length
  | [], F, k, l => rfl
  | r :: rs, F, k, l => by unfold addAt; rw [addAt_len z op rs]; simp
theorem addAll_len {α : Type} (z : α) (op : α → α → α → α) : ∀ (ls F : List α) (k : Nat) (rs : List α), (addAll z op F k ls rs).length = F.length
  | [], F, k, rs => rfl
  | l :: ls, F, k, rs => by unfold addAll; rw [addAll_len z op ls, addAt_len]
def opR : Rat → Rat → Rat → Rat := fun o l r => o + l * r
def opI : Int → Int → Int → Int := fun o l r => o + l * r
theorem coef_set {F : List Rat} {k : Nat} {x : Rat} (h : k < F.length) (i : Nat) : coef (F.set k x) i = if i = k then x else coef F i := by
  unfold coef
  rw [List.getD_eq_getElem?_getD, List.getD_eq_getElem?_getD]
  by_cases e : i = k
  · subst e
    rw [List.getElem?_set_self h, if_pos rfl]; rfl
  · rw [List.getElem?_set_ne (fun z => e z.symm), if_neg e]
theorem coef_addAt : ∀ (rs F : List Rat) (k : Nat) (l : Rat), k + rs.length ≤ F.length → ∀ i, coef (addAt 0 opR F k l rs) i = coef F i + (if k ≤ i then l * coef rs (i - k) else 0)
  | [], F, k, l, _, i => by
    show coef F i = _
    rw [coef_nil]
    split <;> grind
  | r :: rs, F, k, l, h, i => by
    simp only [List.length_cons] at h
    unfold addAt
    rw [coef_addAt rs _ (k + 1) l (by simp; omega) i, coef_set (by omega)]
    have hk : F.getD k 0 = coef F k := rfl
    rw [hk]
    unfold opR
    by_cases e : i = k
    · subst e
      rw [if_pos rfl, if_neg (by omega), if_pos (Nat.le_refl _), Nat.sub_self, coef_cons_zero]
      grind
    · rw [if_neg e]
      by_cases h2 : k + 1 ≤ i
      · rw [if_pos h2, if_pos (by omega), show i - k = (i - (k + 1)) + 1 by omega, coef_cons_succ]
      · rw [if_neg h2, if_neg (by omega)]
theorem coef_addAll (rs : List Rat) : ∀ (ls F : List Rat) (k : Nat), k + ls.length + rs.length ≤ F.length + 1 → (rs ≠ []) → ∀ i, coef (addAll 0 opR F k ls rs) i = coef F i + (if k ≤ i then mulF (coef ls) (coef rs) (i - k) else 0)
  | [], F, k, _, _, i => by
    show coef F i = _
    rw [mulF_zero_left _ _ _ coef_nil]
    split <;> grind
  | l :: ls, F, k, h, hr, i => by
    simp only [List.length_cons] at h
    unfold addAll
    rw [coef_addAll rs ls _ (k + 1) (by rw [addAt_len]; omega) hr i, coef_addAt rs F k l (by omega) i]
    by_cases h1 : k ≤ i
    · rw [if_pos h1, if_pos h1]
      by_cases h2 : k + 1 ≤ i
      · rw [if_pos h2, show i - k = (i - (k + 1)) + 1 by omega]
        show _ = coef F i + (coef (l :: ls) 0 * coef rs (i - (k + 1) + 1) + mulF (tl (coef (l :: ls))) (coef rs) (i - (k + 1)))
        rw [coef_cons_zero, mulF_congr_left (coef rs) (f := tl (coef (l :: ls))) (f' := coef ls) fun j => coef_cons_succ l ls j]
        grind
      · rw [if_neg h2, show i - k = 0 by omega]
        show _ = coef F i + coef (l :: ls) 0 * coef rs 0
        rw [coef_cons_zero]
        grind
    · rw [if_neg h1, if_neg h1, if_neg (by omega)]
      grind
def toR (l : List Int) : List Rat := l.map fun z : Int => (z : Rat)
theorem addAt_cast : ∀ (rs F : List Int) (k : Nat) (l : Int), toR (addAt 0 opI F k l rs) = addAt 0 opR (toR F) k (l : Rat) (toR rs)
  | [], F, k, l => rfl
  | r :: rs, F, k, l => by
    show toR (addAt 0 opI (F.set k (opI (F.getD k 0) l r)) (k + 1) l rs) = addAt 0 opR ((toR F).set k (opR ((toR F).getD k 0) l r)) (k + 1) l (toR rs)
    rw [addAt_cast rs]
    congr 1
    unfold toR
    rw [List.map_set]
    congr 1
    unfold opI opR
    rw [List.getD_eq_getElem?_getD, List.getD_eq_getElem?_getD, List.getElem?_map]
    cases F[k]? with
    | none => simp; try grind
    | some x => simp
theorem addAll_cast : ∀ (ls F : List Int) (k : Nat) (rs : List Int), toR (addAll 0 opI F k ls rs) = addAll 0 opR (toR F) k (toR ls) (toR rs)
  | [], F, k, rs => rfl
  | l :: ls, F, k, rs => by
    show toR (addAll 0 opI (addAt 0 opI F k l rs) (k + 1) ls rs) = addAll 0 opR (addAt 0 opR (toR F) k l (toR rs)) (k + 1) (toR ls) (toR rs)
    rw [addAll_cast ls, addAt_cast]
end PL
namespace Q
open DL PySem PL
/-! ### whole tops -/
def LI (l : List Int) : D := .lst (l.map D.int)
def low (xs : List Rat) : Nat := xs.foldl (fun b x => Nat.lcm b x.den) 1
theorem low_dvd {M : Nat} : ∀ (xs : List Rat) (b : Nat), b ∣ M → (∀ x ∈ xs, x.den ∣ M) → xs.foldl (fun b x => Nat.lcm b x.den) b ∣ M
  | [], b, h, _ => h
  | x :: xs, b, h, h' => by
    rw [List.foldl_cons]
    exact low_dvd xs _ (Nat.lcm_dvd h (h' x List.mem_cons_self)) fun y hy => h' y (List.mem_cons_of_mem _ hy)
theorem low_step : ∀ (xs : List Rat) (b : Nat), b ∣ xs.foldl (fun b x => Nat.lcm b x.den) b ∧ ∀ x ∈ xs, x.den ∣ xs.foldl (fun b x => Nat.lcm b x.den) b
  | [], b => ⟨Nat.dvd_refl _, fun x h => nomatch h⟩
  | x :: xs, b => by
    rw [List.foldl_cons]
    obtain ⟨h1, h2⟩ := low_step xs (Nat.lcm b x.den)
    refine ⟨Nat.dvd_trans (Nat.dvd_lcm_left _ _) h1, fun y hy => ?_⟩
    rcases List.mem_cons.mp hy with rfl | hy
    · exact Nat.dvd_trans (Nat.dvd_lcm_right _ _) h1
    · exact h2 y hy
/-- the tops over one bottom -/
def tops (xs : List Rat) : List Int := xs.map fun x => x.num * ((low xs : Int).fdiv x.den)
theorem lcm_loop {M : Nat} (h0 : 0 < M) (hM : M < 10 ^ 60) : ∀ (xs : List Rat) (b : Nat) (v0 v2 : SV), b ∣ M → (∀ x ∈ xs, x.den ∣ M) →
    ∃ v, loopM (mTg (tgN 2) (mSet 1 (mCall cLcm (mCons (mVar 1) (mCons (mFld 0 1 (mVar 2)) mNil))))) (xs.map rat) [v0, .val (.int (b : Nat)), v2] = retM (.nx, [v0, .val (.int (xs.foldl (fun b x => Nat.lcm b x.den) b : Nat)), v])
  | [], b, v0, v2, _, _ => ⟨v2, rfl⟩
  | x :: xs, b, v0, v2, h, h' => by
    obtain ⟨v, ih⟩ := lcm_loop h0 hM xs (Nat.lcm b x.den) v0 (.val (rat x)) (Nat.lcm_dvd h (h' x List.mem_cons_self)) fun y hy => h' y (List.mem_cons_of_mem _ hy)
    refine ⟨v, ?_⟩
    have b1 : b < bigN := Nat.lt_trans (Nat.lt_of_le_of_lt (Nat.le_of_dvd h0 h) hM) pow_big1
    have b2 : x.den < bigN := Nat.lt_trans (Nat.lt_of_le_of_lt (Nat.le_of_dvd h0 (h' x List.mem_cons_self)) hM) pow_big1
    rw [List.foldl_cons, ← ih]
    funext p
    rw [List.map_cons]
    conv => lhs; unfold loopM
    simp [runD, env0, mSeq, mIfS, mNot, mB, mIsC, mVar, isC, mRet, mC, mTV, mAnd, mOr, mBin, mFld, dEqF, flV, retM, DL.bindM, mNx, mCall, lenM, mCons, mNil, mTup, mIsT, isT, mSet, mAsg, tgTup, tgCons, tgN, tgNil, mk_Ratio_1, mk_Ratio_2, mCallO, lenO, runO, mRetO, mLst, mIf, mUn, dNegI, mIsT2, mNoP, mPart, oListC, mTg, ratE x, cLcm, b1, b2]
theorem wholes_eq {M : Nat} (h0 : 0 < M) (hM : M < 10 ^ 60) {xs : List Rat} (hl : xs.length ≤ 1000) (hx : ∀ x ∈ xs, x.den ∣ M) (hs : AllSz xs) : d_wholes [L xs] = retM (.tup [.int (low xs : Nat), LI (tops xs)]) := by
  obtain ⟨v, h⟩ := lcm_loop h0 hM xs 1 (.val (L xs)) .un (Nat.one_dvd _) hx
  have lw : low xs ∣ M := low_dvd xs 1 (Nat.one_dvd _) hx
  have lz : low xs < 10 ^ 60 := Nat.lt_of_le_of_lt (Nat.le_of_dvd h0 lw) hM
  have hc : ∀ v0 v2 : SV, compM (tgN 2) mYes (mBin dMulU (mFld 0 0 (mVar 2)) (mBin dDivI (mVar 1) (mFld 0 1 (mVar 2)))) [v0, .val (.int (low xs : Nat)), v2] (xs.map rat) = retM ((tops xs).map D.int) := fun v0 v2 => by
    unfold tops
    rw [List.map_map]
    refine comp_map fun x hxm => ?_
    have sx := hs x hxm
    have d1 : x.den < bigN := Nat.lt_trans sx.d pow_big1
    have d2 : ((low xs : Int).fdiv x.den).natAbs < 10 ^ 60 := by
      rw [Int.fdiv_eq_ediv_of_nonneg _ (by omega)]
      have : ((low xs : Int) / (x.den : Int)) = ((low xs / x.den : Nat) : Int) := by simp [runD, env0, mSeq, mIfS, mNot, mB, mIsC, mVar, isC, mRet, mC, mTV, mAnd, mOr, mBin, mFld, dEqF, flV, retM, DL.bindM, mNx, mCall, lenM, mCons, mNil, mTup, mIsT, isT, mSet, mAsg, tgTup, tgCons, tgN, tgNil, mk_Ratio_1, mk_Ratio_2, mCallO, lenO, runO, mRetO, mLst, mIf, mUn, dNegI, mIsT2, mNoP, mPart, oListC]
      rw [this, Int.natAbs_natCast]
      exact Nat.lt_of_le_of_lt (Nat.div_le_self _ _) lz
    have hm := mulII sx.n d2
    funext p
    simp [runD, env0, mSeq, mIfS, mNot, mB, mIsC, mVar, isC, mRet, mC, mTV, mAnd, mOr, mBin, mFld, dEqF, flV, retM, DL.bindM, mNx, mCall, lenM, mCons, mNil, mTup, mIsT, isT, mSet, mAsg, tgTup, tgCons, tgN, tgNil, mk_Ratio_1, mk_Ratio_2, mCallO, lenO, runO, mRetO, mLst, mIf, mUn, dNegI, mIsT2, mNoP, mPart, oListC, ratE x, dDivI, dII, x.den_nz, d1, hm]
  have hm : m_wholes = mSeq (mSet 1 (mC (.int 1))) (mSeq (mFor (srcL (mVar 0)) (tgN 2) (mSet 1 (mCall cLcm (mCons (mVar 1) (mCons (mFld 0 1 (mVar 2)) mNil))))) (mRet (mTup (mCons (mVar 1) (mCons (mLst (mLc (srcL (mVar 0)) [2] (tgN 2) mYes (mBin dMulU (mFld 0 0 (mVar 2)) (mBin dDivI (mVar 1) (mFld 0 1 (mVar 2)))))) mNil))))) := rfl
  have hl2 : xs.length ≤ 100000 := by omega
  have h' : loopM (mTg (tgN 2) (mSet 1 (mCall cLcm (mCons (mVar 1) (mCons (mFld 0 1 (mVar 2)) mNil))))) (xs.map rat) [.val (.lst (xs.map rat)), .val (.int 1), .un] = retM (.nx, [.val (L xs), .val (.int (low xs : Nat)), v]) := h
  generalize mSet 1 (mCall cLcm (mCons (mVar 1) (mCons (mFld 0 1 (mVar 2)) mNil))) = body at *
  generalize mBin dMulU (mFld 0 0 (mVar 2)) (mBin dDivI (mVar 1) (mFld 0 1 (mVar 2))) = elt at *
  have hc' := hc (.val (.lst (xs.map rat))) .un
  funext p
  simp [runD, env0, mSeq, mIfS, mNot, mB, mIsC, mVar, isC, mRet, mC, mTV, mAnd, mOr, mBin, mFld, dEqF, flV, retM, DL.bindM, mNx, mCall, lenM, mCons, mNil, mTup, mIsT, isT, mSet, mAsg, tgTup, tgCons, tgN, tgNil, mk_Ratio_1, mk_Ratio_2, mCallO, lenO, runO, mRetO, mLst, mIf, mUn, dNegI, mIsT2, mNoP, mPart, oListC, d_wholes, hm, L, mFor, srcL, h', mLc, hl2, wipeE, hc', LI]
/-! ### over one bottom -/
theorem over_eq {ts : List Int} {d : Int} (hl : ts.length ≤ 1000) (hd : d ≠ 0) (hz : d.natAbs < bigN) : o_line_over [LI ts, .int d] = retM ((trim (ts.map fun t => Rat.divInt t d)).map rat) := by
  have ht := trimmed_eq (ts.map fun t => Rat.divInt t d) (by rw [List.length_map]; exact hl)
  have hc : ∀ v : SV, compM (tgN 2) mYes (mCall (mk_Ratio_2 d_Ratio___init__) (mCons (mVar 2) (mCons (mVar 1) mNil))) [v, .val (.int d), .un] (ts.map D.int) = retM ((ts.map fun t => Rat.divInt t d).map rat) := fun v => by
    rw [List.map_map]
    refine comp_map fun x hx => ?_
    have hi := init_eq x d hd hz
    funext p
    simp [runD, env0, mSeq, mIfS, mNot, mB, mIsC, mVar, isC, mRet, mC, mTV, mAnd, mOr, mBin, mFld, dEqF, flV, retM, DL.bindM, mNx, mCall, lenM, mCons, mNil, mTup, mIsT, isT, mSet, mAsg, tgTup, tgCons, tgN, tgNil, mk_Ratio_1, mk_Ratio_2, mCallO, lenO, runO, mRetO, mLst, mIf, mUn, dNegI, mIsT2, mNoP, mPart, oListC, hi]
  have hl2 : ts.length ≤ 100000 := by omega
  have hm : m_line_over = mRetO (mCallO (lenO 1 o_trimmed) (mCons (mLst (mLc (srcL (mVar 0)) [2] (tgN 2) mYes (mCall (mk_Ratio_2 d_Ratio___init__) (mCons (mVar 2) (mCons (mVar 1) mNil))))) mNil)) := rfl
  generalize mCall (mk_Ratio_2 d_Ratio___init__) (mCons (mVar 2) (mCons (mVar 1) mNil)) = elt at *
  unfold L at ht
  have hc' := hc (.val (LI ts))
  unfold LI at hc'
  simp only [List.map_map] at ht hc'
  funext p
  simp [runD, env0, mSeq, mIfS, mNot, mB, mIsC, mVar, isC, mRet, mC, mTV, mAnd, mOr, mBin, mFld, dEqF, flV, retM, DL.bindM, mNx, mCall, lenM, mCons, mNil, mTup, mIsT, isT, mSet, mAsg, tgTup, tgCons, tgN, tgNil, mk_Ratio_1, mk_Ratio_2, mCallO, lenO, runO, mRetO, mLst, mIf, mUn, dNegI, mIsT2, mNoP, mPart, oListC, o_line_over, hm, LI, mLc, srcL, wipeE, hl2, hc', ht]
theorem enumD_cons (i : Nat) (d : D) (ds : List D) : enumD i (d :: ds) = .tup [.int (i : Nat), d] :: enumD (i + 1) ds := rfl
theorem ixN_nat {n i : Nat} (h : i < n) : L2.ixN n (i : Int) = some i := by
  unfold L2.ixN
  rw [if_pos (by omega), if_pos (by omega), Int.toNat_natCast]
def pEnv (v0 v1 v2 v3 v4 v5 : SV) (F : List Int) (v7 v8 v9 v10 : SV) : Env' := [v0, v1, v2, v3, v4, v5, .own (F.map D.int), v7, v8, v9, v10]
def pBody : MS := mSetIx 6 (mBin dAddU (mBin atD (mVarB 6) (mBin dAddU (mVar 7) (mVar 9))) (mBin dMulU (mVar 8) (mVar 10))) (mBin dAddU (mVar 7) (mVar 9))
def pTg : MG := tgTup 2 (tgCons (tgN 9) (tgCons (tgN 10) tgNil))
theorem p_inner (v0 v1 v2 v3 v4 v5 : SV) {a : Nat} {l : Int} (hl : l.natAbs < 10 ^ 60) : ∀ (rs F : List Int) (t : Nat) (v9 v10 : SV), a + t + rs.length ≤ F.length → (∀ r ∈ rs, r.natAbs < 10 ^ 60) →
    ∃ w9 w10, loopM (mTg pTg pBody) (enumD t (rs.map D.int)) (pEnv v0 v1 v2 v3 v4 v5 F (.val (.int (a : Nat))) (.val (.int l)) v9 v10) = retM (.nx, pEnv v0 v1 v2 v3 v4 v5 (addAt 0 opI F (a + t) l rs) (.val (.int (a : Nat))) (.val (.int l)) w9 w10)
  | [], F, t, v9, v10, _, _ => ⟨v9, v10, rfl⟩
  | r :: rs, F, t, v9, v10, h, hr => by
    simp only [List.length_cons] at h
    obtain ⟨w9, w10, ih⟩ := p_inner v0 v1 v2 v3 v4 v5 (a := a) hl rs (F.set (a + t) (opI (F.getD (a + t) 0) l r)) (t + 1) (.val (.int (t : Nat))) (.val (.int r)) (by simp [runD, env0, mSeq, mIfS, mNot, mB, mIsC, mVar, isC, mRet, mC, mTV, mAnd, mOr, mBin, mFld, dEqF, flV, retM, DL.bindM, mNx, mCall, lenM, mCons, mNil, mTup, mIsT, isT, mSet, mAsg, tgTup, tgCons, tgN, tgNil, mk_Ratio_1, mk_Ratio_2, mCallO, lenO, runO, mRetO, mLst, mIf, mUn, dNegI, mIsT2, mNoP, mPart, oListC]; omega) fun x hx => hr x (List.mem_cons_of_mem _ hx)
    refine ⟨w9, w10, ?_⟩
    have hat : F[a + t]? = some (F.getD (a + t) 0) := by
      rw [List.getD_eq_getElem?_getD, List.getElem?_eq_getElem (by omega : a + t < F.length)]; rfl
    have h1 : atD (.lst (F.map D.int)) (.int ((a : Int) + (t : Nat))) = retM (.int (F.getD (a + t) 0)) := by
      have := at_lst (ds := F.map D.int) (i := a + t) (d := .int (F.getD (a + t) 0)) (by rw [List.getElem?_map, hat]; rfl)
      rw [← this]
      congr 2
    have h2 := mulII hl (hr r List.mem_cons_self)
    have h3 : L2.ixN F.length ((a : Int) + (t : Nat)) = some (a + t) := by
      have := ixN_nat (n := F.length) (i := a + t) (by omega)
      rw [← this]
      congr 1
    show _ = retM (Out.nx, pEnv v0 v1 v2 v3 v4 v5 (addAt 0 opI (F.set (a + t) (opI (F.getD (a + t) 0) l r)) (a + t + 1) l rs) (.val (.int (a : Nat))) (.val (.int l)) w9 w10)
    rw [show a + t + 1 = a + (t + 1) by omega, ← ih]
    funext p
    rw [List.map_cons, enumD_cons]
    conv => lhs; unfold loopM
    simp [runD, env0, mSeq, mIfS, mNot, mB, mIsC, mVar, isC, mRet, mC, mTV, mAnd, mOr, mBin, mFld, dEqF, flV, retM, DL.bindM, mNx, mCall, lenM, mCons, mNil, mTup, mIsT, isT, mSet, mAsg, tgTup, tgCons, tgN, tgNil, mk_Ratio_1, mk_Ratio_2, mCallO, lenO, runO, mRetO, mLst, mIf, mUn, dNegI, mIsT2, mNoP, mPart, oListC, mTg, pTg, pBody, pEnv, mSetIx, mVarB, addII, h1, h2, h3, opI, List.map_set]
def pTgO : MG := tgTup 2 (tgCons (tgN 7) (tgCons (tgN 8) tgNil))
theorem p_outer (v0 v1 v2 v3 v4 : SV) {rs : List Int} (hr : ∀ r ∈ rs, r.natAbs < 10 ^ 60) : ∀ (ls F : List Int) (a : Nat) (v7 v8 v9 v10 : SV), a + ls.length + rs.length ≤ F.length + 1 → (∀ r ∈ ls, r.natAbs < 10 ^ 60) →
    ∃ w7 w8 w9 w10, loopM (mTg pTgO (mFor (srcE (mCons (mVar 5) mNil)) pTg pBody)) (enumD a (ls.map D.int)) (pEnv v0 v1 v2 v3 v4 (.val (LI rs)) F v7 v8 v9 v10) = retM (.nx, pEnv v0 v1 v2 v3 v4 (.val (LI rs)) (addAll 0 opI F a ls rs) w7 w8 w9 w10)
  | [], F, a, v7, v8, v9, v10, _, _ => ⟨v7, v8, v9, v10, rfl⟩
  | l :: ls, F, a, v7, v8, v9, v10, h, hls => by
    simp only [List.length_cons] at h
    obtain ⟨u9, u10, hin⟩ := p_inner v0 v1 v2 v3 v4 (.val (LI rs)) (a := a) (hls l List.mem_cons_self) rs F 0 v9 v10 (by omega) hr
    obtain ⟨w7, w8, w9, w10, ih⟩ := p_outer v0 v1 v2 v3 v4 hr ls (addAt 0 opI F (a + 0) l rs) (a + 1) (.val (.int (a : Nat))) (.val (.int l)) u9 u10 (by rw [addAt_len]; omega) fun x hx => hls x (List.mem_cons_of_mem _ hx)
    refine ⟨w7, w8, w9, w10, ?_⟩
    show _ = retM (Out.nx, pEnv v0 v1 v2 v3 v4 (.val (LI rs)) (addAll 0 opI (addAt 0 opI F a l rs) (a + 1) ls rs) w7 w8 w9 w10)
    have z : a + 0 = a := rfl
    rw [z] at ih
    rw [← ih]
    funext p
    rw [List.map_cons, enumD_cons]
    conv => lhs; unfold loopM
    have e1 : mTg pTgO (mFor (srcE (mCons (mVar 5) mNil)) pTg pBody) (D.tup [.int (a : Nat), .int l]) (pEnv v0 v1 v2 v3 v4 (.val (LI rs)) F v7 v8 v9 v10) = mFor (srcE (mCons (mVar 5) mNil)) pTg pBody (pEnv v0 v1 v2 v3 v4 (.val (LI rs)) F (.val (.int (a : Nat))) (.val (.int l)) v9 v10) := rfl
    have e2 : mFor (srcE (mCons (mVar 5) mNil)) pTg pBody (pEnv v0 v1 v2 v3 v4 (.val (LI rs)) F (.val (.int (a : Nat))) (.val (.int l)) v9 v10) = retM (.nx, pEnv v0 v1 v2 v3 v4 (.val (LI rs)) (addAt 0 opI F a l rs) (.val (.int (a : Nat))) (.val (.int l)) u9 u10) := by
      rw [z] at hin
      rw [← hin]
      rfl
    rw [e1, e2]
    rfl
/-- the product of two lines -/
def mulL (a b : List Rat) : List Rat := (List.range (a.length + b.length - 1)).map fun i : Nat => mulF (coef a) (coef b) i
theorem coef_mulL {a b : List Rat} (ha : a ≠ []) (hb : b ≠ []) (i : Nat) : coef (mulL a b) i = mulF (coef a) (coef b) i := by
  unfold mulL
  rw [coef_map_range]
  split
  · rfl
  · have h1 : 0 < a.length := List.length_pos_iff.mpr ha
    have h2 : 0 < b.length := List.length_pos_iff.mpr hb
    have := (mulF_top (g := coef b) (m := b.length - 1) (fun j hj => coef_beyond (by omega)) (a.length - 1) (coef a) fun j hj => coef_beyond (by omega)).2 i (by omega)
    rw [this]
end Q
end

section
set_option Elab.async false
set_option linter.all false
set_option maxRecDepth 100000
set_option maxHeartbeats 4000000
/-! the plain law: what the package's functions tell. -/
namespace Q
open DL PySem PL
theorem num_den (x : Rat) : (x.num : Rat) = x * (x.den : Rat) := by
  have h := Rat.num_divInt_den x
  rw [Rat.divInt_eq_div] at h
  have hd : ((x.den : Int) : Rat) ≠ 0 := by
    intro z
    have := x.den_nz
    have z2 : (x.den : Int) = 0 := by exact_mod_cast z
    omega
  rw [Rat.intCast_natCast] at h hd
  grind
theorem top_val {x : Rat} {w : Nat} (h : x.den ∣ w) : ((x.num * ((w : Int).fdiv x.den) : Int) : Rat) = x * (w : Rat) := by
  obtain ⟨q, rfl⟩ := h
  have hd : (x.den : Int) ≠ 0 := by have := x.den_nz; omega
  rw [show ((x.den * q : Nat) : Int) = (x.den : Int) * (q : Int) by simp [runD, env0, mSeq, mIfS, mNot, mB, mIsC, mVar, isC, mRet, mC, mTV, mAnd, mOr, mBin, mFld, dEqF, flV, retM, DL.bindM, mNx, mCall, lenM, mCons, mNil, mTup, mIsT, isT, mSet, mAsg, tgTup, tgCons, tgN, tgNil, mk_Ratio_1, mk_Ratio_2, mCallO, lenO, runO, mRetO, mLst, mIf, mUn, dNegI, mIsT2, mNoP, mPart, oListC], Int.mul_fdiv_cancel_left _ hd]
  rw [Rat.intCast_mul, num_den, show ((x.den * q : Nat) : Rat) = (x.den : Rat) * (q : Rat) by simp [runD, env0, mSeq, mIfS, mNot, mB, mIsC, mVar, isC, mRet, mC, mTV, mAnd, mOr, mBin, mFld, dEqF, flV, retM, DL.bindM, mNx, mCall, lenM, mCons, mNil, mTup, mIsT, isT, mSet, mAsg, tgTup, tgCons, tgN, tgNil, mk_Ratio_1, mk_Ratio_2, mCallO, lenO, runO, mRetO, mLst, mIf, mUn, dNegI, mIsT2, mNoP, mPart, oListC], Rat.intCast_natCast]
  grind
theorem coef_tops (xs : List Rat) (i : Nat) : coef (toR (tops xs)) i = (low xs : Rat) * coef xs i := by
  unfold coef toR tops
  rw [List.map_map, List.getD_eq_getElem?_getD, List.getD_eq_getElem?_getD, List.getElem?_map]
  by_cases h : i < xs.length
  · rw [List.getElem?_eq_getElem h]
    have := top_val ((low_step xs 1).2 xs[i] (List.getElem_mem h))
    show ((xs[i].num * ((low xs : Int).fdiv xs[i].den) : Int) : Rat) = (low xs : Rat) * xs[i]
    unfold low
    rw [this]
    grind
  · rw [List.getElem?_eq_none (by omega)]
    show (0 : Rat) = (low xs : Rat) * 0
    grind
theorem low_pos (xs : List Rat) : 0 < low xs := by
  have key : ∀ (xs : List Rat) (b : Nat), 0 < b → 0 < xs.foldl (fun b x => Nat.lcm b x.den) b := by
    intro xs
    induction xs with
    | nil => intro b h; exact h
    | cons x xs ih =>
      intro b h
      rw [List.foldl_cons]
      exact ih _ (Nat.lcm_pos h (Nat.pos_of_ne_zero x.den_nz))
  exact key xs 1 (by omega)
/-- fit for a product: one bottom for all, tops small -/
structure Fit (M : Nat) (xs : List Rat) : Prop where
  p : 0 < M
  m : M < 10 ^ 60
  d : ∀ x ∈ xs, x.den ∣ M
  s : AllSz xs
  t : ∀ t ∈ tops xs, t.natAbs < 10 ^ 60
  l : xs.length ≤ 100
theorem coef_zeros (n i : Nat) : coef (toR ((List.range n).map fun _ => (0 : Int))) i = 0 := by
  unfold toR
  rw [List.map_map]
  have := coef_map_range n (fun _ => 0) i
  rw [show ((fun z : Int => (z : Rat)) ∘ fun _ : Nat => (0 : Int)) = fun _ => (0 : Rat) from rfl, this]
  split <;> rfl
theorem prod_eq {M M' : Nat} {a b : List Rat} (ha : Fit M a) (hb : Fit M' b) (na : a ≠ []) (nb : b ≠ []) : o_line_product [L a, L b] = retM ((trim (mulL a b)).map rat) := by
  have pa : 0 < a.length := List.length_pos_iff.mpr na
  have pb : 0 < b.length := List.length_pos_iff.mpr nb
  have la := ha.l
  have lb := hb.l
  have wa := wholes_eq ha.p ha.m (by omega) ha.d ha.s
  have wb := wholes_eq hb.p hb.m (by omega) hb.d hb.s
  have ta : (tops a).length = a.length := by unfold tops; simp [runD, env0, mSeq, mIfS, mNot, mB, mIsC, mVar, isC, mRet, mC, mTV, mAnd, mOr, mBin, mFld, dEqF, flV, retM, DL.bindM, mNx, mCall, lenM, mCons, mNil, mTup, mIsT, isT, mSet, mAsg, tgTup, tgCons, tgN, tgNil, mk_Ratio_1, mk_Ratio_2, mCallO, lenO, runO, mRetO, mLst, mIf, mUn, dNegI, mIsT2, mNoP, mPart, oListC]
  have tb : (tops b).length = b.length := by unfold tops; simp [runD, env0, mSeq, mIfS, mNot, mB, mIsC, mVar, isC, mRet, mC, mTV, mAnd, mOr, mBin, mFld, dEqF, flV, retM, DL.bindM, mNx, mCall, lenM, mCons, mNil, mTup, mIsT, isT, mSet, mAsg, tgTup, tgCons, tgN, tgNil, mk_Ratio_1, mk_Ratio_2, mCallO, lenO, runO, mRetO, mLst, mIf, mUn, dNegI, mIsT2, mNoP, mPart, oListC]
  obtain ⟨F0, hF0⟩ : ∃ F0 : List Int, F0 = (List.range (a.length + b.length - 1)).map fun _ => (0 : Int) := ⟨_, rfl⟩
  have lF0 : F0.length = a.length + b.length - 1 := by rw [hF0]; simp [runD, env0, mSeq, mIfS, mNot, mB, mIsC, mVar, isC, mRet, mC, mTV, mAnd, mOr, mBin, mFld, dEqF, flV, retM, DL.bindM, mNx, mCall, lenM, mCons, mNil, mTup, mIsT, isT, mSet, mAsg, tgTup, tgCons, tgN, tgNil, mk_Ratio_1, mk_Ratio_2, mCallO, lenO, runO, mRetO, mLst, mIf, mUn, dNegI, mIsT2, mNoP, mPart, oListC]
  obtain ⟨w7, w8, w9, w10, hl⟩ := p_outer (.val (L a)) (.val (L b)) (.val (.int (low a : Nat))) (.val (LI (tops a))) (.val (.int (low b : Nat))) hb.t (tops a) F0 0 .un .un .un .un (by rw [ta, tb, lF0]; omega) ha.t
  obtain ⟨F, hF⟩ : ∃ F, F = addAll 0 opI F0 0 (tops a) (tops b) := ⟨_, rfl⟩
  rw [← hF] at hl
  have lF : F.length = a.length + b.length - 1 := by rw [hF, addAll_len, lF0]
  have la0 := low_pos a
  have lb0 := low_pos b
  have lwa : low a < 10 ^ 60 := Nat.lt_of_le_of_lt (Nat.le_of_dvd ha.p (low_dvd a 1 (Nat.one_dvd _) ha.d)) ha.m
  have lwb : low b < 10 ^ 60 := Nat.lt_of_le_of_lt (Nat.le_of_dvd hb.p (low_dvd b 1 (Nat.one_dvd _) hb.d)) hb.m
  have hd0 : ((low a : Int) * (low b : Int)) ≠ 0 := Int.mul_ne_zero (by omega) (by omega)
  have hdz : ((low a : Int) * (low b : Int)).natAbs < bigN := by
    rw [Int.natAbs_mul, Int.natAbs_natCast, Int.natAbs_natCast]
    exact Nat.lt_trans (Nat.mul_lt_mul'' lwa lwb) pow_big
  have ho := over_eq (ts := F) (d := (low a : Int) * (low b : Int)) (by omega) hd0 hdz
  have hmm := mulII (i := (low a : Int)) (j := (low b : Int)) (by rw [Int.natAbs_natCast]; exact lwa) (by rw [Int.natAbs_natCast]; exact lwb)
  have tl : ∀ ts : List Int, (toR ts).length = ts.length := fun ts => by unfold toR; rw [List.length_map]
  have same : trim (F.map fun t => Rat.divInt t ((low a : Int) * (low b : Int))) = trim (mulL a b) := by
    refine trim_ext _ _ fun i => ?_
    rw [coef_mulL na nb]
    have e1 : coef (F.map fun t => Rat.divInt t ((low a : Int) * (low b : Int))) i = coef (toR F) i / ((low a : Rat) * (low b : Rat)) := by
      unfold coef toR
      rw [List.getD_eq_getElem?_getD, List.getD_eq_getElem?_getD, List.getElem?_map, List.getElem?_map]
      cases F[i]? with
      | none => show (0 : Rat) = 0 / _; grind
      | some t =>
        show Rat.divInt t ((low a : Int) * (low b : Int)) = (t : Rat) / ((low a : Rat) * (low b : Rat))
        rw [Rat.divInt_eq_div, Rat.intCast_mul, Rat.intCast_natCast, Rat.intCast_natCast]
    have e2 : coef (toR F) i = mulF (coef (toR (tops a))) (coef (toR (tops b))) i := by
      rw [hF, addAll_cast, coef_addAll _ _ _ _ (by rw [tl, tl, tl, ta, tb, lF0]; omega) (by intro z; have := congrArg List.length z; rw [tl, tb, List.length_nil] at this; omega), hF0, coef_zeros, if_pos (Nat.zero_le _), Nat.sub_zero]
      grind
    rw [e1, e2, mulF_congr_left _ (coef_tops a), mulF_congr_right _ (coef_tops b), mulF_smul_left, mulF_smul_right]
    have h1 : (low a : Rat) ≠ 0 := by
      intro z
      have : low a = 0 := by exact_mod_cast z
      omega
    have h2 : (low b : Rat) ≠ 0 := by
      intro z
      have : low b = 0 := by exact_mod_cast z
      omega
    grind
  have hz : compM (tgN 7) mYes (mC (.int 0)) [.val (L a), .val (L b), .val (.int (low a : Nat)), .val (LI (tops a)), .val (.int (low b : Nat)), .val (LI (tops b)), .un, .un, .un, .un, .un] (rngD 0 (a.length + b.length - 1)) = retM (F0.map D.int) := by
    rw [hF0, List.map_map]
    exact comp_rng fun j hj => rfl
  have hin : m_line_product = mSeq (mIfS (mOr (mB (mBin (dEqU false) (mCall cLen (mCons (mVar 0) mNil)) (mC (.int 0)))) (mB (mBin (dEqU false) (mCall cLen (mCons (mVar 1) mNil)) (mC (.int 0))))) (mRetO (mNew mNil)) mNx) (mSeq (mAsg (tgTup 2 (tgCons (tgN 2) (tgCons (tgN 3) tgNil))) (mCall (lenM 1 d_wholes) (mCons (mVar 0) mNil))) (mSeq (mAsg (tgTup 2 (tgCons (tgN 4) (tgCons (tgN 5) tgNil))) (mCall (lenM 1 d_wholes) (mCons (mVar 1) mNil))) (mSeq (mSetO 6 (mLc (srcR1 (mCons (mBin dSubU (mBin dAddU (mCall cLen (mCons (mVar 3) mNil)) (mCall cLen (mCons (mVar 5) mNil))) (mC (.int 1))) mNil)) [7] (tgN 7) mYes (mC (.int 0)))) (mSeq (mFor (srcE (mCons (mVar 3) mNil)) pTgO (mFor (srcE (mCons (mVar 5) mNil)) pTg pBody)) (mFrz 6 (mRetO (mCallO (lenO 2 o_line_over) (mCons (mVar 6) (mCons (mBin dMulU (mVar 2) (mVar 4)) mNil))))))))) := rfl
  generalize mFor (srcE (mCons (mVar 5) mNil)) pTg pBody = inner at *
  generalize pTgO = g at *
  have hlen : (rngD 0 (a.length + b.length - 1)).length ≤ 100000 := by unfold rngD; rw [List.length_map, List.length_range]; omega
  have n1 : ((a.length : Int) + (b.length : Int) - 1).toNat = a.length + b.length - 1 := by omega
  have n2 : -1000000 ≤ (a.length : Int) + (b.length : Int) - 1 ∧ (a.length : Int) + (b.length : Int) - 1 ≤ 1000000 := by omega
  have na' : ¬ ((a.length : Int) = 0) := by omega
  have nb' : ¬ ((b.length : Int) = 0) := by omega
  have c1 : cLen [LI (tops a)] = retM (.int (a.length : Nat)) := by rw [← ta]; unfold LI; simp [runD, env0, mSeq, mIfS, mNot, mB, mIsC, mVar, isC, mRet, mC, mTV, mAnd, mOr, mBin, mFld, dEqF, flV, retM, DL.bindM, mNx, mCall, lenM, mCons, mNil, mTup, mIsT, isT, mSet, mAsg, tgTup, tgCons, tgN, tgNil, mk_Ratio_1, mk_Ratio_2, mCallO, lenO, runO, mRetO, mLst, mIf, mUn, dNegI, mIsT2, mNoP, mPart, oListC, cLen]
  have c2 : cLen [LI (tops b)] = retM (.int (b.length : Nat)) := by rw [← tb]; unfold LI; simp [runD, env0, mSeq, mIfS, mNot, mB, mIsC, mVar, isC, mRet, mC, mTV, mAnd, mOr, mBin, mFld, dEqF, flV, retM, DL.bindM, mNx, mCall, lenM, mCons, mNil, mTup, mIsT, isT, mSet, mAsg, tgTup, tgCons, tgN, tgNil, mk_Ratio_1, mk_Ratio_2, mCallO, lenO, runO, mRetO, mLst, mIf, mUn, dNegI, mIsT2, mNoP, mPart, oListC, cLen]
  have c3 : cLen [L a] = retM (.int (a.length : Nat)) := by unfold L; simp [runD, env0, mSeq, mIfS, mNot, mB, mIsC, mVar, isC, mRet, mC, mTV, mAnd, mOr, mBin, mFld, dEqF, flV, retM, DL.bindM, mNx, mCall, lenM, mCons, mNil, mTup, mIsT, isT, mSet, mAsg, tgTup, tgCons, tgN, tgNil, mk_Ratio_1, mk_Ratio_2, mCallO, lenO, runO, mRetO, mLst, mIf, mUn, dNegI, mIsT2, mNoP, mPart, oListC, cLen]
  have c4 : cLen [L b] = retM (.int (b.length : Nat)) := by unfold L; simp [runD, env0, mSeq, mIfS, mNot, mB, mIsC, mVar, isC, mRet, mC, mTV, mAnd, mOr, mBin, mFld, dEqF, flV, retM, DL.bindM, mNx, mCall, lenM, mCons, mNil, mTup, mIsT, isT, mSet, mAsg, tgTup, tgCons, tgN, tgNil, mk_Ratio_1, mk_Ratio_2, mCallO, lenO, runO, mRetO, mLst, mIf, mUn, dNegI, mIsT2, mNoP, mPart, oListC, cLen]
  generalize hLa : L a = La at *
  generalize hLb : L b = Lb at *
  have hsA : srcE (mCons (mVar 3) mNil) (pEnv (.val La) (.val Lb) (.val (.int (low a : Nat))) (.val (LI (tops a))) (.val (.int (low b : Nat))) (.val (LI (tops b))) F0 .un .un .un .un) = retM (enumD 0 ((tops a).map D.int)) := by
    funext p
    simp [runD, env0, mSeq, mIfS, mNot, mB, mIsC, mVar, isC, mRet, mC, mTV, mAnd, mOr, mBin, mFld, dEqF, flV, retM, DL.bindM, mNx, mCall, lenM, mCons, mNil, mTup, mIsT, isT, mSet, mAsg, tgTup, tgCons, tgN, tgNil, mk_Ratio_1, mk_Ratio_2, mCallO, lenO, runO, mRetO, mLst, mIf, mUn, dNegI, mIsT2, mNoP, mPart, oListC, srcE, pEnv, LI]
  have hfor : mFor (srcE (mCons (mVar 3) mNil)) g inner (pEnv (.val La) (.val Lb) (.val (.int (low a : Nat))) (.val (LI (tops a))) (.val (.int (low b : Nat))) (.val (LI (tops b))) F0 .un .un .un .un) = retM (.nx, pEnv (.val La) (.val Lb) (.val (.int (low a : Nat))) (.val (LI (tops a))) (.val (.int (low b : Nat))) (.val (LI (tops b))) F w7 w8 w9 w10) := by
    unfold mFor
    rw [hsA]
    exact hl
  generalize mFor (srcE (mCons (mVar 3) mNil)) g inner = outer at *
  unfold pEnv at hfor
  generalize LI (tops a) = Ta at *
  generalize LI (tops b) = Tb at *
  unfold LI at ho
  rw [same] at ho
  funext p
  simp [runD, env0, mSeq, mIfS, mNot, mB, mIsC, mVar, isC, mRet, mC, mTV, mAnd, mOr, mBin, mFld, dEqF, flV, retM, DL.bindM, mNx, mCall, lenM, mCons, mNil, mTup, mIsT, isT, mSet, mAsg, tgTup, tgCons, tgN, tgNil, mk_Ratio_1, mk_Ratio_2, mCallO, lenO, runO, mRetO, mLst, mIf, mUn, dNegI, mIsT2, mNoP, mPart, oListC, o_line_product, hin, c3, c4, eqUI, na, nb, wa, wb, mSetO, mLc, srcR1, c1, c2, addII, subII, n1, n2, hlen, wipeE, hz, hfor, mFrz, hmm, ho]
end Q
end

section
set_option Elab.async false
set_option linter.all false
set_option maxRecDepth 100000
set_option maxHeartbeats 4000000
/-! the plain law: how big numbers are. -/
namespace PL
/-- a whole number over a power of six -/
def Bd (k B : Nat) (x : Rat) : Prop := ∃ t : Int, t.natAbs ≤ B ∧ x * ((6 ^ k : Nat) : Rat) = (t : Rat)
theorem six_ne (k : Nat) : ((6 ^ k : Nat) : Rat) ≠ 0 := by
  intro z
  have : 6 ^ k = 0 := by exact_mod_cast z
  exact absurd this (Nat.ne_of_gt (Nat.pow_pos (by omega)))
theorem Bd.mono {k B B' : Nat} {x : Rat} (h : Bd k B x) (hb : B ≤ B') : Bd k B' x := by
  obtain ⟨t, h1, h2⟩ := h
  exact ⟨t, Nat.le_trans h1 hb, h2⟩
theorem Bd.zero (k : Nat) : Bd k 0 0 := ⟨0, Nat.le_refl _, by rw [Rat.zero_mul]; rfl⟩
theorem Bd.add {k B B' : Nat} {x y : Rat} (h : Bd k B x) (h' : Bd k B' y) : Bd k (B + B') (x + y) := by
  obtain ⟨t, h1, h2⟩ := h
  obtain ⟨u, g1, g2⟩ := h'
  refine ⟨t + u, by omega, ?_⟩
  rw [Rat.add_mul, h2, g2, Rat.intCast_add]
theorem Bd.neg {k B : Nat} {x : Rat} (h : Bd k B x) : Bd k B (-x) := by
  obtain ⟨t, h1, h2⟩ := h
  refine ⟨-t, by omega, ?_⟩
  rw [Rat.neg_mul, h2, Rat.intCast_neg]
theorem Bd.mul {k k' B B' : Nat} {x y : Rat} (h : Bd k B x) (h' : Bd k' B' y) : Bd (k + k') (B * B') (x * y) := by
  obtain ⟨t, h1, h2⟩ := h
  obtain ⟨u, g1, g2⟩ := h'
  refine ⟨t * u, by rw [Int.natAbs_mul]; exact Nat.mul_le_mul h1 g1, ?_⟩
  rw [Nat.pow_add, Rat.intCast_mul, ← h2, ← g2, Rat.natCast_mul]
  grind
theorem Bd.up {k B : Nat} {x : Rat} (h : Bd k B x) (j : Nat) : Bd (k + j) (B * 6 ^ j) x := by
  obtain ⟨t, h1, h2⟩ := h
  refine ⟨t * ((6 ^ j : Nat) : Int), by rw [Int.natAbs_mul, Int.natAbs_natCast]; exact Nat.mul_le_mul h1 (Nat.le_refl _), ?_⟩
  rw [Nat.pow_add, Rat.intCast_mul, ← h2, Rat.natCast_mul, Rat.intCast_natCast]
  grind
theorem Bd.int (n : Int) : Bd 0 n.natAbs (n : Rat) := ⟨n, Nat.le_refl _, by simp⟩
theorem Bd.den {k B : Nat} {x : Rat} (h : Bd k B x) : x.den ∣ 6 ^ k := by
  obtain ⟨t, h1, h2⟩ := h
  have e : x.num * ((6 ^ k : Nat) : Int) = t * (x.den : Int) := by
    have : ((x.num * ((6 ^ k : Nat) : Int) : Int) : Rat) = ((t * (x.den : Int) : Int) : Rat) := by
      rw [Rat.intCast_mul, Rat.intCast_mul, Q.num_den, ← h2, Rat.intCast_natCast, Rat.intCast_natCast]
      grind
    exact_mod_cast this
  have e2 := congrArg Int.natAbs e
  rw [Int.natAbs_mul, Int.natAbs_mul, Int.natAbs_natCast, Int.natAbs_natCast] at e2
  have hc : Nat.Coprime x.den x.num.natAbs := x.reduced.symm
  exact hc.dvd_of_dvd_mul_left ⟨t.natAbs, by rw [e2]; exact Nat.mul_comm _ _⟩
theorem Bd.top {k B w : Nat} {x : Rat} (h : Bd k B x) (hw : w ∣ 6 ^ k) (hd : x.den ∣ w) : (x.num * ((w : Int).fdiv x.den)).natAbs ≤ B := by
  have hv := Q.top_val hd
  obtain ⟨t, h1, h2⟩ := h
  obtain ⟨q, hq⟩ := hw
  have hq0 : 0 < q := by
    rcases Nat.eq_zero_or_pos q with z | z
    · rw [z, Nat.mul_zero] at hq
      exact absurd hq (Nat.ne_of_gt (Nat.pow_pos (by omega)))
    · exact z
  have e : x.num * ((w : Int).fdiv x.den) * (q : Int) = t := by
    have : (((x.num * ((w : Int).fdiv x.den) * (q : Int) : Int)) : Rat) = (t : Rat) := by
      rw [Rat.intCast_mul, hv, ← h2, hq, Rat.natCast_mul, Rat.intCast_natCast]
      grind
    exact_mod_cast this
  have e2 := congrArg Int.natAbs e
  rw [Int.natAbs_mul, Int.natAbs_natCast] at e2
  refine Nat.le_trans ?_ h1
  rw [← e2]
  exact Nat.le_mul_of_pos_right _ hq0
theorem Bd.num {k B : Nat} {x : Rat} (h : Bd k B x) : x.num.natAbs ≤ B := by
  have := h.top h.den (Nat.dvd_refl _)
  rwa [show ((x.den : Int)).fdiv x.den = 1 from Int.fdiv_self (by have := x.den_nz; omega), Int.mul_one] at this
end PL
namespace Q
open DL PySem PL
theorem Bd.sz {k B : Nat} {x : Rat} (h : Bd k B x) (hk : 6 ^ k < 10 ^ 60) (hB : B < 10 ^ 60) : Sz x :=
  ⟨Nat.lt_of_le_of_lt h.num hB, Nat.lt_of_le_of_lt (Nat.le_of_dvd (Nat.pow_pos (by omega)) h.den) hk⟩
def AllBd (k B : Nat) (xs : List Rat) : Prop := ∀ x ∈ xs, Bd k B x
theorem AllBd.sz {k B : Nat} {xs : List Rat} (h : AllBd k B xs) (hk : 6 ^ k < 10 ^ 60) (hB : B < 10 ^ 60) : AllSz xs := fun x hx => Bd.sz (h x hx) hk hB
theorem AllBd.fit {k B : Nat} {xs : List Rat} (h : AllBd k B xs) (hk : 6 ^ k < 10 ^ 60) (hB : B < 10 ^ 60) (hl : xs.length ≤ 100) : Fit (6 ^ k) xs where
  p := Nat.pow_pos (by omega)
  m := hk
  d := fun x hx => (h x hx).den
  s := h.sz hk hB
  l := hl
  t := fun t ht => by
    unfold tops at ht
    obtain ⟨x, hx, rfl⟩ := List.mem_map.mp ht
    exact Nat.lt_of_le_of_lt ((h x hx).top (low_dvd xs 1 (Nat.one_dvd _) fun y hy => (h y hy).den) ((low_step xs 1).2 x hx)) hB
end Q
end

section
set_option Elab.async false
set_option linter.all false
set_option maxRecDepth 100000
set_option maxHeartbeats 4000000
/-! the plain law: told lines and what is made of them. -/
namespace Q
open DL PySem PL
/-- a told line: no nought at its end, numbers that fit, not too long -/
structure Po (k B n : Nat) (xs : List Rat) : Prop where
  tr : Tr xs
  b : ∀ i, Bd k B (coef xs i)
  l : xs.length ≤ n
theorem all_of_coef {P : Rat → Prop} {xs : List Rat} (h : ∀ i, P (coef xs i)) : ∀ x ∈ xs, P x := fun x hx => by
  obtain ⟨i, hi, e⟩ := List.getElem_of_mem hx
  have := h i
  rwa [coef_get hi, e] at this
theorem Po.all {k B n : Nat} {xs : List Rat} (h : Po k B n xs) : AllBd k B xs := all_of_coef h.b
theorem Po.mono {k B B' n n' : Nat} {xs : List Rat} (h : Po k B n xs) (hb : B ≤ B') (hn : n ≤ n') : Po k B' n' xs := ⟨h.tr, fun i => (h.b i).mono hb, Nat.le_trans h.l hn⟩
theorem Po.up {k B n : Nat} {xs : List Rat} (h : Po k B n xs) (j : Nat) : Po (k + j) (B * 6 ^ j) n xs := ⟨h.tr, fun i => (h.b i).up j, h.l⟩
def plusT (a b : List Rat) : List Rat := trim (sumL a b)
def scalT (a : List Rat) (r : Rat) : List Rat := trim (a.map (· * r))
def minusT (a b : List Rat) : List Rat := plusT a (scalT b (-1))
def timesT (a b : List Rat) : List Rat := if a = [] ∨ b = [] then [] else trim (mulL a b)
theorem coef_plusT (a b : List Rat) (i : Nat) : coef (plusT a b) i = coef a i + coef b i := by
  unfold plusT; rw [coef_trim, coef_sumL]
theorem coef_map_mul (a : List Rat) (r : Rat) (i : Nat) : coef (a.map (· * r)) i = coef a i * r := by
  unfold coef
  rw [List.getD_eq_getElem?_getD, List.getD_eq_getElem?_getD, List.getElem?_map]
  cases a[i]? with
  | none => show (0 : Rat) = 0 * r; grind
  | some x => rfl
theorem coef_scalT (a : List Rat) (r : Rat) (i : Nat) : coef (scalT a r) i = coef a i * r := by
  unfold scalT; rw [coef_trim, coef_map_mul]
theorem coef_minusT (a b : List Rat) (i : Nat) : coef (minusT a b) i = coef a i - coef b i := by
  unfold minusT; rw [coef_plusT, coef_scalT]; grind
theorem coef_timesT (a b : List Rat) (i : Nat) : coef (timesT a b) i = mulF (coef a) (coef b) i := by
  unfold timesT
  split
  · rename_i h
    rcases h with rfl | rfl
    · rw [mulF_zero_left _ _ _ coef_nil, coef_nil]
    · rw [mulF_comm, mulF_zero_left _ _ _ coef_nil, coef_nil]
  · rename_i h
    rw [coef_trim, coef_mulL (fun z => h (.inl z)) (fun z => h (.inr z))]
theorem Tr.nil : Tr [] := rfl
theorem trT (l : List Rat) : Tr (trim l) := trim_trim l
theorem tr_plus (a b : List Rat) : Tr (plusT a b) := trT _
theorem tr_scal (a : List Rat) (r : Rat) : Tr (scalT a r) := trT _
theorem tr_minus (a b : List Rat) : Tr (minusT a b) := trT _
theorem tr_times (a b : List Rat) : Tr (timesT a b) := by
  unfold timesT
  split
  · exact Tr.nil
  · exact trT _
theorem len_sumL (a b : List Rat) : (sumL a b).length = max a.length b.length := by unfold sumL; simp [runD, env0, mSeq, mIfS, mNot, mB, mIsC, mVar, isC, mRet, mC, mTV, mAnd, mOr, mBin, mFld, dEqF, flV, retM, DL.bindM, mNx, mCall, lenM, mCons, mNil, mTup, mIsT, isT, mSet, mAsg, tgTup, tgCons, tgN, tgNil, mk_Ratio_1, mk_Ratio_2, mCallO, lenO, runO, mRetO, mLst, mIf, mUn, dNegI, mIsT2, mNoP, mPart, oListC]
theorem len_mulL (a b : List Rat) : (mulL a b).length = a.length + b.length - 1 := by unfold mulL; simp [runD, env0, mSeq, mIfS, mNot, mB, mIsC, mVar, isC, mRet, mC, mTV, mAnd, mOr, mBin, mFld, dEqF, flV, retM, DL.bindM, mNx, mCall, lenM, mCons, mNil, mTup, mIsT, isT, mSet, mAsg, tgTup, tgCons, tgN, tgNil, mk_Ratio_1, mk_Ratio_2, mCallO, lenO, runO, mRetO, mLst, mIf, mUn, dNegI, mIsT2, mNoP, mPart, oListC]
theorem len_plus (a b : List Rat) : (plusT a b).length ≤ max a.length b.length := by
  have := trim_len (sumL a b)
  rw [len_sumL] at this
  exact this
theorem len_scal (a : List Rat) (r : Rat) : (scalT a r).length ≤ a.length := by
  have := trim_len (a.map (· * r))
  rw [List.length_map] at this
  exact this
theorem len_times (a b : List Rat) : (timesT a b).length ≤ a.length + b.length - 1 := by
  unfold timesT
  split
  · simp [runD, env0, mSeq, mIfS, mNot, mB, mIsC, mVar, isC, mRet, mC, mTV, mAnd, mOr, mBin, mFld, dEqF, flV, retM, DL.bindM, mNx, mCall, lenM, mCons, mNil, mTup, mIsT, isT, mSet, mAsg, tgTup, tgCons, tgN, tgNil, mk_Ratio_1, mk_Ratio_2, mCallO, lenO, runO, mRetO, mLst, mIf, mUn, dNegI, mIsT2, mNoP, mPart, oListC]
  · have := trim_len (mulL a b)
    rw [len_mulL] at this
    exact this
theorem len_slope (a : List Rat) : (slopeL a).length = a.length - 1 := by unfold slopeL; simp [runD, env0, mSeq, mIfS, mNot, mB, mIsC, mVar, isC, mRet, mC, mTV, mAnd, mOr, mBin, mFld, dEqF, flV, retM, DL.bindM, mNx, mCall, lenM, mCons, mNil, mTup, mIsT, isT, mSet, mAsg, tgTup, tgCons, tgN, tgNil, mk_Ratio_1, mk_Ratio_2, mCallO, lenO, runO, mRetO, mLst, mIf, mUn, dNegI, mIsT2, mNoP, mPart, oListC]
/-- a list whose last number is not nought is told -/
theorem tr_of_last : ∀ (l : List Rat), (l ≠ [] → coef l (l.length - 1) ≠ 0) → Tr l := fun l h => by
  rcases List.eq_nil_or_concat l with rfl | ⟨m, x, rfl⟩
  · rfl
  · have := h (by simp [runD, env0, mSeq, mIfS, mNot, mB, mIsC, mVar, isC, mRet, mC, mTV, mAnd, mOr, mBin, mFld, dEqF, flV, retM, DL.bindM, mNx, mCall, lenM, mCons, mNil, mTup, mIsT, isT, mSet, mAsg, tgTup, tgCons, tgN, tgNil, mk_Ratio_1, mk_Ratio_2, mCallO, lenO, runO, mRetO, mLst, mIf, mUn, dNegI, mIsT2, mNoP, mPart, oListC])
    rw [List.concat_eq_append] at this ⊢
    have hx : x ≠ 0 := by
      intro z
      apply this
      rw [coef_get (by simp [runD, env0, mSeq, mIfS, mNot, mB, mIsC, mVar, isC, mRet, mC, mTV, mAnd, mOr, mBin, mFld, dEqF, flV, retM, DL.bindM, mNx, mCall, lenM, mCons, mNil, mTup, mIsT, isT, mSet, mAsg, tgTup, tgCons, tgN, tgNil, mk_Ratio_1, mk_Ratio_2, mCallO, lenO, runO, mRetO, mLst, mIf, mUn, dNegI, mIsT2, mNoP, mPart, oListC])]
      simp [runD, env0, mSeq, mIfS, mNot, mB, mIsC, mVar, isC, mRet, mC, mTV, mAnd, mOr, mBin, mFld, dEqF, flV, retM, DL.bindM, mNx, mCall, lenM, mCons, mNil, mTup, mIsT, isT, mSet, mAsg, tgTup, tgCons, tgN, tgNil, mk_Ratio_1, mk_Ratio_2, mCallO, lenO, runO, mRetO, mLst, mIf, mUn, dNegI, mIsT2, mNoP, mPart, oListC, z]
    exact trim_snoc m x hx
theorem tr_slope {a : List Rat} (h : Tr a) : Tr (slopeL a) := by
  refine tr_of_last _ fun hn => ?_
  have h1 : 0 < (slopeL a).length := List.length_pos_iff.mpr hn
  rw [len_slope] at h1 ⊢
  rw [coef_slopeL]
  unfold dF
  have h2 := h.last (by intro z; rw [z] at h1; simp [runD, env0, mSeq, mIfS, mNot, mB, mIsC, mVar, isC, mRet, mC, mTV, mAnd, mOr, mBin, mFld, dEqF, flV, retM, DL.bindM, mNx, mCall, lenM, mCons, mNil, mTup, mIsT, isT, mSet, mAsg, tgTup, tgCons, tgN, tgNil, mk_Ratio_1, mk_Ratio_2, mCallO, lenO, runO, mRetO, mLst, mIf, mUn, dNegI, mIsT2, mNoP, mPart, oListC] at h1)
  rw [show a.length - 1 - 1 + 1 = a.length - 1 by omega]
  intro z
  rcases Rat.mul_eq_zero.mp z with z | z
  · have : ((a.length - 1 - 1 + 1 : Nat) : Rat) = 0 := by rw [Rat.natCast_add]; exact z
    have : a.length - 1 - 1 + 1 = 0 := by exact_mod_cast this
    omega
  · exact h2 z
theorem Po.plus {k B B' n n' : Nat} {a b : List Rat} (h : Po k B n a) (h' : Po k B' n' b) : Po k (B + B') (max n n') (plusT a b) :=
  ⟨tr_plus a b, fun i => by rw [coef_plusT]; exact (h.b i).add (h'.b i), Nat.le_trans (len_plus a b) (by have := h.l; have := h'.l; omega)⟩
theorem Po.scal {k k' B B' n : Nat} {a : List Rat} {r : Rat} (h : Po k B n a) (h' : Bd k' B' r) : Po (k + k') (B * B') n (scalT a r) :=
  ⟨tr_scal a r, fun i => by rw [coef_scalT]; exact (h.b i).mul h', Nat.le_trans (len_scal a r) h.l⟩
theorem bd_m1 : Bd 0 1 (-1) := ⟨-1, by decide, by simp [runD, env0, mSeq, mIfS, mNot, mB, mIsC, mVar, isC, mRet, mC, mTV, mAnd, mOr, mBin, mFld, dEqF, flV, retM, DL.bindM, mNx, mCall, lenM, mCons, mNil, mTup, mIsT, isT, mSet, mAsg, tgTup, tgCons, tgN, tgNil, mk_Ratio_1, mk_Ratio_2, mCallO, lenO, runO, mRetO, mLst, mIf, mUn, dNegI, mIsT2, mNoP, mPart, oListC]⟩
theorem Po.neg {k B n : Nat} {a : List Rat} (h : Po k B n a) : Po k B n (scalT a (-1)) := by
  have := h.scal bd_m1
  rwa [Nat.mul_one, Nat.add_zero] at this
theorem Po.minus {k B B' n n' : Nat} {a b : List Rat} (h : Po k B n a) (h' : Po k B' n' b) : Po k (B + B') (max n n') (minusT a b) := h.plus h'.neg
theorem bd_mulF {k k' B B' : Nat} : ∀ (i : Nat) (f g : Fn), (∀ j, Bd k B (f j)) → (∀ j, Bd k' B' (g j)) → Bd (k + k') ((i + 1) * (B * B')) (mulF f g i)
  | 0, f, g, hf, hg => by
    have := (hf 0).mul (hg 0)
    rw [Nat.zero_add, Nat.one_mul]
    exact this
  | i + 1, f, g, hf, hg => by
    have h1 := (hf 0).mul (hg (i + 1))
    have h2 := bd_mulF i (tl f) g (fun j => hf (j + 1)) hg
    have := h1.add h2
    rw [show (i + 1 + 1) * (B * B') = B * B' + (i + 1) * (B * B') by rw [Nat.add_mul (i + 1) 1, Nat.one_mul, Nat.add_comm]]
    exact this
theorem Po.times {k k' B B' n n' : Nat} {a b : List Rat} (h : Po k B n a) (h' : Po k' B' n' b) : Po (k + k') ((n + n') * (B * B')) (n + n' - 1) (timesT a b) := by
  have hl := len_times a b
  have := h.l
  have := h'.l
  refine ⟨tr_times a b, fun i => ?_, by omega⟩
  by_cases hi : i < (timesT a b).length
  · rw [coef_timesT]
    exact (bd_mulF i _ _ h.b h'.b).mono (Nat.mul_le_mul (by omega) (Nat.le_refl _))
  · rw [coef_beyond (by omega)]
    exact (Bd.zero _).mono (Nat.zero_le _)
theorem Po.der {k B n : Nat} {a : List Rat} (h : Po k B n a) : Po k (n * B) (n - 1) (slopeL a) := by
  have hl := len_slope a
  have := h.l
  refine ⟨tr_slope h.tr, fun i => ?_, by omega⟩
  by_cases hi : i < (slopeL a).length
  · rw [coef_slopeL]
    unfold dF
    have h1 := (Bd.int ((i + 1 : Nat) : Int)).mul (h.b (i + 1))
    rw [Nat.zero_add, Int.natAbs_natCast, show (((i + 1 : Nat) : Int) : Rat) = (i : Rat) + 1 by rw [Rat.intCast_natCast]; simp [runD, env0, mSeq, mIfS, mNot, mB, mIsC, mVar, isC, mRet, mC, mTV, mAnd, mOr, mBin, mFld, dEqF, flV, retM, DL.bindM, mNx, mCall, lenM, mCons, mNil, mTup, mIsT, isT, mSet, mAsg, tgTup, tgCons, tgN, tgNil, mk_Ratio_1, mk_Ratio_2, mCallO, lenO, runO, mRetO, mLst, mIf, mUn, dNegI, mIsT2, mNoP, mPart, oListC]] at h1
    exact h1.mono (Nat.mul_le_mul (by omega) (Nat.le_refl _))
  · rw [coef_beyond (by omega)]
    exact (Bd.zero _).mono (Nat.zero_le _)
end Q
end

section
set_option Elab.async false
set_option linter.all false
set_option maxRecDepth 100000
set_option maxHeartbeats 4000000
/-! the plain law: the package's functions on passed lines. -/
namespace Q
open DL PySem PL
theorem d_of_o {n : Nat} {m : MS} {ds xs : List D} (h : runO n m ds = retM xs) : runD n m ds = retM (.lst xs) := by
  funext p
  have hp := congrFun h p
  unfold runO at hp
  unfold runD
  obtain ⟨r, p1, e1, e2⟩ := bindM_some (m := m (env0 n ds)) hp
  unfold DL.bindM
  rw [e1]
  obtain ⟨o, env⟩ := r
  cases o with
  | ro ys => cases e2; rfl
  | nx => cases e2
  | rt d => cases e2
  | bk => cases e2
  | ct => cases e2
/-- a passed line and what it tells -/
def Gv (d : D) (a : List Rat) : Prop := ∃ xs, Given d xs ∧ xs.length ≤ 31 ∧ trim xs = a
theorem Gv.of {a : List Rat} (h : Tr a) (hl : a.length ≤ 31) : Gv (L a) a := ⟨a, given_L a, hl, h⟩
theorem Gv.want {d : D} {a : List Rat} (h : Gv d a) : o_want_line [d] = retM (a.map rat) := by
  obtain ⟨xs, h1, h2, rfl⟩ := h
  exact want_line_eq h1 h2
theorem Gv.told {d : D} {a : List Rat} (h : Gv d a) : o_told [d] = retM (a.map rat) := by
  obtain ⟨xs, h1, h2, rfl⟩ := h
  exact told_eq h1 h2
theorem Gv.dtold {d : D} {a : List Rat} (h : Gv d a) : d_told [d] = retM (L a) := by
  funext p; simp [runD, env0, mSeq, mIfS, mNot, mB, mIsC, mVar, isC, mRet, mC, mTV, mAnd, mOr, mBin, mFld, dEqF, flV, retM, DL.bindM, mNx, mCall, lenM, mCons, mNil, mTup, mIsT, isT, mSet, mAsg, tgTup, tgCons, tgN, tgNil, mk_Ratio_1, mk_Ratio_2, mCallO, lenO, runO, mRetO, mLst, mIf, mUn, dNegI, mIsT2, mNoP, mPart, oListC, d_told, m_told, h.want, L]
theorem Gv.degree {d : D} {a : List Rat} (h : Gv d a) : d_degree [d] = retM (.int (a.length - 1 : Int)) := by
  obtain ⟨xs, h1, h2, rfl⟩ := h
  exact degree_eq h1 h2
theorem Gv.two {d e : D} {a b : List Rat} (h : Gv d a) (h' : Gv e b) : d_two_lines [d, e] = retM (.tup [L a, L b]) := by
  obtain ⟨xs, h1, h2, rfl⟩ := h
  obtain ⟨ys, g1, g2, rfl⟩ := h'
  exact two_eq h1 h2 g1 g2
theorem plus_eq {d e : D} {a b : List Rat} {k B B' n : Nat} (h : Gv d a) (h' : Gv e b) (pa : Po k B n a) (pb : Po k B' n b) (hn : n ≤ 31) (hk : 6 ^ k < 10 ^ 60) (hB : B < 10 ^ 60) (hB' : B' < 10 ^ 60) : o_plus [d, e] = retM ((plusT a b).map rat) ∧ d_plus [d, e] = retM (L (plusT a b)) := by
  have la := pa.l
  have lb := pb.l
  have hs := lsum_eq (a := a) (b := b) (by omega) (by omega) (pa.all.sz hk hB) (pb.all.sz hk hB')
  have key : o_plus [d, e] = retM ((plusT a b).map rat) := by
    funext p; simp [runD, env0, mSeq, mIfS, mNot, mB, mIsC, mVar, isC, mRet, mC, mTV, mAnd, mOr, mBin, mFld, dEqF, flV, retM, DL.bindM, mNx, mCall, lenM, mCons, mNil, mTup, mIsT, isT, mSet, mAsg, tgTup, tgCons, tgN, tgNil, mk_Ratio_1, mk_Ratio_2, mCallO, lenO, runO, mRetO, mLst, mIf, mUn, dNegI, mIsT2, mNoP, mPart, oListC, o_plus, m_plus, h.two h', hs, plusT]
  exact ⟨key, d_of_o key⟩
theorem minus_eq {d e : D} {a b : List Rat} {k B B' n : Nat} (h : Gv d a) (h' : Gv e b) (pa : Po k B n a) (pb : Po k B' n b) (hn : n ≤ 31) (hk : 6 ^ k < 10 ^ 60) (hB : B < 10 ^ 60) (hB' : B' < 10 ^ 60) : o_minus [d, e] = retM ((minusT a b).map rat) ∧ d_minus [d, e] = retM (L (minusT a b)) := by
  have la := pa.l
  have lb := pb.l
  have hs := lless_eq (a := a) (b := b) (by omega) (by omega) (pa.all.sz hk hB) (pb.all.sz hk hB') (pb.neg.all.sz hk hB')
  have key : o_minus [d, e] = retM ((minusT a b).map rat) := by
    funext p; simp [runD, env0, mSeq, mIfS, mNot, mB, mIsC, mVar, isC, mRet, mC, mTV, mAnd, mOr, mBin, mFld, dEqF, flV, retM, DL.bindM, mNx, mCall, lenM, mCons, mNil, mTup, mIsT, isT, mSet, mAsg, tgTup, tgCons, tgN, tgNil, mk_Ratio_1, mk_Ratio_2, mCallO, lenO, runO, mRetO, mLst, mIf, mUn, dNegI, mIsT2, mNoP, mPart, oListC, o_minus, m_minus, h.two h', hs, minusT, plusT, scalT]
  exact ⟨key, d_of_o key⟩
theorem scaled_eq {d e : D} {a : List Rat} {r : Rat} {k k' B B' n : Nat} (h : Gv d a) (h' : Num e r) (pa : Po k B n a) (hr : Bd k' B' r) (hn : n ≤ 31) (hk : 6 ^ k < 10 ^ 60) (hB : B < 10 ^ 60) (hk' : 6 ^ k' < 10 ^ 60) (hB' : B' < 10 ^ 60) : o_scaled [d, e] = retM ((scalT a r).map rat) ∧ d_scaled [d, e] = retM (L (scalT a r)) := by
  have la := pa.l
  have hs := lby_eq (a := a) (r := r) (by omega) (pa.all.sz hk hB) (Bd.sz hr hk' hB')
  unfold L at hs
  have key : o_scaled [d, e] = retM ((scalT a r).map rat) := by
    funext p; simp [runD, env0, mSeq, mIfS, mNot, mB, mIsC, mVar, isC, mRet, mC, mTV, mAnd, mOr, mBin, mFld, dEqF, flV, retM, DL.bindM, mNx, mCall, lenM, mCons, mNil, mTup, mIsT, isT, mSet, mAsg, tgTup, tgCons, tgN, tgNil, mk_Ratio_1, mk_Ratio_2, mCallO, lenO, runO, mRetO, mLst, mIf, mUn, dNegI, mIsT2, mNoP, mPart, oListC, o_scaled, m_scaled, h.want, h'.want, hs, scalT]
  exact ⟨key, d_of_o key⟩
theorem derived_eq {d : D} {a : List Rat} {k B n : Nat} (h : Gv d a) (pa : Po k B n a) (hn : n ≤ 31) (hk : 6 ^ k < 10 ^ 60) (hB : B < 10 ^ 60) : o_derived [d] = retM ((slopeL a).map rat) ∧ d_derived [d] = retM (L (slopeL a)) := by
  have la := pa.l
  have hs := slope_eq (a := a) (by omega) (pa.all.sz hk hB)
  unfold L at hs
  have key : o_derived [d] = retM ((slopeL a).map rat) := by
    funext p; simp [runD, env0, mSeq, mIfS, mNot, mB, mIsC, mVar, isC, mRet, mC, mTV, mAnd, mOr, mBin, mFld, dEqF, flV, retM, DL.bindM, mNx, mCall, lenM, mCons, mNil, mTup, mIsT, isT, mSet, mAsg, tgTup, tgCons, tgN, tgNil, mk_Ratio_1, mk_Ratio_2, mCallO, lenO, runO, mRetO, mLst, mIf, mUn, dNegI, mIsT2, mNoP, mPart, oListC, o_derived, m_derived, h.want, hs]
  exact ⟨key, d_of_o key⟩
theorem prod_nil {a b : List Rat} (h : a = [] ∨ b = []) : o_line_product [L a, L b] = retM [] := by
  funext p
  rcases h with rfl | rfl
  · simp [runD, env0, mSeq, mIfS, mNot, mB, mIsC, mVar, isC, mRet, mC, mTV, mAnd, mOr, mBin, mFld, dEqF, flV, retM, DL.bindM, mNx, mCall, lenM, mCons, mNil, mTup, mIsT, isT, mSet, mAsg, tgTup, tgCons, tgN, tgNil, mk_Ratio_1, mk_Ratio_2, mCallO, lenO, runO, mRetO, mLst, mIf, mUn, dNegI, mIsT2, mNoP, mPart, oListC, o_line_product, m_line_product, L, cLen, eqUI, mNew]
  · by_cases ha : a = []
    · simp [runD, env0, mSeq, mIfS, mNot, mB, mIsC, mVar, isC, mRet, mC, mTV, mAnd, mOr, mBin, mFld, dEqF, flV, retM, DL.bindM, mNx, mCall, lenM, mCons, mNil, mTup, mIsT, isT, mSet, mAsg, tgTup, tgCons, tgN, tgNil, mk_Ratio_1, mk_Ratio_2, mCallO, lenO, runO, mRetO, mLst, mIf, mUn, dNegI, mIsT2, mNoP, mPart, oListC, o_line_product, m_line_product, L, cLen, eqUI, mNew, ha]
    · simp [runD, env0, mSeq, mIfS, mNot, mB, mIsC, mVar, isC, mRet, mC, mTV, mAnd, mOr, mBin, mFld, dEqF, flV, retM, DL.bindM, mNx, mCall, lenM, mCons, mNil, mTup, mIsT, isT, mSet, mAsg, tgTup, tgCons, tgN, tgNil, mk_Ratio_1, mk_Ratio_2, mCallO, lenO, runO, mRetO, mLst, mIf, mUn, dNegI, mIsT2, mNoP, mPart, oListC, o_line_product, m_line_product, L, cLen, eqUI, mNew, ha]
theorem times_eq {d e : D} {a b : List Rat} {k k' B B' n n' : Nat} (h : Gv d a) (h' : Gv e b) (pa : Po k B n a) (pb : Po k' B' n' b) (hn : (n - 1) + (n' - 1) ≤ 30) (hk : 6 ^ k < 10 ^ 60) (hB : B < 10 ^ 60) (hk' : 6 ^ k' < 10 ^ 60) (hB' : B' < 10 ^ 60) : o_times [d, e] = retM ((timesT a b).map rat) ∧ d_times [d, e] = retM (L (timesT a b)) := by
  have la := pa.l
  have lb := pb.l
  have hs : o_line_product [L a, L b] = retM ((timesT a b).map rat) := by
    unfold timesT
    split
    · rename_i z
      rw [prod_nil z]; rfl
    · rename_i z
      exact prod_eq (pa.all.fit hk hB (by omega)) (pb.all.fit hk' hB' (by omega)) (fun q => z (.inl q)) fun q => z (.inr q)
  have hgt : dGt (.int (((a.length - 1 : Nat) : Int) + ((b.length - 1 : Nat) : Int))) (.int 30) = retM (.bl false) := by
    have : ¬ ((30 : Int) < ((a.length - 1 : Nat) : Int) + ((b.length - 1 : Nat) : Int)) := by omega
    simp [runD, env0, mSeq, mIfS, mNot, mB, mIsC, mVar, isC, mRet, mC, mTV, mAnd, mOr, mBin, mFld, dEqF, flV, retM, DL.bindM, mNx, mCall, lenM, mCons, mNil, mTup, mIsT, isT, mSet, mAsg, tgTup, tgCons, tgN, tgNil, mk_Ratio_1, mk_Ratio_2, mCallO, lenO, runO, mRetO, mLst, mIf, mUn, dNegI, mIsT2, mNoP, mPart, oListC, dGt, dII, this]
  have hw : d_want_at_most [.str "degree", .int 30, .int (((a.length - 1 : Nat) : Int) + ((b.length - 1 : Nat) : Int))] = retM .non := by
    funext p; simp [runD, env0, mSeq, mIfS, mNot, mB, mIsC, mVar, isC, mRet, mC, mTV, mAnd, mOr, mBin, mFld, dEqF, flV, retM, DL.bindM, mNx, mCall, lenM, mCons, mNil, mTup, mIsT, isT, mSet, mAsg, tgTup, tgCons, tgN, tgNil, mk_Ratio_1, mk_Ratio_2, mCallO, lenO, runO, mRetO, mLst, mIf, mUn, dNegI, mIsT2, mNoP, mPart, oListC, d_want_at_most, m_want_at_most, hgt]
  have ha := deg0_eq a
  have hb := deg0_eq b
  have key : o_times [d, e] = retM ((timesT a b).map rat) := by
    funext p; simp [runD, env0, mSeq, mIfS, mNot, mB, mIsC, mVar, isC, mRet, mC, mTV, mAnd, mOr, mBin, mFld, dEqF, flV, retM, DL.bindM, mNx, mCall, lenM, mCons, mNil, mTup, mIsT, isT, mSet, mAsg, tgTup, tgCons, tgN, tgNil, mk_Ratio_1, mk_Ratio_2, mCallO, lenO, runO, mRetO, mLst, mIf, mUn, dNegI, mIsT2, mNoP, mPart, oListC, o_times, m_times, h.two h', mDrop, ha, hb, addII, hw, hs]
  exact ⟨key, d_of_o key⟩
end Q
end

section
set_option Elab.async false
set_option linter.all false
set_option maxRecDepth 100000
set_option maxHeartbeats 4000000
/-! the plain law: worths, the pots, what the law draws. -/
namespace Q
open DL PySem PL
/-! ### worths -/
def step (r : Rat) (b x : Rat) : Rat := b * r + x
def worthT (a : List Rat) (r : Rat) : Rat := a.reverse.foldl (step r) 0
theorem bd_step {k : Nat} {r b x : Rat} (hb : Bd k (36 * 60 ^ k) b) (hr : Bd 1 54 r) (hx : Bd 1 36 x) : Bd (k + 1) (36 * 60 ^ (k + 1)) (step r b x) := by
  have h1 := hb.mul hr
  have h2 := hx.up k
  rw [Nat.add_comm 1 k] at h2
  refine (h1.add h2).mono ?_
  have : 6 ^ k ≤ 60 ^ k := Nat.pow_le_pow_left (by omega) k
  rw [Nat.pow_succ]
  generalize 6 ^ k = u at *
  generalize 60 ^ k = v at *
  omega
theorem bd_fold {r : Rat} (hr : Bd 1 54 r) : ∀ (xs : List Rat) (k : Nat) (b : Rat), Bd k (36 * 60 ^ k) b → AllBd 1 36 xs → Bd (k + xs.length) (36 * 60 ^ (k + xs.length)) (xs.foldl (step r) b)
  | [], k, b, h, _ => h
  | x :: xs, k, b, h, h' => by
    have := bd_fold hr xs (k + 1) (step r b x) (bd_step h hr (h' x List.mem_cons_self)) fun y hy => h' y (List.mem_cons_of_mem _ hy)
    rw [List.foldl_cons, List.length_cons, show k + (xs.length + 1) = k + 1 + xs.length by omega]
    exact this
theorem sz_fold {r b : Rat} {k : Nat} (hk : k ≤ 30) (h : Bd k (36 * 60 ^ k) b) : Sz b := by
  have h1 : 6 ^ k ≤ 6 ^ 30 := Nat.pow_le_pow_right (by omega) hk
  have h2 : 60 ^ k ≤ 60 ^ 30 := Nat.pow_le_pow_right (by omega) hk
  refine Bd.sz h (Nat.lt_of_le_of_lt h1 (by decide +kernel)) ?_
  exact Nat.lt_of_le_of_lt (Nat.mul_le_mul_left 36 h2) (by decide +kernel)
theorem worth_bd {a : List Rat} {r : Rat} (ha : AllBd 1 36 a) (hr : Bd 1 54 r) : Bd a.length (36 * 60 ^ a.length) (worthT a r) := by
  have := bd_fold hr a.reverse 0 0 ((Bd.zero 0).mono (Nat.zero_le _)) fun x hx => ha x (List.mem_reverse.mp hx)
  rw [Nat.zero_add, List.length_reverse] at this
  exact this
theorem lworth_eq {a : List Rat} {r : Rat} (ha : AllBd 1 36 a) (hl : a.length ≤ 20) (hr : Bd 1 54 r) : d_line_worth [L a, rat r] = retM (rat (worthT a r)) := by
  have hp : ∀ k, k ≤ a.length → Bd k (36 * 60 ^ k) ((a.reverse.take k).foldl (step r) 0) := fun k hk => by
    have := bd_fold hr (a.reverse.take k) 0 0 ((Bd.zero 0).mono (Nat.zero_le _)) fun x hx => ha x (List.mem_reverse.mp (List.mem_of_mem_take hx))
    rwa [Nat.zero_add, List.length_take, List.length_reverse, Nat.min_eq_left hk] at this
  refine worth_eq (Bd.sz hr (by decide +kernel) (by decide +kernel)) (ha.sz (by decide +kernel) (by decide +kernel)) (fun k hk => sz_fold (r := r) (by omega) (hp k hk)) fun k hk => ?_
  have h1 := (hp k (by omega)).mul hr
  refine sz_fold (r := r) (k := k + 1) (by omega) (h1.mono ?_)
  rw [Nat.pow_succ]
  generalize 60 ^ k = v at *
  omega
theorem worth_fn {d e : D} {a : List Rat} {r : Rat} (h : Gv d a) (h' : Num e r) (ha : AllBd 1 36 a) (hl : a.length ≤ 20) (hr : Bd 1 54 r) : d_worth [d, e] = retM (rat (worthT a r)) := by
  have hw := lworth_eq ha hl hr
  unfold L at hw
  funext p
  simp [runD, env0, mSeq, mIfS, mNot, mB, mIsC, mVar, isC, mRet, mC, mTV, mAnd, mOr, mBin, mFld, dEqF, flV, retM, DL.bindM, mNx, mCall, lenM, mCons, mNil, mTup, mIsT, isT, mSet, mAsg, tgTup, tgCons, tgN, tgNil, mk_Ratio_1, mk_Ratio_2, mCallO, lenO, runO, mRetO, mLst, mIf, mUn, dNegI, mIsT2, mNoP, mPart, oListC, d_worth, m_worth, h.want, h'.want, hw]
/-! ### pots -/
structure Good (p : Pt) : Prop where
  a : 0 ≤ p.1
  b : 0 ≤ p.2
  c : p.2 < 2147483648
theorem big32 : 4294967296 * 4294967296 < bigN := by unfold bigN; decide +kernel
theorem law_draw {p : Pt} (hp : Good p) {many : Int} (h1 : 0 < many) (h2 : many < 4294967296) : ∃ r p', d__law_draw [.pot, .int many] p = some (.int r, p') ∧ 0 ≤ r ∧ r < many ∧ Good p' := by
  obtain ⟨a, b⟩ := p
  obtain ⟨ha, hb, hc⟩ := hp
  simp only at ha hb hc
  by_cases hz : 0 < a
  · refine ⟨a % many, (a / many, b), ?_, Int.emod_nonneg _ (by omega), Int.emod_lt_of_pos _ h1, ⟨Int.ediv_nonneg (by omega) (by omega), hb, hc⟩⟩
    have hm : 0 < many ∧ many < 18446744073709551616 := by omega
    simp [runD, env0, mSeq, mIfS, mNot, mB, mIsC, mVar, isC, mRet, mC, mTV, mAnd, mOr, mBin, mFld, dEqF, flV, retM, DL.bindM, mNx, mCall, lenM, mCons, mNil, mTup, mIsT, isT, mSet, mAsg, tgTup, tgCons, tgN, tgNil, mk_Ratio_1, mk_Ratio_2, mCallO, lenO, runO, mRetO, mLst, mIf, mUn, dNegI, mIsT2, mNoP, mPart, oListC, d__law_draw, m__law_draw, mPot, mPotDiv, dGt, dII, hz, cDivmod, hm]
  · obtain ⟨b1, hb1⟩ : ∃ b1, b1 = (b * 39373 + 7331) % 2147483587 := ⟨_, rfl⟩
    have g1 : 0 ≤ b1 := by rw [hb1]; exact Int.emod_nonneg _ (by decide)
    have g2 : b1 < 2147483587 := by rw [hb1]; exact Int.emod_lt_of_pos _ (by decide)
    have hbig := big32
    have hz1 : b.natAbs < bigN := by omega
    have hz2 : 39373 < bigN := by omega
    have hz3 : b1.natAbs < bigN := by omega
    have hz4 : 19 < bigN := by omega
    refine ⟨(b1 * b1 % 2147483563).fdiv 19 % many, (a, b1), ?_, Int.emod_nonneg _ (by omega), Int.emod_lt_of_pos _ h1, ⟨ha, g1, by show b1 < _; omega⟩⟩
    simp [runD, env0, mSeq, mIfS, mNot, mB, mIsC, mVar, isC, mRet, mC, mTV, mAnd, mOr, mBin, mFld, dEqF, flV, retM, DL.bindM, mNx, mCall, lenM, mCons, mNil, mTup, mIsT, isT, mSet, mAsg, tgTup, tgCons, tgN, tgNil, mk_Ratio_1, mk_Ratio_2, mCallO, lenO, runO, mRetO, mLst, mIf, mUn, dNegI, mIsT2, mNoP, mPart, oListC, d__law_draw, m__law_draw, mPot, mSetPot, dGt, dII, hz, dMulI, dAddI, dModI, dDivI, cInt, hz1, hz2, hz3, hz4, ← hb1, h1]
end Q
end

section
set_option Elab.async false
set_option linter.all false
set_option maxRecDepth 100000
set_option maxHeartbeats 4000000
set_option exponentiation.threshold 20000
/-! the plain law: the law's own numbers. -/
namespace Q
open DL PySem PL
def eCond : Env' → Mo Bool := mB (mBin dGt (mVar 3) (mC (.int 0)))
def eBody : MS := mPar 2 3 (mCons (mVar 3) (mCons (mBin dModI (mCall cInt (mCons (mVar 2) mNil)) (mVar 3)) mNil))
theorem euclid_end {v0 v1 : SV} (x : Nat) (n : Nat) : whileM eCond eBody (n + 1) [v0, v1, .val (.int (x : Nat)), .val (.int 0)] = retM (.nx, [v0, v1, .val (.int (x : Nat)), .val (.int 0)]) := by
  funext p
  conv => lhs; unfold whileM
  simp [runD, env0, mSeq, mIfS, mNot, mB, mIsC, mVar, isC, mRet, mC, mTV, mAnd, mOr, mBin, mFld, dEqF, flV, retM, DL.bindM, mNx, mCall, lenM, mCons, mNil, mTup, mIsT, isT, mSet, mAsg, tgTup, tgCons, tgN, tgNil, mk_Ratio_1, mk_Ratio_2, mCallO, lenO, runO, mRetO, mLst, mIf, mUn, dNegI, mIsT2, mNoP, mPart, oListC, eCond, dGt, dII]
theorem euclid_step {v0 v1 : SV} (x y : Nat) (hy : 0 < y) (n : Nat) : whileM eCond eBody (n + 1) [v0, v1, .val (.int (x : Nat)), .val (.int (y : Nat))] = whileM eCond eBody n [v0, v1, .val (.int (y : Nat)), .val (.int (x % y : Nat))] := by
  funext p
  conv => lhs; unfold whileM
  simp [runD, env0, mSeq, mIfS, mNot, mB, mIsC, mVar, isC, mRet, mC, mTV, mAnd, mOr, mBin, mFld, dEqF, flV, retM, DL.bindM, mNx, mCall, lenM, mCons, mNil, mTup, mIsT, isT, mSet, mAsg, tgTup, tgCons, tgN, tgNil, mk_Ratio_1, mk_Ratio_2, mCallO, lenO, runO, mRetO, mLst, mIf, mUn, dNegI, mIsT2, mNoP, mPart, oListC, eCond, eBody, dGt, dII, mPar, dModI, cInt, hy]
theorem euclid_loop {v0 v1 : SV} : ∀ (n x y : Nat), y < 2 ^ n → ∀ f, 2 * n + 1 ≤ f → whileM eCond eBody f [v0, v1, .val (.int (x : Nat)), .val (.int (y : Nat))] = retM (.nx, [v0, v1, .val (.int (Nat.gcd x y : Nat)), .val (.int 0)]) := by
  intro n
  induction n with
  | zero =>
    intro x y h f hf
    obtain ⟨g, rfl⟩ : ∃ g, f = g + 1 := ⟨f - 1, by omega⟩
    have : y = 0 := by simpa [runD, env0, mSeq, mIfS, mNot, mB, mIsC, mVar, isC, mRet, mC, mTV, mAnd, mOr, mBin, mFld, dEqF, flV, retM, DL.bindM, mNx, mCall, lenM, mCons, mNil, mTup, mIsT, isT, mSet, mAsg, tgTup, tgCons, tgN, tgNil, mk_Ratio_1, mk_Ratio_2, mCallO, lenO, runO, mRetO, mLst, mIf, mUn, dNegI, mIsT2, mNoP, mPart, oListC] using h
    subst this
    rw [Nat.gcd_zero_right]
    exact euclid_end x g
  | succ n ih =>
    intro x y h f hf
    obtain ⟨g, rfl⟩ : ∃ g, f = g + 1 + 1 + 1 := ⟨f - 3, by omega⟩
    rcases Nat.eq_zero_or_pos y with z | hy
    · subst z
      rw [Nat.gcd_zero_right]
      exact euclid_end x _
    · rw [euclid_step x y hy]
      have hlt := Nat.mod_lt x hy
      rw [show Nat.gcd x y = Nat.gcd y (x % y) by rw [Nat.gcd_comm x y, Nat.gcd_rec y x, Nat.gcd_comm]]
      rcases Nat.eq_zero_or_pos (x % y) with z | hz
      · rw [z, Nat.gcd_zero_right]
        exact euclid_end y _
      · rw [euclid_step y (x % y) hz]
        rw [show Nat.gcd y (x % y) = Nat.gcd (x % y) (y % (x % y)) by rw [Nat.gcd_comm y (x % y), Nat.gcd_rec (x % y) y, Nat.gcd_comm]]
        refine ih _ _ ?_ _ (by omega)
        have h1 := Nat.mod_lt y hz
        have h2 := Nat.mod_add_div y (x % y)
        have h3 : 0 < y / (x % y) := Nat.div_pos (by omega) hz
        have h4 : x % y ≤ (x % y) * (y / (x % y)) := Nat.le_mul_of_pos_right _ h3
        rw [Nat.pow_succ] at h
        omega
theorem law_low (t b : Int) (hb : 0 < b) (hz : b.natAbs < bigN) : d__law_low [.int t, .int b] = retM (pr (Rat.divInt t b)) := by
  have hg : (Nat.gcd t.natAbs b.natAbs : Nat) < bigN := Nat.lt_of_le_of_lt (Nat.gcd_le_right _ (by omega)) hz
  have hg0 := gcd_ne (t := t) (b := b) (by omega)
  have hg1 : ((Nat.gcd t.natAbs b.natAbs : Nat) : Int) ≠ 0 := by exact_mod_cast hg0
  have dt : ((Nat.gcd t.natAbs b.natAbs : Nat) : Int) ∣ t := PySem.W.mg_dvd_left t b
  have db : ((Nat.gcd t.natAbs b.natAbs : Nat) : Int) ∣ b := PySem.W.mg_dvd_right t b
  have hnum : (Rat.divInt t b).num = b.sign * t / ((Nat.gcd t.natAbs b.natAbs : Nat) : Int) := by
    rw [Rat.num_divInt, Int.gcd_comm]; rfl
  have hden : (((Rat.divInt t b).den : Nat) : Int) = (b.natAbs : Int) / ((Nat.gcd t.natAbs b.natAbs : Nat) : Int) := by
    rw [Rat.den_divInt, if_neg (by omega), Int.gcd_comm]; rfl
  have e1 : t.fdiv ((Nat.gcd t.natAbs b.natAbs : Nat) : Int) = (Rat.divInt t b).num := by
    rw [hnum, Int.sign_eq_one_of_pos (by omega)]
    obtain ⟨q, hq⟩ := dt
    generalize ((Nat.gcd t.natAbs b.natAbs : Nat) : Int) = g at *
    subst hq
    rw [Int.one_mul, Int.mul_ediv_cancel_left _ hg1, Int.mul_fdiv_cancel_left _ hg1]
  have e2 : b.fdiv ((Nat.gcd t.natAbs b.natAbs : Nat) : Int) = (((Rat.divInt t b).den : Nat) : Int) := by
    rw [hden]
    obtain ⟨q, hq⟩ := db
    rw [show (b.natAbs : Int) = b by omega]
    generalize ((Nat.gcd t.natAbs b.natAbs : Nat) : Int) = g at *
    subst hq
    rw [Int.mul_ediv_cancel_left _ hg1, Int.mul_fdiv_cancel_left _ hg1]
  have a1 : cAbs [.int t] = retM (.int (t.natAbs : Nat)) := by
    unfold cAbs
    split
    · rename_i i h
      cases h
      congr 2
      split <;> omega
    · rename_i h; exact absurd rfl (h t)
  have a2 : cAbs [.int b] = retM (.int (b.natAbs : Nat)) := by
    unfold cAbs
    split
    · rename_i i h
      cases h
      congr 2
      split <;> omega
    · rename_i h; exact absurd rfl (h b)
  have hl := euclid_loop (v0 := .val (.int t)) (v1 := .val (.int b)) 4400 t.natAbs b.natAbs hz fuelW (by unfold fuelW; omega)
  have hm : m__law_low = mSeq (mPar 2 3 (mCons (mCall cAbs (mCons (mVar 0) mNil)) (mCons (mCall cAbs (mCons (mVar 1) mNil)) mNil))) (mSeq (mWhile eCond eBody) (mSeq (mSet 2 (mIf (mB (mBin dGt (mVar 1) (mC (.int 0)))) (mVar 2) (mBin dSubI (mC (.int 0)) (mVar 2)))) (mRet (mTup (mCons (mBin dDivI (mVar 0) (mVar 2)) (mCons (mBin dDivI (mVar 1) (mVar 2)) mNil)))))) := rfl
  generalize eCond = co at *
  generalize eBody = bo at *
  generalize hG : ((Nat.gcd t.natAbs b.natAbs : Nat)) = g at *
  funext p
  simp [runD, env0, mSeq, mIfS, mNot, mB, mIsC, mVar, isC, mRet, mC, mTV, mAnd, mOr, mBin, mFld, dEqF, flV, retM, DL.bindM, mNx, mCall, lenM, mCons, mNil, mTup, mIsT, isT, mSet, mAsg, tgTup, tgCons, tgN, tgNil, mk_Ratio_1, mk_Ratio_2, mCallO, lenO, runO, mRetO, mLst, mIf, mUn, dNegI, mIsT2, mNoP, mPart, oListC, d__law_low, hm, a1, a2, mPar, mWhile, hl, dGt, dII, hb, dDivI, hg, hg0, e1, e2, pr]
theorem atp0 (x : Rat) : atD (pr x) (.int 0) = retM (.int x.num) := rfl
theorem atp1 (x : Rat) : atD (pr x) (.int 1) = retM (.int (x.den : Nat)) := rfl
theorem den_pos (x : Rat) : 0 < (x.den : Int) := by have := x.den_nz; omega
theorem smallN {n : Nat} (h : n < 10 ^ 60) : n < bigN := Nat.lt_trans h pow_big1
theorem law_by {x y : Rat} (hx : Sz x) (hy : Sz y) : d__law_by [pr x, pr y] = retM (pr (x * y)) := by
  have hd := den_mul hx hy
  have hp : 0 < (x.den : Int) * y.den := Int.mul_pos (den_pos x) (den_pos y)
  have hl := law_low (x.num * y.num) ((x.den : Int) * y.den) hp hd
  have e : Rat.divInt (x.num * y.num) ((x.den : Int) * y.den) = x * y := by
    rw [Rat.divInt_eq_div, Rat.intCast_mul, Rat.intCast_mul, num_den, num_den]
    have h1 : ((x.den : Int) : Rat) ≠ 0 := by
      intro z; have : (x.den : Int) = 0 := by exact_mod_cast z
      have := den_pos x; omega
    have h2 : ((y.den : Int) : Rat) ≠ 0 := by
      intro z; have : (y.den : Int) = 0 := by exact_mod_cast z
      have := den_pos y; omega
    rw [Rat.intCast_natCast] at *
    rw [Rat.intCast_natCast] at *
    grind
  rw [e] at hl
  have m1 : dMulI (.int x.num) (.int y.num) = retM (.int (x.num * y.num)) := mulI_ok hx.n hy.n
  have m2 : dMulI (.int (x.den : Nat)) (.int (y.den : Nat)) = retM (.int ((x.den : Int) * y.den)) := mulI_ok (by rw [Int.natAbs_natCast]; exact hx.d) (by rw [Int.natAbs_natCast]; exact hy.d)
  funext p
  simp [runD, env0, mSeq, mIfS, mNot, mB, mIsC, mVar, isC, mRet, mC, mTV, mAnd, mOr, mBin, mFld, dEqF, flV, retM, DL.bindM, mNx, mCall, lenM, mCons, mNil, mTup, mIsT, isT, mSet, mAsg, tgTup, tgCons, tgN, tgNil, mk_Ratio_1, mk_Ratio_2, mCallO, lenO, runO, mRetO, mLst, mIf, mUn, dNegI, mIsT2, mNoP, mPart, oListC, d__law_by, m__law_by, atp0, atp1, m1, m2, hl]
theorem law_sum {x y : Rat} (hx : Sz x) (hy : Sz y) : d__law_sum [pr x, pr y] = retM (pr (x + y)) := by
  have hd := den_mul hx hy
  have hp : 0 < (x.den : Int) * y.den := Int.mul_pos (den_pos x) (den_pos y)
  have hl := law_low (x.num * y.den + y.num * x.den) ((x.den : Int) * y.den) hp hd
  have e : Rat.divInt (x.num * y.den + y.num * x.den) ((x.den : Int) * y.den) = x + y := by
    rw [Rat.divInt_eq_div, Rat.intCast_add, Rat.intCast_mul, Rat.intCast_mul, Rat.intCast_mul, num_den, num_den]
    have h1 : ((x.den : Int) : Rat) ≠ 0 := by
      intro z; have : (x.den : Int) = 0 := by exact_mod_cast z
      have := den_pos x; omega
    have h2 : ((y.den : Int) : Rat) ≠ 0 := by
      intro z; have : (y.den : Int) = 0 := by exact_mod_cast z
      have := den_pos y; omega
    simp only [Rat.intCast_natCast] at *
    grind
  rw [e] at hl
  have m1 : dMulI (.int x.num) (.int (y.den : Nat)) = retM (.int (x.num * y.den)) := mulI_ok hx.n (by rw [Int.natAbs_natCast]; exact hy.d)
  have m3 : dMulI (.int y.num) (.int (x.den : Nat)) = retM (.int (y.num * x.den)) := mulI_ok hy.n (by rw [Int.natAbs_natCast]; exact hx.d)
  have m2 : dMulI (.int (x.den : Nat)) (.int (y.den : Nat)) = retM (.int ((x.den : Int) * y.den)) := mulI_ok (by rw [Int.natAbs_natCast]; exact hx.d) (by rw [Int.natAbs_natCast]; exact hy.d)
  funext p
  simp [runD, env0, mSeq, mIfS, mNot, mB, mIsC, mVar, isC, mRet, mC, mTV, mAnd, mOr, mBin, mFld, dEqF, flV, retM, DL.bindM, mNx, mCall, lenM, mCons, mNil, mTup, mIsT, isT, mSet, mAsg, tgTup, tgCons, tgN, tgNil, mk_Ratio_1, mk_Ratio_2, mCallO, lenO, runO, mRetO, mLst, mIf, mUn, dNegI, mIsT2, mNoP, mPart, oListC, d__law_sum, m__law_sum, atp0, atp1, m1, m2, m3, dAddI, dII, hl]
theorem law_ratio {x : Rat} (hx : Sz x) : d__law_ratio [pr x] = retM (rat x) := by
  have hi := init_eq x.num (x.den : Nat) (by have := den_pos x; omega) (by rw [Int.natAbs_natCast]; exact smallN hx.d)
  rw [show Rat.divInt x.num (x.den : Nat) = x from Rat.num_divInt_den x] at hi
  funext p
  simp [runD, env0, mSeq, mIfS, mNot, mB, mIsC, mVar, isC, mRet, mC, mTV, mAnd, mOr, mBin, mFld, dEqF, flV, retM, DL.bindM, mNx, mCall, lenM, mCons, mNil, mTup, mIsT, isT, mSet, mAsg, tgTup, tgCons, tgN, tgNil, mk_Ratio_1, mk_Ratio_2, mCallO, lenO, runO, mRetO, mLst, mIf, mUn, dNegI, mIsT2, mNoP, mPart, oListC, d__law_ratio, m__law_ratio, atp0, atp1, hi]
end Q
end

section
set_option Elab.async false
set_option linter.all false
set_option maxRecDepth 100000
set_option maxHeartbeats 4000000
set_option exponentiation.threshold 20000
/-! the plain law: what the law draws. -/
namespace Q
open DL PySem PL
/-- item by item -/
inductive All2 {α : Type} (Q : D → α → Prop) : List D → List α → Prop where
  | nil : All2 Q [] []
  | cons {d : D} {a : α} {ds : List D} {l : List α} (h : Q d a) (r : All2 Q ds l) : All2 Q (d :: ds) (a :: l)
theorem comp_st {α : Type} {Q : D → α → Prop} {i : Nat} {e : Env' → Mo D} {env : Env'} {F : α → D} : ∀ (l : List α), (∀ a ∈ l, ∀ p, Good p → ∃ d p', e (env.set i (.val (F a))) p = some (d, p') ∧ Q d a ∧ Good p') → ∀ p, Good p → ∃ ds p', compM (tgN i) mYes e env (l.map F) p = some (ds, p') ∧ All2 Q ds l ∧ Good p'
  | [], _, p, hp => ⟨[], p, rfl, .nil, hp⟩
  | a :: l, h, p, hp => by
    obtain ⟨d, p1, e1, q1, g1⟩ := h a List.mem_cons_self p hp
    obtain ⟨ds, p2, e2, q2, g2⟩ := comp_st l (fun b hb => h b (List.mem_cons_of_mem _ hb)) p1 g1
    refine ⟨d :: ds, p2, ?_, .cons q1 q2, g2⟩
    rw [List.map_cons]
    conv => lhs; unfold compM
    simp [runD, env0, mSeq, mIfS, mNot, mB, mIsC, mVar, isC, mRet, mC, mTV, mAnd, mOr, mBin, mFld, dEqF, flV, retM, DL.bindM, mNx, mCall, lenM, mCons, mNil, mTup, mIsT, isT, mSet, mAsg, tgTup, tgCons, tgN, tgNil, mk_Ratio_1, mk_Ratio_2, mCallO, lenO, runO, mRetO, mLst, mIf, mUn, dNegI, mIsT2, mNoP, mPart, oListC, mYes, e1, e2]
theorem All2.nums {ds : List D} {l : List Rat} (h : All2 Num ds l) : Nums ds l := by
  induction h with
  | nil => exact .nil
  | cons h _ ih => exact .cons h ih
def LP (xs : List Rat) : D := .lst (xs.map pr)
theorem law_pick {p : Pt} (hp : Good p) {ds : List D} (h1 : 0 < ds.length) (h2 : ds.length < 4294967296) : ∃ d p', d ∈ ds ∧ d__law_pick [.pot, .lst ds] p = some (d, p') ∧ Good p' := by
  obtain ⟨r, p', e, hr1, hr2, g⟩ := law_draw hp (many := (ds.length : Nat)) (by omega) (by omega)
  obtain ⟨i, rfl⟩ := Int.eq_ofNat_of_zero_le hr1
  have hi : i < ds.length := by omega
  refine ⟨ds[i], p', List.getElem_mem hi, ?_, g⟩
  have hat := at_lst (ds := ds) (i := i) (d := ds[i]) (List.getElem?_eq_getElem hi)
  simp [runD, env0, mSeq, mIfS, mNot, mB, mIsC, mVar, isC, mRet, mC, mTV, mAnd, mOr, mBin, mFld, dEqF, flV, retM, DL.bindM, mNx, mCall, lenM, mCons, mNil, mTup, mIsT, isT, mSet, mAsg, tgTup, tgCons, tgN, tgNil, mk_Ratio_1, mk_Ratio_2, mCallO, lenO, runO, mRetO, mLst, mIf, mUn, dNegI, mIsT2, mNoP, mPart, oListC, d__law_pick, m__law_pick, cLen, e, hat]
theorem law_number {p : Pt} (hp : Good p) {most : Nat} (hm : most ≤ 1000) : ∃ x p', d__law_number [.pot, .int (most : Nat)] p = some (pr x, p') ∧ Bd 1 (6 * most) x ∧ Good p' := by
  have hb := big32
  obtain ⟨r, p1, e1, r1, r2, g1⟩ := law_draw hp (many := 2 * (most : Int) + 1) (by omega) (by omega)
  obtain ⟨d, p2, hd, e2, g2⟩ := law_pick g1 (ds := [.int 1, .int 1, .int 1, .int 2, .int 3]) (by decide) (by decide)
  obtain ⟨b, hbd, rfl⟩ : ∃ b : Int, (b = 1 ∨ b = 2 ∨ b = 3) ∧ d = .int b := by
    simp [runD, env0, mSeq, mIfS, mNot, mB, mIsC, mVar, isC, mRet, mC, mTV, mAnd, mOr, mBin, mFld, dEqF, flV, retM, DL.bindM, mNx, mCall, lenM, mCons, mNil, mTup, mIsT, isT, mSet, mAsg, tgTup, tgCons, tgN, tgNil, mk_Ratio_1, mk_Ratio_2, mCallO, lenO, runO, mRetO, mLst, mIf, mUn, dNegI, mIsT2, mNoP, mPart, oListC] at hd
    rcases hd with rfl | rfl | rfl
    · exact ⟨1, .inl rfl, rfl⟩
    · exact ⟨2, .inr (.inl rfl), rfl⟩
    · exact ⟨3, .inr (.inr rfl), rfl⟩
  have hl := law_low (r - most) b (by omega) (by omega)
  refine ⟨Rat.divInt (r - most) b, p2, ?_, ?_, g2⟩
  · have z1 : 2 < bigN := by omega
    have z2 : most < bigN := by omega
    simp [runD, env0, mSeq, mIfS, mNot, mB, mIsC, mVar, isC, mRet, mC, mTV, mAnd, mOr, mBin, mFld, dEqF, flV, retM, DL.bindM, mNx, mCall, lenM, mCons, mNil, mTup, mIsT, isT, mSet, mAsg, tgTup, tgCons, tgN, tgNil, mk_Ratio_1, mk_Ratio_2, mCallO, lenO, runO, mRetO, mLst, mIf, mUn, dNegI, mIsT2, mNoP, mPart, oListC, d__law_number, m__law_number, dMulI, dAddI, dSubI, dII, z1, z2, e1, mNew, e2, hl]
  · refine ⟨(r - most) * (6 / b), ?_, ?_⟩
    · rw [Int.natAbs_mul]
      have h1 : (r - (most : Int)).natAbs ≤ most := by omega
      rcases hbd with rfl | rfl | rfl
      · rw [show ((6 : Int) / 1).natAbs = 6 from rfl]; omega
      · rw [show ((6 : Int) / 2).natAbs = 3 from rfl]; omega
      · rw [show ((6 : Int) / 3).natAbs = 2 from rfl]; omega
    · rw [Rat.divInt_eq_div, Rat.intCast_mul]
      generalize ((r - (most : Int) : Int) : Rat) = t
      rcases hbd with rfl | rfl | rfl
      · rw [show (6 : Int) / 1 = 6 from rfl, show ((6 ^ 1 : Nat) : Rat) = 6 by simp [runD, env0, mSeq, mIfS, mNot, mB, mIsC, mVar, isC, mRet, mC, mTV, mAnd, mOr, mBin, mFld, dEqF, flV, retM, DL.bindM, mNx, mCall, lenM, mCons, mNil, mTup, mIsT, isT, mSet, mAsg, tgTup, tgCons, tgN, tgNil, mk_Ratio_1, mk_Ratio_2, mCallO, lenO, runO, mRetO, mLst, mIf, mUn, dNegI, mIsT2, mNoP, mPart, oListC], show ((1 : Int) : Rat) = 1 by simp [runD, env0, mSeq, mIfS, mNot, mB, mIsC, mVar, isC, mRet, mC, mTV, mAnd, mOr, mBin, mFld, dEqF, flV, retM, DL.bindM, mNx, mCall, lenM, mCons, mNil, mTup, mIsT, isT, mSet, mAsg, tgTup, tgCons, tgN, tgNil, mk_Ratio_1, mk_Ratio_2, mCallO, lenO, runO, mRetO, mLst, mIf, mUn, dNegI, mIsT2, mNoP, mPart, oListC], show ((6 : Int) : Rat) = 6 by simp [runD, env0, mSeq, mIfS, mNot, mB, mIsC, mVar, isC, mRet, mC, mTV, mAnd, mOr, mBin, mFld, dEqF, flV, retM, DL.bindM, mNx, mCall, lenM, mCons, mNil, mTup, mIsT, isT, mSet, mAsg, tgTup, tgCons, tgN, tgNil, mk_Ratio_1, mk_Ratio_2, mCallO, lenO, runO, mRetO, mLst, mIf, mUn, dNegI, mIsT2, mNoP, mPart, oListC]]; grind
      · rw [show (6 : Int) / 2 = 3 from rfl, show ((6 ^ 1 : Nat) : Rat) = 6 by simp [runD, env0, mSeq, mIfS, mNot, mB, mIsC, mVar, isC, mRet, mC, mTV, mAnd, mOr, mBin, mFld, dEqF, flV, retM, DL.bindM, mNx, mCall, lenM, mCons, mNil, mTup, mIsT, isT, mSet, mAsg, tgTup, tgCons, tgN, tgNil, mk_Ratio_1, mk_Ratio_2, mCallO, lenO, runO, mRetO, mLst, mIf, mUn, dNegI, mIsT2, mNoP, mPart, oListC], show ((2 : Int) : Rat) = 2 by simp [runD, env0, mSeq, mIfS, mNot, mB, mIsC, mVar, isC, mRet, mC, mTV, mAnd, mOr, mBin, mFld, dEqF, flV, retM, DL.bindM, mNx, mCall, lenM, mCons, mNil, mTup, mIsT, isT, mSet, mAsg, tgTup, tgCons, tgN, tgNil, mk_Ratio_1, mk_Ratio_2, mCallO, lenO, runO, mRetO, mLst, mIf, mUn, dNegI, mIsT2, mNoP, mPart, oListC], show ((3 : Int) : Rat) = 3 by simp [runD, env0, mSeq, mIfS, mNot, mB, mIsC, mVar, isC, mRet, mC, mTV, mAnd, mOr, mBin, mFld, dEqF, flV, retM, DL.bindM, mNx, mCall, lenM, mCons, mNil, mTup, mIsT, isT, mSet, mAsg, tgTup, tgCons, tgN, tgNil, mk_Ratio_1, mk_Ratio_2, mCallO, lenO, runO, mRetO, mLst, mIf, mUn, dNegI, mIsT2, mNoP, mPart, oListC]]; grind
      · rw [show (6 : Int) / 3 = 2 from rfl, show ((6 ^ 1 : Nat) : Rat) = 6 by simp [runD, env0, mSeq, mIfS, mNot, mB, mIsC, mVar, isC, mRet, mC, mTV, mAnd, mOr, mBin, mFld, dEqF, flV, retM, DL.bindM, mNx, mCall, lenM, mCons, mNil, mTup, mIsT, isT, mSet, mAsg, tgTup, tgCons, tgN, tgNil, mk_Ratio_1, mk_Ratio_2, mCallO, lenO, runO, mRetO, mLst, mIf, mUn, dNegI, mIsT2, mNoP, mPart, oListC], show ((3 : Int) : Rat) = 3 by simp [runD, env0, mSeq, mIfS, mNot, mB, mIsC, mVar, isC, mRet, mC, mTV, mAnd, mOr, mBin, mFld, dEqF, flV, retM, DL.bindM, mNx, mCall, lenM, mCons, mNil, mTup, mIsT, isT, mSet, mAsg, tgTup, tgCons, tgN, tgNil, mk_Ratio_1, mk_Ratio_2, mCallO, lenO, runO, mRetO, mLst, mIf, mUn, dNegI, mIsT2, mNoP, mPart, oListC], show ((2 : Int) : Rat) = 2 by simp [runD, env0, mSeq, mIfS, mNot, mB, mIsC, mVar, isC, mRet, mC, mTV, mAnd, mOr, mBin, mFld, dEqF, flV, retM, DL.bindM, mNx, mCall, lenM, mCons, mNil, mTup, mIsT, isT, mSet, mAsg, tgTup, tgCons, tgN, tgNil, mk_Ratio_1, mk_Ratio_2, mCallO, lenO, runO, mRetO, mLst, mIf, mUn, dNegI, mIsT2, mNoP, mPart, oListC]]; grind
theorem law_passed {p : Pt} (hp : Good p) {x : Rat} (hx : Sz x) : ∃ d p', d__law_passed [.pot, pr x] p = some (d, p') ∧ Num d x ∧ Good p' := by
  have hr := law_ratio hx
  by_cases h1 : x.den = 1
  · obtain ⟨r, p1, e1, r1, r2, g1⟩ := law_draw hp (many := 2) (by omega) (by omega)
    have hx1 : x = (x.num : Rat) := by
      have := num_den x
      rw [h1] at this
      rw [this]; simp [runD, env0, mSeq, mIfS, mNot, mB, mIsC, mVar, isC, mRet, mC, mTV, mAnd, mOr, mBin, mFld, dEqF, flV, retM, DL.bindM, mNx, mCall, lenM, mCons, mNil, mTup, mIsT, isT, mSet, mAsg, tgTup, tgCons, tgN, tgNil, mk_Ratio_1, mk_Ratio_2, mCallO, lenO, runO, mRetO, mLst, mIf, mUn, dNegI, mIsT2, mNoP, mPart, oListC]
    by_cases h2 : r = 0
    · subst h2
      exact ⟨.int x.num, p1, by simp [runD, env0, mSeq, mIfS, mNot, mB, mIsC, mVar, isC, mRet, mC, mTV, mAnd, mOr, mBin, mFld, dEqF, flV, retM, DL.bindM, mNx, mCall, lenM, mCons, mNil, mTup, mIsT, isT, mSet, mAsg, tgTup, tgCons, tgN, tgNil, mk_Ratio_1, mk_Ratio_2, mCallO, lenO, runO, mRetO, mLst, mIf, mUn, dNegI, mIsT2, mNoP, mPart, oListC, d__law_passed, m__law_passed, atp0, atp1, h1, L2.scal, e1], .inr ⟨_, hx1, rfl⟩, g1⟩
    · exact ⟨rat x, p1, by simp [runD, env0, mSeq, mIfS, mNot, mB, mIsC, mVar, isC, mRet, mC, mTV, mAnd, mOr, mBin, mFld, dEqF, flV, retM, DL.bindM, mNx, mCall, lenM, mCons, mNil, mTup, mIsT, isT, mSet, mAsg, tgTup, tgCons, tgN, tgNil, mk_Ratio_1, mk_Ratio_2, mCallO, lenO, runO, mRetO, mLst, mIf, mUn, dNegI, mIsT2, mNoP, mPart, oListC, d__law_passed, m__law_passed, atp0, atp1, h1, L2.scal, e1, h2, hr], .inl rfl, g1⟩
  · have h1' : ¬ (((x.den : Nat) : Int) = 1) := by omega
    exact ⟨rat x, p, by simp [runD, env0, mSeq, mIfS, mNot, mB, mIsC, mVar, isC, mRet, mC, mTV, mAnd, mOr, mBin, mFld, dEqF, flV, retM, DL.bindM, mNx, mCall, lenM, mCons, mNil, mTup, mIsT, isT, mSet, mAsg, tgTup, tgCons, tgN, tgNil, mk_Ratio_1, mk_Ratio_2, mCallO, lenO, runO, mRetO, mLst, mIf, mUn, dNegI, mIsT2, mNoP, mPart, oListC, d__law_passed, m__law_passed, atp0, atp1, h1', L2.scal, hr], .inl rfl, hp⟩
end Q
end

section
set_option Elab.async false
set_option linter.all false
set_option maxRecDepth 100000
set_option maxHeartbeats 4000000
set_option exponentiation.threshold 20000
/-! the plain law: the law's own lines. -/
namespace Q
open DL PySem PL
def ltCond : Env' → Mo Bool := mAnd (mB (mBin dGt (mVar 1) (mC (.int 0)))) (mB (mBin (dEqF false) (mBin atD (mBin atD (mVar 0) (mBin dSubI (mVar 1) (mC (.int 1)))) (mC (.int 0))) (mC (.int 0))))
def ltBody : MS := mSet 1 (mBin dSubI (mVar 1) (mC (.int 1)))
theorem at_pr {xs : List Rat} {m : Nat} (h : m < xs.length) : atD (LP xs) (.int (m : Nat)) = retM (pr xs[m]) := at_lst (by rw [List.getElem?_map, List.getElem?_eq_getElem h]; rfl)
theorem ltrim_loop (xs : List Rat) : ∀ (m n : Nat), m < n → m ≤ xs.length → ∃ k, k ≤ xs.length ∧ xs.take k = trim (xs.take m) ∧ whileM ltCond ltBody n [.val (LP xs), .val (.int (m : Nat))] = retM (.nx, [.val (LP xs), .val (.int (k : Nat))])
  | 0, n + 1, _, _ => by
    refine ⟨0, Nat.zero_le _, by simp [runD, env0, mSeq, mIfS, mNot, mB, mIsC, mVar, isC, mRet, mC, mTV, mAnd, mOr, mBin, mFld, dEqF, flV, retM, DL.bindM, mNx, mCall, lenM, mCons, mNil, mTup, mIsT, isT, mSet, mAsg, tgTup, tgCons, tgN, tgNil, mk_Ratio_1, mk_Ratio_2, mCallO, lenO, runO, mRetO, mLst, mIf, mUn, dNegI, mIsT2, mNoP, mPart, oListC, trim], ?_⟩
    funext p
    simp [runD, env0, mSeq, mIfS, mNot, mB, mIsC, mVar, isC, mRet, mC, mTV, mAnd, mOr, mBin, mFld, dEqF, flV, retM, DL.bindM, mNx, mCall, lenM, mCons, mNil, mTup, mIsT, isT, mSet, mAsg, tgTup, tgCons, tgN, tgNil, mk_Ratio_1, mk_Ratio_2, mCallO, lenO, runO, mRetO, mLst, mIf, mUn, dNegI, mIsT2, mNoP, mPart, oListC, whileM, ltCond, dGt, dII]
  | m + 1, n + 1, hn, hm => by
    have hlt : m < xs.length := by omega
    have hs : dSubI (.int ((m : Int) + 1)) (.int 1) = retM (.int (m : Nat)) := by
      have : (m : Int) + 1 - 1 = (m : Nat) := by omega
      simp [runD, env0, mSeq, mIfS, mNot, mB, mIsC, mVar, isC, mRet, mC, mTV, mAnd, mOr, mBin, mFld, dEqF, flV, retM, DL.bindM, mNx, mCall, lenM, mCons, mNil, mTup, mIsT, isT, mSet, mAsg, tgTup, tgCons, tgN, tgNil, mk_Ratio_1, mk_Ratio_2, mCallO, lenO, runO, mRetO, mLst, mIf, mUn, dNegI, mIsT2, mNoP, mPart, oListC, dSubI, dII, this]
    have hpos : (0 : Int) < (m : Int) + 1 := by omega
    have hat := at_pr hlt
    by_cases hx : xs[m] = 0
    · obtain ⟨k, h1, h2, h3⟩ := ltrim_loop xs m n (by omega) (by omega)
      refine ⟨k, h1, ?_, ?_⟩
      · rw [take_succ' hlt, hx, trim_snoc0]; exact h2
      · have hz : (xs[m]).num = 0 := by rw [hx]; rfl
        rw [← h3]
        funext p
        conv => lhs; unfold whileM
        simp [runD, env0, mSeq, mIfS, mNot, mB, mIsC, mVar, isC, mRet, mC, mTV, mAnd, mOr, mBin, mFld, dEqF, flV, retM, DL.bindM, mNx, mCall, lenM, mCons, mNil, mTup, mIsT, isT, mSet, mAsg, tgTup, tgCons, tgN, tgNil, mk_Ratio_1, mk_Ratio_2, mCallO, lenO, runO, mRetO, mLst, mIf, mUn, dNegI, mIsT2, mNoP, mPart, oListC, ltCond, ltBody, dGt, dII, hs, hpos, hat, atp0, L2.scal, hz]
    · refine ⟨m + 1, hm, ?_, ?_⟩
      · rw [take_succ' hlt, trim_snoc _ _ hx]
      · have hz : (xs[m]).num ≠ 0 := fun z => hx (Rat.num_eq_zero.mp z)
        funext p
        unfold whileM
        simp [runD, env0, mSeq, mIfS, mNot, mB, mIsC, mVar, isC, mRet, mC, mTV, mAnd, mOr, mBin, mFld, dEqF, flV, retM, DL.bindM, mNx, mCall, lenM, mCons, mNil, mTup, mIsT, isT, mSet, mAsg, tgTup, tgCons, tgN, tgNil, mk_Ratio_1, mk_Ratio_2, mCallO, lenO, runO, mRetO, mLst, mIf, mUn, dNegI, mIsT2, mNoP, mPart, oListC, ltCond, ltBody, dGt, dII, hs, hpos, hat, atp0, L2.scal, hz]
theorem ltrim_eq (xs : List Rat) (hl : xs.length ≤ 1000) : o__law_trim [LP xs] = retM ((trim xs).map pr) := by
  obtain ⟨k, h1, h2, h3⟩ := ltrim_loop xs xs.length fuelW (by unfold fuelW; omega) (Nat.le_refl _)
  rw [List.take_length] at h2
  have hc : cutD (xs.map pr) none (some (k : Int)) = (trim xs).map pr := by
    rw [cut0 (by simpa [runD, env0, mSeq, mIfS, mNot, mB, mIsC, mVar, isC, mRet, mC, mTV, mAnd, mOr, mBin, mFld, dEqF, flV, retM, DL.bindM, mNx, mCall, lenM, mCons, mNil, mTup, mIsT, isT, mSet, mAsg, tgTup, tgCons, tgN, tgNil, mk_Ratio_1, mk_Ratio_2, mCallO, lenO, runO, mRetO, mLst, mIf, mUn, dNegI, mIsT2, mNoP, mPart, oListC] using h1), ← List.map_take, h2]
  have hm : m__law_trim = mSeq (mSet 1 (mCall cLen (mCons (mVar 0) mNil))) (mSeq (mWhile ltCond ltBody) (mRetO (oSlice (mVar 0) mNoP (mPart (mVar 1))))) := rfl
  have h4 : whileM ltCond ltBody fuelW [.val (.lst (xs.map pr)), .val (.int (xs.length : Nat))] = retM (.nx, [.val (LP xs), .val (.int (k : Nat))]) := h3
  generalize ltCond = co at *
  generalize ltBody = bo at *
  funext p
  simp [runD, env0, mSeq, mIfS, mNot, mB, mIsC, mVar, isC, mRet, mC, mTV, mAnd, mOr, mBin, mFld, dEqF, flV, retM, DL.bindM, mNx, mCall, lenM, mCons, mNil, mTup, mIsT, isT, mSet, mAsg, tgTup, tgCons, tgN, tgNil, mk_Ratio_1, mk_Ratio_2, mCallO, lenO, runO, mRetO, mLst, mIf, mUn, dNegI, mIsT2, mNoP, mPart, oListC, o__law_trim, hm, mWhile, h4, cLen, oSlice, hc, LP]
theorem all2_pr {B : Nat} {α : Type} {ds : List D} {l : List α} (h : All2 (fun d _ => ∃ x, d = pr x ∧ Bd 1 B x) ds l) : ∃ xs : List Rat, ds = xs.map pr ∧ AllBd 1 B xs ∧ xs.length = l.length := by
  induction h with
  | nil => exact ⟨[], rfl, (fun x hx => absurd hx List.not_mem_nil), rfl⟩
  | cons h _ ih =>
    obtain ⟨x, rfl, hb⟩ := h
    obtain ⟨xs, rfl, hb2, hl⟩ := ih
    refine ⟨x :: xs, rfl, fun y hy => ?_, by simp [runD, env0, mSeq, mIfS, mNot, mB, mIsC, mVar, isC, mRet, mC, mTV, mAnd, mOr, mBin, mFld, dEqF, flV, retM, DL.bindM, mNx, mCall, lenM, mCons, mNil, mTup, mIsT, isT, mSet, mAsg, tgTup, tgCons, tgN, tgNil, mk_Ratio_1, mk_Ratio_2, mCallO, lenO, runO, mRetO, mLst, mIf, mUn, dNegI, mIsT2, mNoP, mPart, oListC, hl]⟩
    rcases List.mem_cons.mp hy with rfl | hy
    · exact hb
    · exact hb2 y hy
theorem coef_all {P : Rat → Prop} {xs : List Rat} (h : ∀ x ∈ xs, P x) (h0 : P 0) (i : Nat) : P (coef xs i) := by
  by_cases hi : i < xs.length
  · rw [coef_get hi]; exact h _ (List.getElem_mem hi)
  · rw [coef_beyond (by omega)]; exact h0
theorem po_trim {k B n : Nat} {xs : List Rat} (h : AllBd k B xs) (hl : xs.length ≤ n) : Po k B n (trim xs) :=
  ⟨trT xs, fun i => by rw [coef_trim]; exact coef_all h ((Bd.zero k).mono (Nat.zero_le _)) i, Nat.le_trans (trim_len xs) hl⟩
theorem law_line {p : Pt} (hp : Good p) {most : Nat} (hm : most ≤ 29) : ∃ xs p', o__law_line [.pot, .int (most : Nat)] p = some (xs.map pr, p') ∧ Po 1 36 (most + 1) xs ∧ Good p' := by
  obtain ⟨r, p1, e1, r1, r2, g1⟩ := law_draw hp (many := (most : Int) + 2) (by omega) (by omega)
  obtain ⟨n, rfl⟩ := Int.eq_ofNat_of_zero_le r1
  obtain ⟨ds, p2, e2, q2, g2⟩ := comp_st (Q := fun d (_ : Nat) => ∃ x, d = pr x ∧ Bd 1 36 x) (i := 2) (e := mCall (lenM 2 d__law_number) (mCons (mVar 0) (mCons (mC (.int 6)) mNil))) (env := [.val .pot, .val (.int (most : Nat)), .un]) (F := fun i : Nat => .int (0 + (i : Nat))) (List.range n) (fun a _ p hp => by
    obtain ⟨x, p', e, hb, g⟩ := law_number hp (most := 6) (by decide)
    have e' : d__law_number [.pot, .int 6] p = some (pr x, p') := e
    exact ⟨pr x, p', by simp [runD, env0, mSeq, mIfS, mNot, mB, mIsC, mVar, isC, mRet, mC, mTV, mAnd, mOr, mBin, mFld, dEqF, flV, retM, DL.bindM, mNx, mCall, lenM, mCons, mNil, mTup, mIsT, isT, mSet, mAsg, tgTup, tgCons, tgN, tgNil, mk_Ratio_1, mk_Ratio_2, mCallO, lenO, runO, mRetO, mLst, mIf, mUn, dNegI, mIsT2, mNoP, mPart, oListC, e'], ⟨x, rfl, hb⟩, g⟩) p1 g1
  obtain ⟨xs, rfl, hb, hl⟩ := all2_pr q2
  rw [List.length_range] at hl
  have ht := ltrim_eq xs (by omega)
  refine ⟨trim xs, p2, ?_, po_trim hb (by omega), g2⟩
  have hm : m__law_line = mRetO (mCallO (lenO 1 o__law_trim) (mCons (mLst (mLc (srcR1 (mCons (mCall (lenM 2 d__law_draw) (mCons (mVar 0) (mCons (mBin dAddI (mVar 1) (mC (.int 2))) mNil))) mNil)) [2] (tgN 2) mYes (mCall (lenM 2 d__law_number) (mCons (mVar 0) (mCons (mC (.int 6)) mNil))))) mNil)) := rfl
  have hn1 : -1000000 ≤ (n : Int) ∧ (n : Int) ≤ 1000000 := by omega
  have hn2 : (rngD 0 n).length ≤ 100000 := by unfold rngD; rw [List.length_map, List.length_range]; omega
  have e2' : compM (tgN 2) mYes (mCall (lenM 2 d__law_number) (mCons (mVar 0) (mCons (mC (.int 6)) mNil))) [.val .pot, .val (.int (most : Nat)), .un] (rngD 0 n) p1 = some (xs.map pr, p2) := e2
  generalize mCall (lenM 2 d__law_number) (mCons (mVar 0) (mCons (mC (.int 6)) mNil)) = elt at *
  unfold LP at ht
  simp [runD, env0, mSeq, mIfS, mNot, mB, mIsC, mVar, isC, mRet, mC, mTV, mAnd, mOr, mBin, mFld, dEqF, flV, retM, DL.bindM, mNx, mCall, lenM, mCons, mNil, mTup, mIsT, isT, mSet, mAsg, tgTup, tgCons, tgN, tgNil, mk_Ratio_1, mk_Ratio_2, mCallO, lenO, runO, mRetO, mLst, mIf, mUn, dNegI, mIsT2, mNoP, mPart, oListC, o__law_line, hm, dAddI, dII, e1, mLc, srcR1, hn1, hn2, wipeE, e2', ht]
theorem coef_zeros_end (a : List Rat) (k i : Nat) : coef (a ++ List.replicate k 0) i = coef a i := by
  unfold coef
  rw [List.getD_eq_getElem?_getD, List.getD_eq_getElem?_getD, List.getElem?_append]
  split
  · rfl
  · rename_i h
    rw [List.getElem?_eq_none (by omega : a.length ≤ i), List.getElem?_replicate]
    split <;> rfl
theorem Nums.app {ds es : List D} {xs ys : List Rat} (h : Nums ds xs) (h' : Nums es ys) : Nums (ds ++ es) (xs ++ ys) := by
  induction h with
  | nil => exact h'
  | cons h _ ih => exact .cons h ih
theorem Nums.zeros : ∀ k : Nat, Nums (repD [.int 0] k) (List.replicate k 0)
  | 0 => .nil
  | k + 1 => .cons (.inr ⟨0, rfl, rfl⟩) (Nums.zeros k)
/-- as `Gv`, with numbers that can be shown -/
def Gw (d : D) (a : List Rat) : Prop := ∃ xs, Given d xs ∧ xs.length ≤ 31 ∧ trim xs = a ∧ AllSz xs
theorem Gw.gv {d : D} {a : List Rat} (h : Gw d a) : Gv d a := by
  obtain ⟨xs, h1, h2, h3, _⟩ := h
  exact ⟨xs, h1, h2, h3⟩
theorem sz0 : Sz 0 := ⟨by decide +kernel, by decide +kernel⟩
theorem law_given {p : Pt} (hp : Good p) {a : List Rat} (ht : Tr a) (hs : AllSz a) (hl : a.length ≤ 31) : ∃ d p', d__law_given [.pot, LP a] p = some (d, p') ∧ Gw d a ∧ Good p' := by
  obtain ⟨ds, p1, e1, q1, g1⟩ := comp_st (Q := Num) (i := 3) (e := mCall (lenM 2 d__law_passed) (mCons (mVar 0) (mCons (mVar 3) mNil))) (env := [.val .pot, .val (LP a), .un, .un]) (F := pr) a (fun x hx p hp => by
    obtain ⟨d, p', e, hn, g⟩ := law_passed hp (hs x hx)
    exact ⟨d, p', by simp [runD, env0, mSeq, mIfS, mNot, mB, mIsC, mVar, isC, mRet, mC, mTV, mAnd, mOr, mBin, mFld, dEqF, flV, retM, DL.bindM, mNx, mCall, lenM, mCons, mNil, mTup, mIsT, isT, mSet, mAsg, tgTup, tgCons, tgN, tgNil, mk_Ratio_1, mk_Ratio_2, mCallO, lenO, runO, mRetO, mLst, mIf, mUn, dNegI, mIsT2, mNoP, mPart, oListC, e], hn, g⟩) p hp
  have hn := q1.nums
  have hlen := hn.len
  obtain ⟨k, p2, e2, hk, g2⟩ : ∃ (k : Nat) (p2 : Pt), (mIf (mB (mBin dLt (mCall cLen (mCons (mVar 1) mNil)) (mC (.int 29)))) (mCall (lenM 2 d__law_pick) (mCons (mVar 0) (mCons (mLst (mNew (mCons (mC (.int 0)) (mCons (mC (.int 0)) (mCons (mC (.int 1)) (mCons (mC (.int 2)) mNil)))))) mNil))) (mC (.int 0))) [.val .pot, .val (LP a), .un, .un] p1 = some (.int (k : Nat), p2) ∧ a.length + k ≤ 31 ∧ Good p2 := by
    by_cases h29 : a.length < 29
    · obtain ⟨d, p2, hd, e2, g2⟩ := law_pick g1 (ds := [.int 0, .int 0, .int 1, .int 2]) (by decide) (by decide)
      have h29' : ((a.length : Nat) : Int) < 29 := by omega
      obtain ⟨k, hk, rfl⟩ : ∃ k : Nat, k ≤ 2 ∧ d = .int (k : Nat) := by
        simp [runD, env0, mSeq, mIfS, mNot, mB, mIsC, mVar, isC, mRet, mC, mTV, mAnd, mOr, mBin, mFld, dEqF, flV, retM, DL.bindM, mNx, mCall, lenM, mCons, mNil, mTup, mIsT, isT, mSet, mAsg, tgTup, tgCons, tgN, tgNil, mk_Ratio_1, mk_Ratio_2, mCallO, lenO, runO, mRetO, mLst, mIf, mUn, dNegI, mIsT2, mNoP, mPart, oListC] at hd
        rcases hd with rfl | rfl | rfl
        · exact ⟨0, by omega, rfl⟩
        · exact ⟨1, by omega, rfl⟩
        · exact ⟨2, by omega, rfl⟩
      exact ⟨k, p2, by simp [runD, env0, mSeq, mIfS, mNot, mB, mIsC, mVar, isC, mRet, mC, mTV, mAnd, mOr, mBin, mFld, dEqF, flV, retM, DL.bindM, mNx, mCall, lenM, mCons, mNil, mTup, mIsT, isT, mSet, mAsg, tgTup, tgCons, tgN, tgNil, mk_Ratio_1, mk_Ratio_2, mCallO, lenO, runO, mRetO, mLst, mIf, mUn, dNegI, mIsT2, mNoP, mPart, oListC, LP, cLen, dLt, dII, h29', mNew, e2], by omega, g2⟩
    · have h29' : ¬ ((a.length : Nat) : Int) < 29 := by omega
      exact ⟨0, p1, by simp [runD, env0, mSeq, mIfS, mNot, mB, mIsC, mVar, isC, mRet, mC, mTV, mAnd, mOr, mBin, mFld, dEqF, flV, retM, DL.bindM, mNx, mCall, lenM, mCons, mNil, mTup, mIsT, isT, mSet, mAsg, tgTup, tgCons, tgN, tgNil, mk_Ratio_1, mk_Ratio_2, mCallO, lenO, runO, mRetO, mLst, mIf, mUn, dNegI, mIsT2, mNoP, mPart, oListC, LP, cLen, dLt, dII, h29'], by omega, g1⟩
  obtain ⟨r, p3, e3, r1, r2, g3⟩ := law_draw g2 (many := 4) (by omega) (by omega)
  have hN := hn.app (Nums.zeros k)
  have hNl := hN.len
  rw [List.length_append, List.length_append, List.length_replicate] at hNl
  have hm : m__law_given = mSeq (mSet 2 (mLst (oCat (mLst (mLc (srcL (mVar 1)) [3] (tgN 3) mYes (mCall (lenM 2 d__law_passed) (mCons (mVar 0) (mCons (mVar 3) mNil))))) (mLst (oRep (mLst (mNew (mCons (mC (.int 0)) mNil))) (mIf (mB (mBin dLt (mCall cLen (mCons (mVar 1) mNil)) (mC (.int 29)))) (mCall (lenM 2 d__law_pick) (mCons (mVar 0) (mCons (mLst (mNew (mCons (mC (.int 0)) (mCons (mC (.int 0)) (mCons (mC (.int 1)) (mCons (mC (.int 2)) mNil)))))) mNil))) (mC (.int 0)))))))) (mRet (mIf (mB (mBin (dEqU false) (mCall (lenM 2 d__law_draw) (mCons (mVar 0) (mCons (mC (.int 4)) mNil))) (mC (.int 0)))) (mCall cTup (mCons (mVar 2) mNil)) (mVar 2))) := rfl
  generalize mCall (lenM 2 d__law_passed) (mCons (mVar 0) (mCons (mVar 3) mNil)) = elt at *
  generalize mIf (mB (mBin dLt (mCall cLen (mCons (mVar 1) mNil)) (mC (.int 29)))) (mCall (lenM 2 d__law_pick) (mCons (mVar 0) (mCons (mLst (mNew (mCons (mC (.int 0)) (mCons (mC (.int 0)) (mCons (mC (.int 1)) (mCons (mC (.int 2)) mNil)))))) mNil))) (mC (.int 0)) = pk at *
  have hall : AllSz (a ++ List.replicate k 0) := fun x hx => by
    rcases List.mem_append.mp hx with hx | hx
    · exact hs x hx
    · rw [(List.mem_replicate.mp hx).2]; exact sz0
  have htr : trim (a ++ List.replicate k 0) = a := by
    rw [trim_ext _ a (coef_zeros_end a k)]; exact ht
  have hlen2 : (a ++ List.replicate k 0).length ≤ 31 := by rw [List.length_append, List.length_replicate]; omega
  have c1 : a.length ≤ 100000 := by omega
  have c2 : (k : Int) ≤ 100000 ∧ -100000 ≤ (k : Int) ∧ k ≤ 100000 := by omega
  have c3 : ds.length + (repD [.int 0] k).length ≤ 100000 := by omega
  unfold LP at e1 e2
  by_cases h0 : r = 0
  · subst h0
    refine ⟨.tup (ds ++ repD [.int 0] k), p3, ?_, ⟨_, ⟨_, hN, .inr rfl⟩, hlen2, htr, hall⟩, g3⟩
    simp [runD, env0, mSeq, mIfS, mNot, mB, mIsC, mVar, isC, mRet, mC, mTV, mAnd, mOr, mBin, mFld, dEqF, flV, retM, DL.bindM, mNx, mCall, lenM, mCons, mNil, mTup, mIsT, isT, mSet, mAsg, tgTup, tgCons, tgN, tgNil, mk_Ratio_1, mk_Ratio_2, mCallO, lenO, runO, mRetO, mLst, mIf, mUn, dNegI, mIsT2, mNoP, mPart, oListC, d__law_given, hm, LP, oCat, mLc, srcL, c1, wipeE, e1, oRep, mNew, e2, c2, c3, e3, eqUI, cTup]
  · refine ⟨.lst (ds ++ repD [.int 0] k), p3, ?_, ⟨_, ⟨_, hN, .inl rfl⟩, hlen2, htr, hall⟩, g3⟩
    simp [runD, env0, mSeq, mIfS, mNot, mB, mIsC, mVar, isC, mRet, mC, mTV, mAnd, mOr, mBin, mFld, dEqF, flV, retM, DL.bindM, mNx, mCall, lenM, mCons, mNil, mTup, mIsT, isT, mSet, mAsg, tgTup, tgCons, tgN, tgNil, mk_Ratio_1, mk_Ratio_2, mCallO, lenO, runO, mRetO, mLst, mIf, mUn, dNegI, mIsT2, mNoP, mPart, oListC, d__law_given, hm, LP, oCat, mLc, srcL, c1, wipeE, e1, oRep, mNew, e2, c2, c3, e3, eqUI, cTup, h0]
end Q
end

section
set_option Elab.async false
set_option linter.all false
set_option maxRecDepth 100000
set_option maxHeartbeats 4000000
set_option exponentiation.threshold 20000
/-! the plain law: the law's own sums and products. -/
namespace Q
open DL PySem PL
theorem pr0 : (D.tup [.int 0, .int 1]) = pr 0 := rfl
def sEl : Env' → Mo D := mCall (lenM 2 d__law_sum) (mCons (mIf (mB (mBin dLt (mVar 3) (mCall cLen (mCons (mVar 0) mNil)))) (mBin atD (mVar 0) (mVar 3)) (mTup (mCons (mC (.int 0)) (mCons (mC (.int 1)) mNil)))) (mCons (mIf (mB (mBin dLt (mVar 3) (mCall cLen (mCons (mVar 1) mNil)))) (mBin atD (mVar 1) (mVar 3)) (mTup (mCons (mC (.int 0)) (mCons (mC (.int 1)) mNil)))) mNil))
theorem sel_at {a : List Rat} {i : Nat} {v0 v1 v2 : SV} {env : Env'} (j : Nat) (hv : env[j]? = some (.val (LP a))) (h3 : env[3]? = some (.val (.int (i : Nat)))) : mIf (mB (mBin dLt (mVar 3) (mCall cLen (mCons (mVar j) mNil)))) (mBin atD (mVar j) (mVar 3)) (mTup (mCons (mC (.int 0)) (mCons (mC (.int 1)) mNil))) env = retM (pr (coef a i)) := by
  funext p
  by_cases h : i < a.length
  · have hat := at_pr h
    rw [← coef_get h] at hat
    unfold LP at hat hv
    simp [runD, env0, mSeq, mIfS, mNot, mB, mIsC, mVar, isC, mRet, mC, mTV, mAnd, mOr, mBin, mFld, dEqF, flV, retM, DL.bindM, mNx, mCall, lenM, mCons, mNil, mTup, mIsT, isT, mSet, mAsg, tgTup, tgCons, tgN, tgNil, mk_Ratio_1, mk_Ratio_2, mCallO, lenO, runO, mRetO, mLst, mIf, mUn, dNegI, mIsT2, mNoP, mPart, oListC, hv, h3, cLen, dLt, dII, h, hat]
  · rw [coef_beyond (by omega)]
    unfold LP at hv
    simp [runD, env0, mSeq, mIfS, mNot, mB, mIsC, mVar, isC, mRet, mC, mTV, mAnd, mOr, mBin, mFld, dEqF, flV, retM, DL.bindM, mNx, mCall, lenM, mCons, mNil, mTup, mIsT, isT, mSet, mAsg, tgTup, tgCons, tgN, tgNil, mk_Ratio_1, mk_Ratio_2, mCallO, lenO, runO, mRetO, mLst, mIf, mUn, dNegI, mIsT2, mNoP, mPart, oListC, hv, h3, cLen, dLt, dII, h, pr0]
theorem lsum_loop {a b : List Rat} (ha : AllSz a) (hb : AllSz b) : ∀ (m k : Nat) (acc : List Rat) (v3 : SV), acc.length + m ≤ 1000 → ∃ w, loopM (mTg (tgN 3) (mApp 2 sEl)) ((List.range' k m).map fun i => D.int (i : Nat)) [.val (LP a), .val (LP b), .own (acc.map pr), v3] = retM (.nx, [.val (LP a), .val (LP b), .own ((acc ++ (List.range' k m).map fun i => coef a i + coef b i).map pr), w])
  | 0, k, acc, v3, _ => ⟨v3, by simp [runD, env0, mSeq, mIfS, mNot, mB, mIsC, mVar, isC, mRet, mC, mTV, mAnd, mOr, mBin, mFld, dEqF, flV, retM, DL.bindM, mNx, mCall, lenM, mCons, mNil, mTup, mIsT, isT, mSet, mAsg, tgTup, tgCons, tgN, tgNil, mk_Ratio_1, mk_Ratio_2, mCallO, lenO, runO, mRetO, mLst, mIf, mUn, dNegI, mIsT2, mNoP, mPart, oListC, loopM]⟩
  | m + 1, k, acc, v3, hl => by
    obtain ⟨w, ih⟩ := lsum_loop ha hb m (k + 1) (acc ++ [coef a k + coef b k]) (.val (.int (k : Nat))) (by simp [runD, env0, mSeq, mIfS, mNot, mB, mIsC, mVar, isC, mRet, mC, mTV, mAnd, mOr, mBin, mFld, dEqF, flV, retM, DL.bindM, mNx, mCall, lenM, mCons, mNil, mTup, mIsT, isT, mSet, mAsg, tgTup, tgCons, tgN, tgNil, mk_Ratio_1, mk_Ratio_2, mCallO, lenO, runO, mRetO, mLst, mIf, mUn, dNegI, mIsT2, mNoP, mPart, oListC]; omega)
    refine ⟨w, ?_⟩
    rw [List.range'_succ, List.map_cons, List.map_cons, show acc ++ (coef a k + coef b k) :: (List.range' (k + 1) m).map (fun i => coef a i + coef b i) = (acc ++ [coef a k + coef b k]) ++ (List.range' (k + 1) m).map (fun i => coef a i + coef b i) by simp [runD, env0, mSeq, mIfS, mNot, mB, mIsC, mVar, isC, mRet, mC, mTV, mAnd, mOr, mBin, mFld, dEqF, flV, retM, DL.bindM, mNx, mCall, lenM, mCons, mNil, mTup, mIsT, isT, mSet, mAsg, tgTup, tgCons, tgN, tgNil, mk_Ratio_1, mk_Ratio_2, mCallO, lenO, runO, mRetO, mLst, mIf, mUn, dNegI, mIsT2, mNoP, mPart, oListC], ← ih]
    have e1 : sEl [.val (LP a), .val (LP b), .own (acc.map pr), .val (.int (k : Nat))] = retM (pr (coef a k + coef b k)) := by
      have s1 := sel_at (a := a) (i := k) (v0 := .un) (v1 := .un) (v2 := .un) (env := [.val (LP a), .val (LP b), .own (acc.map pr), .val (.int (k : Nat))]) 0 rfl rfl
      have s2 := sel_at (a := b) (i := k) (v0 := .un) (v1 := .un) (v2 := .un) (env := [.val (LP a), .val (LP b), .own (acc.map pr), .val (.int (k : Nat))]) 1 rfl rfl
      have hs := law_sum (coef_all ha sz0 k) (coef_all hb sz0 k)
      unfold sEl
      generalize mIf (mB (mBin dLt (mVar 3) (mCall cLen (mCons (mVar 0) mNil)))) (mBin atD (mVar 0) (mVar 3)) (mTup (mCons (mC (.int 0)) (mCons (mC (.int 1)) mNil))) = x at *
      generalize mIf (mB (mBin dLt (mVar 3) (mCall cLen (mCons (mVar 1) mNil)))) (mBin atD (mVar 1) (mVar 3)) (mTup (mCons (mC (.int 0)) (mCons (mC (.int 1)) mNil))) = y at *
      funext p
      simp [runD, env0, mSeq, mIfS, mNot, mB, mIsC, mVar, isC, mRet, mC, mTV, mAnd, mOr, mBin, mFld, dEqF, flV, retM, DL.bindM, mNx, mCall, lenM, mCons, mNil, mTup, mIsT, isT, mSet, mAsg, tgTup, tgCons, tgN, tgNil, mk_Ratio_1, mk_Ratio_2, mCallO, lenO, runO, mRetO, mLst, mIf, mUn, dNegI, mIsT2, mNoP, mPart, oListC, s1, s2, hs]
    have hl2 : acc.length ≤ 100000 := by omega
    generalize sEl = el at *
    funext p
    conv => lhs; unfold loopM
    simp [runD, env0, mSeq, mIfS, mNot, mB, mIsC, mVar, isC, mRet, mC, mTV, mAnd, mOr, mBin, mFld, dEqF, flV, retM, DL.bindM, mNx, mCall, lenM, mCons, mNil, mTup, mIsT, isT, mSet, mAsg, tgTup, tgCons, tgN, tgNil, mk_Ratio_1, mk_Ratio_2, mCallO, lenO, runO, mRetO, mLst, mIf, mUn, dNegI, mIsT2, mNoP, mPart, oListC, mTg, mApp, e1, hl2]
theorem range_rng (n : Nat) : rngD 0 n = (List.range' 0 n).map fun i => D.int (i : Nat) := by
  unfold rngD
  rw [List.range_eq_range']
  exact List.map_congr_left fun i _ => by rw [Int.zero_add]
theorem law_lsum {a b : List Rat} (ha : AllSz a) (hb : AllSz b) (hla : a.length ≤ 100) (hlb : b.length ≤ 100) : o__law_line_sum [LP a, LP b] = retM ((plusT a b).map pr) := by
  obtain ⟨w, h⟩ := lsum_loop ha hb (max a.length b.length) 0 [] .un (by simp [runD, env0, mSeq, mIfS, mNot, mB, mIsC, mVar, isC, mRet, mC, mTV, mAnd, mOr, mBin, mFld, dEqF, flV, retM, DL.bindM, mNx, mCall, lenM, mCons, mNil, mTup, mIsT, isT, mSet, mAsg, tgTup, tgCons, tgN, tgNil, mk_Ratio_1, mk_Ratio_2, mCallO, lenO, runO, mRetO, mLst, mIf, mUn, dNegI, mIsT2, mNoP, mPart, oListC]; omega)
  rw [← range_rng, ← List.range_eq_range', List.nil_append] at h
  have ht := ltrim_eq (sumL a b) (by rw [len_sumL]; omega)
  have hm : m__law_line_sum = mSeq (mSetO 2 (mNew mNil)) (mSeq (mFor (srcR1 (mCons (mCall cMax2 (mCons (mCall cLen (mCons (mVar 0) mNil)) (mCons (mCall cLen (mCons (mVar 1) mNil)) mNil))) mNil)) (tgN 3) (mApp 2 sEl)) (mFrz 2 (mRetO (mCallO (lenO 1 o__law_trim) (mCons (mVar 2) mNil))))) := rfl
  have hmax : cMax2 [.int (a.length : Nat), .int (b.length : Nat)] = retM (.int (max a.length b.length : Nat)) := by
    have : (if (b.length : Int) > (a.length : Int) then (b.length : Int) else (a.length : Int)) = ((max a.length b.length : Nat) : Int) := by split <;> omega
    rw [← this]
    rfl
  have c1 : -1000000 ≤ ((max a.length b.length : Nat) : Int) ∧ ((max a.length b.length : Nat) : Int) ≤ 1000000 := by omega
  have h' : loopM (mTg (tgN 3) (mApp 2 sEl)) (rngD 0 (max a.length b.length)) [.val (LP a), .val (LP b), .own [], .un] = retM (.nx, [.val (LP a), .val (LP b), .own ((sumL a b).map pr), w]) := h
  have k1 : cLen [LP a] = retM (.int (a.length : Nat)) := by unfold LP; simp [runD, env0, mSeq, mIfS, mNot, mB, mIsC, mVar, isC, mRet, mC, mTV, mAnd, mOr, mBin, mFld, dEqF, flV, retM, DL.bindM, mNx, mCall, lenM, mCons, mNil, mTup, mIsT, isT, mSet, mAsg, tgTup, tgCons, tgN, tgNil, mk_Ratio_1, mk_Ratio_2, mCallO, lenO, runO, mRetO, mLst, mIf, mUn, dNegI, mIsT2, mNoP, mPart, oListC, cLen]
  have k2 : cLen [LP b] = retM (.int (b.length : Nat)) := by unfold LP; simp [runD, env0, mSeq, mIfS, mNot, mB, mIsC, mVar, isC, mRet, mC, mTV, mAnd, mOr, mBin, mFld, dEqF, flV, retM, DL.bindM, mNx, mCall, lenM, mCons, mNil, mTup, mIsT, isT, mSet, mAsg, tgTup, tgCons, tgN, tgNil, mk_Ratio_1, mk_Ratio_2, mCallO, lenO, runO, mRetO, mLst, mIf, mUn, dNegI, mIsT2, mNoP, mPart, oListC, cLen]
  generalize mApp 2 sEl = body at *
  generalize LP a = A at *
  generalize LP b = B at *
  unfold LP at ht
  generalize max a.length b.length = n at *
  funext p
  simp [runD, env0, mSeq, mIfS, mNot, mB, mIsC, mVar, isC, mRet, mC, mTV, mAnd, mOr, mBin, mFld, dEqF, flV, retM, DL.bindM, mNx, mCall, lenM, mCons, mNil, mTup, mIsT, isT, mSet, mAsg, tgTup, tgCons, tgN, tgNil, mk_Ratio_1, mk_Ratio_2, mCallO, lenO, runO, mRetO, mLst, mIf, mUn, dNegI, mIsT2, mNoP, mPart, oListC, o__law_line_sum, hm, mSetO, mNew, mFor, srcR1, k1, k2, hmax, c1, h', mFrz, ht, plusT]
theorem law_lscal {a : List Rat} {r : Rat} (ha : AllSz a) (hr : Sz r) (hl : a.length ≤ 100) : o__law_line_scaled [LP a, pr r] = retM ((scalT a r).map pr) := by
  have ht := ltrim_eq (a.map (· * r)) (by rw [List.length_map]; omega)
  have hc : ∀ v : SV, compM (tgN 2) mYes (mCall (lenM 2 d__law_by) (mCons (mVar 2) (mCons (mVar 1) mNil))) [v, .val (pr r), .un] (a.map pr) = retM ((a.map (· * r)).map pr) := fun v => by
    rw [List.map_map]
    refine comp_map fun x hx => ?_
    have hb := law_by (ha x hx) hr
    funext p
    simp [runD, env0, mSeq, mIfS, mNot, mB, mIsC, mVar, isC, mRet, mC, mTV, mAnd, mOr, mBin, mFld, dEqF, flV, retM, DL.bindM, mNx, mCall, lenM, mCons, mNil, mTup, mIsT, isT, mSet, mAsg, tgTup, tgCons, tgN, tgNil, mk_Ratio_1, mk_Ratio_2, mCallO, lenO, runO, mRetO, mLst, mIf, mUn, dNegI, mIsT2, mNoP, mPart, oListC, hb]
  have hm : m__law_line_scaled = mRetO (mCallO (lenO 1 o__law_trim) (mCons (mLst (mLc (srcL (mVar 0)) [2] (tgN 2) mYes (mCall (lenM 2 d__law_by) (mCons (mVar 2) (mCons (mVar 1) mNil))))) mNil)) := rfl
  generalize mCall (lenM 2 d__law_by) (mCons (mVar 2) (mCons (mVar 1) mNil)) = el at *
  have c1 : a.length ≤ 100000 := by omega
  have hc' := hc (.val (LP a))
  unfold LP at ht hc'
  simp only [List.map_map] at ht hc'
  funext p
  simp [runD, env0, mSeq, mIfS, mNot, mB, mIsC, mVar, isC, mRet, mC, mTV, mAnd, mOr, mBin, mFld, dEqF, flV, retM, DL.bindM, mNx, mCall, lenM, mCons, mNil, mTup, mIsT, isT, mSet, mAsg, tgTup, tgCons, tgN, tgNil, mk_Ratio_1, mk_Ratio_2, mCallO, lenO, runO, mRetO, mLst, mIf, mUn, dNegI, mIsT2, mNoP, mPart, oListC, o__law_line_scaled, hm, LP, mLc, srcL, c1, wipeE, hc', ht, scalT]
theorem law_lat {a : List Rat} {r : Rat} (ha : AllBd 1 36 a) (hl : a.length ≤ 20) (hr : Bd 1 54 r) : d__law_line_at [LP a, pr r] = retM (pr (worthT a r)) := by
  have hrz : Sz r := Bd.sz hr (by decide +kernel) (by decide +kernel)
  have loop : ∀ (xs : List Rat) (k : Nat) (b : Rat) (v0 v3 : SV), k + xs.length ≤ 28 → AllBd 1 36 xs → Bd k (36 * 60 ^ k) b → ∃ w, loopM (mTg (tgN 3) (mSet 2 (mCall (lenM 2 d__law_sum) (mCons (mCall (lenM 2 d__law_by) (mCons (mVar 2) (mCons (mVar 1) mNil))) (mCons (mVar 3) mNil))))) (xs.map pr) [v0, .val (pr r), .val (pr b), v3] = retM (.nx, [v0, .val (pr r), .val (pr (xs.foldl (step r) b)), w]) := by
    intro xs
    induction xs with
    | nil => intro k b v0 v3 _ _ _; exact ⟨v3, rfl⟩
    | cons x xs ih =>
      intro k b v0 v3 hk hx hb
      rw [List.length_cons] at hk
      obtain ⟨w, e⟩ := ih (k + 1) (step r b x) v0 (.val (pr x)) (by omega) (fun y hy => hx y (List.mem_cons_of_mem _ hy)) (bd_step hb hr (hx x List.mem_cons_self))
      refine ⟨w, ?_⟩
      rw [List.foldl_cons, ← e]
      have h1 := law_by (sz_fold (r := r) (by omega) hb) hrz
      have h2 : Sz (b * r) := by
        refine sz_fold (r := r) (k := k + 1) (by omega) ((hb.mul hr).mono ?_)
        rw [Nat.pow_succ]
        generalize 60 ^ k = v at *
        omega
      have h3 := law_sum h2 (Bd.sz (hx x List.mem_cons_self) (by decide +kernel) (by decide +kernel))
      funext p
      rw [List.map_cons]
      conv => lhs; unfold loopM
      simp [runD, env0, mSeq, mIfS, mNot, mB, mIsC, mVar, isC, mRet, mC, mTV, mAnd, mOr, mBin, mFld, dEqF, flV, retM, DL.bindM, mNx, mCall, lenM, mCons, mNil, mTup, mIsT, isT, mSet, mAsg, tgTup, tgCons, tgN, tgNil, mk_Ratio_1, mk_Ratio_2, mCallO, lenO, runO, mRetO, mLst, mIf, mUn, dNegI, mIsT2, mNoP, mPart, oListC, mTg, h1, h3, step]
  obtain ⟨w, h⟩ := loop a.reverse 0 0 (.val (LP a)) .un (by rw [List.length_reverse]; omega) (fun x hx => ha x (List.mem_reverse.mp hx)) ((Bd.zero 0).mono (Nat.zero_le _))
  have hm : m__law_line_at = mSeq (mSet 2 (mTup (mCons (mC (.int 0)) (mCons (mC (.int 1)) mNil)))) (mSeq (mFor (srcL (mLst (oRev (mVar 0)))) (tgN 3) (mSet 2 (mCall (lenM 2 d__law_sum) (mCons (mCall (lenM 2 d__law_by) (mCons (mVar 2) (mCons (mVar 1) mNil))) (mCons (mVar 3) mNil))))) (mRet (mVar 2))) := rfl
  generalize mSet 2 (mCall (lenM 2 d__law_sum) (mCons (mCall (lenM 2 d__law_by) (mCons (mVar 2) (mCons (mVar 1) mNil))) (mCons (mVar 3) mNil))) = body at *
  unfold LP at h
  rw [List.map_reverse] at h
  funext p
  simp [runD, env0, mSeq, mIfS, mNot, mB, mIsC, mVar, isC, mRet, mC, mTV, mAnd, mOr, mBin, mFld, dEqF, flV, retM, DL.bindM, mNx, mCall, lenM, mCons, mNil, mTup, mIsT, isT, mSet, mAsg, tgTup, tgCons, tgN, tgNil, mk_Ratio_1, mk_Ratio_2, mCallO, lenO, runO, mRetO, mLst, mIf, mUn, dNegI, mIsT2, mNoP, mPart, oListC, d__law_line_at, hm, LP, mFor, srcL, oRev, pr0, h, worthT]
end Q
end

section
set_option Elab.async false
set_option linter.all false
set_option maxRecDepth 100000
set_option maxHeartbeats 4000000
set_option exponentiation.threshold 20000
/-! the plain law: the law's own products. -/
namespace Q
open DL PySem PL
def qEnv (v0 v1 : SV) (F : List Rat) (v3 v4 v5 v6 : SV) : Env' := [v0, v1, .own (F.map pr), v3, v4, v5, v6]
def qBody : MS := mSetIx 2 (mCall (lenM 2 d__law_sum) (mCons (mBin atD (mVarB 2) (mBin dAddI (mVar 3) (mVar 5))) (mCons (mCall (lenM 2 d__law_by) (mCons (mVar 4) (mCons (mVar 6) mNil))) mNil))) (mBin dAddI (mVar 3) (mVar 5))
def qTg : MG := tgTup 2 (tgCons (tgN 5) (tgCons (tgN 6) tgNil))
theorem bd_set {k B : Nat} {F : List Rat} {i : Nat} {x : Rat} (h : AllBd k B F) (hx : Bd k B x) : AllBd k B (F.set i x) := fun y hy => by
  rcases List.mem_or_eq_of_mem_set hy with h1 | rfl
  · exact h y h1
  · exact hx
theorem AllBd.mono {k B B' : Nat} {F : List Rat} (h : AllBd k B F) (hb : B ≤ B') : AllBd k B' F := fun x hx => (h x hx).mono hb
theorem q_inner (v0 v1 : SV) {a k P N : Nat} {l : Rat} (hk : 6 ^ k < 10 ^ 60) (hN : N * P < 10 ^ 60) (hl : Sz l) : ∀ (rs F : List Rat) (t c : Nat) (v5 v6 : SV), a + t + rs.length ≤ F.length → c + rs.length ≤ N → AllBd k (c * P) F → (∀ r ∈ rs, Sz r ∧ Bd k P (l * r)) →
    AllBd k ((c + rs.length) * P) (addAt 0 opR F (a + t) l rs) ∧ ∃ w5 w6, loopM (mTg qTg qBody) (enumD t (rs.map pr)) (qEnv v0 v1 F (.val (.int (a : Nat))) (.val (pr l)) v5 v6) = retM (.nx, qEnv v0 v1 (addAt 0 opR F (a + t) l rs) (.val (.int (a : Nat))) (.val (pr l)) w5 w6)
  | [], F, t, c, v5, v6, _, _, hb, _ => ⟨hb, v5, v6, rfl⟩
  | r :: rs, F, t, c, v5, v6, h, hc, hb, hr => by
    simp only [List.length_cons] at h hc
    obtain ⟨sr, br⟩ := hr r List.mem_cons_self
    have hle : c * P ≤ (c + 1) * P := Nat.mul_le_mul_right P (by omega)
    have hat0 : F[a + t]? = some (F.getD (a + t) 0) := by
      rw [List.getD_eq_getElem?_getD, List.getElem?_eq_getElem (by omega : a + t < F.length)]; rfl
    have bF : Bd k (c * P) (F.getD (a + t) 0) := coef_all hb ((Bd.zero k).mono (Nat.zero_le _)) (a + t)
    have bN : Bd k ((c + 1) * P) (opR (F.getD (a + t) 0) l r) := by
      have := bF.add br
      rw [Nat.add_mul, Nat.one_mul]
      exact this
    obtain ⟨hb', w5, w6, ih⟩ := q_inner v0 v1 (a := a) hk hN hl rs (F.set (a + t) (opR (F.getD (a + t) 0) l r)) (t + 1) (c + 1) (.val (.int (t : Nat))) (.val (pr r)) (by simp [runD, env0, mSeq, mIfS, mNot, mB, mIsC, mVar, isC, mRet, mC, mTV, mAnd, mOr, mBin, mFld, dEqF, flV, retM, DL.bindM, mNx, mCall, lenM, mCons, mNil, mTup, mIsT, isT, mSet, mAsg, tgTup, tgCons, tgN, tgNil, mk_Ratio_1, mk_Ratio_2, mCallO, lenO, runO, mRetO, mLst, mIf, mUn, dNegI, mIsT2, mNoP, mPart, oListC]; omega) (by omega) (bd_set (hb.mono hle) bN) fun x hx => hr x (List.mem_cons_of_mem _ hx)
    refine ⟨?_, w5, w6, ?_⟩
    · rw [List.length_cons, show c + (rs.length + 1) = c + 1 + rs.length by omega]
      exact hb'
    have h1 : atD (.lst (F.map pr)) (.int ((a : Int) + (t : Nat))) = retM (pr (F.getD (a + t) 0)) := by
      have := at_lst (ds := F.map pr) (i := a + t) (d := pr (F.getD (a + t) 0)) (by rw [List.getElem?_map, hat0]; rfl)
      rw [← this]
      congr 2
    have z1 : c * P < 10 ^ 60 := Nat.lt_of_le_of_lt (Nat.mul_le_mul_right P (by omega : c ≤ N)) hN
    have z2 : 1 * P < 10 ^ 60 := Nat.lt_of_le_of_lt (Nat.mul_le_mul_right P (by omega : 1 ≤ N)) hN
    have h2 := law_by hl sr
    have h2' := law_sum (Bd.sz bF hk z1) (Bd.sz br hk (by rwa [Nat.one_mul] at z2))
    have h3 : L2.ixN F.length ((a : Int) + (t : Nat)) = some (a + t) := by
      have := ixN_nat (n := F.length) (i := a + t) (by omega)
      rw [← this]
      congr 1
    show _ = retM (Out.nx, qEnv v0 v1 (addAt 0 opR (F.set (a + t) (opR (F.getD (a + t) 0) l r)) (a + t + 1) l rs) (.val (.int (a : Nat))) (.val (pr l)) w5 w6)
    rw [show a + t + 1 = a + (t + 1) by omega, ← ih]
    generalize F.getD (a + t) 0 = u at *
    funext p
    rw [List.map_cons, enumD_cons]
    conv => lhs; unfold loopM
    simp [runD, env0, mSeq, mIfS, mNot, mB, mIsC, mVar, isC, mRet, mC, mTV, mAnd, mOr, mBin, mFld, dEqF, flV, retM, DL.bindM, mNx, mCall, lenM, mCons, mNil, mTup, mIsT, isT, mSet, mAsg, tgTup, tgCons, tgN, tgNil, mk_Ratio_1, mk_Ratio_2, mCallO, lenO, runO, mRetO, mLst, mIf, mUn, dNegI, mIsT2, mNoP, mPart, oListC, mTg, qTg, qBody, qEnv, mSetIx, mVarB, dAddI, dII, h1, h2, h2', h3, opR, List.map_set]
def qTgO : MG := tgTup 2 (tgCons (tgN 3) (tgCons (tgN 4) tgNil))
theorem q_outer (v0 : SV) {rs : List Rat} {k P N : Nat} (hk : 6 ^ k < 10 ^ 60) (hN : N * P < 10 ^ 60) : ∀ (ls F : List Rat) (a c : Nat) (v3 v4 v5 v6 : SV), a + ls.length + rs.length ≤ F.length + 1 → c + ls.length * rs.length ≤ N → AllBd k (c * P) F → (∀ l ∈ ls, Sz l ∧ ∀ r ∈ rs, Sz r ∧ Bd k P (l * r)) →
    ∃ w3 w4 w5 w6, loopM (mTg qTgO (mFor (srcE (mCons (mVar 1) mNil)) qTg qBody)) (enumD a (ls.map pr)) (qEnv v0 (.val (LP rs)) F v3 v4 v5 v6) = retM (.nx, qEnv v0 (.val (LP rs)) (addAll 0 opR F a ls rs) w3 w4 w5 w6)
  | [], F, a, c, v3, v4, v5, v6, _, _, _, _ => ⟨v3, v4, v5, v6, rfl⟩
  | l :: ls, F, a, c, v3, v4, v5, v6, h, hc, hb, hls => by
    simp only [List.length_cons] at h hc
    rw [Nat.add_mul, Nat.one_mul] at hc
    obtain ⟨sl, hr⟩ := hls l List.mem_cons_self
    obtain ⟨hb', u5, u6, hin⟩ := q_inner v0 (.val (LP rs)) (a := a) hk hN sl rs F 0 c v5 v6 (by omega) (by omega) hb hr
    obtain ⟨w3, w4, w5, w6, ih⟩ := q_outer v0 hk hN ls (addAt 0 opR F (a + 0) l rs) (a + 1) (c + rs.length) (.val (.int (a : Nat))) (.val (pr l)) u5 u6 (by rw [addAt_len]; omega) (by omega) hb' fun x hx => hls x (List.mem_cons_of_mem _ hx)
    refine ⟨w3, w4, w5, w6, ?_⟩
    show _ = retM (Out.nx, qEnv v0 (.val (LP rs)) (addAll 0 opR (addAt 0 opR F a l rs) (a + 1) ls rs) w3 w4 w5 w6)
    have z : a + 0 = a := rfl
    rw [z] at ih
    rw [← ih]
    funext p
    rw [List.map_cons, enumD_cons]
    conv => lhs; unfold loopM
    have e1 : mTg qTgO (mFor (srcE (mCons (mVar 1) mNil)) qTg qBody) (D.tup [.int (a : Nat), pr l]) (qEnv v0 (.val (LP rs)) F v3 v4 v5 v6) = mFor (srcE (mCons (mVar 1) mNil)) qTg qBody (qEnv v0 (.val (LP rs)) F (.val (.int (a : Nat))) (.val (pr l)) v5 v6) := rfl
    have e2 : mFor (srcE (mCons (mVar 1) mNil)) qTg qBody (qEnv v0 (.val (LP rs)) F (.val (.int (a : Nat))) (.val (pr l)) v5 v6) = retM (.nx, qEnv v0 (.val (LP rs)) (addAt 0 opR F a l rs) (.val (.int (a : Nat))) (.val (pr l)) u5 u6) := by
      rw [z] at hin
      rw [← hin]
      rfl
    rw [e1, e2]
    rfl
theorem rep_pr0 (n : Nat) : repD [D.tup [.int 0, .int 1]] n = (List.replicate n (0 : Rat)).map pr := by
  unfold repD
  induction n with
  | zero => rfl
  | succ n ih => rw [List.replicate_succ, List.flatten_cons, ih, List.replicate_succ]; rfl
theorem addAll_nil (F ls : List Rat) (k : Nat) : addAll 0 opR F k ls [] = F := by
  induction ls generalizing k with
  | nil => rfl
  | cons l ls ih => exact ih (k + 1)
theorem coef_rep0 (n i : Nat) : coef (List.replicate n 0) i = 0 := by
  unfold coef
  rw [List.getD_eq_getElem?_getD, List.getElem?_replicate]
  split <;> rfl
theorem law_lby {a b : List Rat} {k k' B B' n n' : Nat} (pa : Po k B n a) (pb : Po k' B' n' b) (hn : n ≤ 31) (hn' : n' ≤ 31) (hk : 6 ^ (k + k') < 10 ^ 60) (hB : B < 10 ^ 60) (hB' : B' < 10 ^ 60) (hP : 961 * (B * B') < 10 ^ 60) : o__law_line_by [LP a, LP b] = retM ((timesT a b).map pr) := by
  have la := pa.l
  have lb := pb.l
  have hk1 : 6 ^ k < 10 ^ 60 := Nat.lt_of_le_of_lt (Nat.pow_le_pow_right (by omega) (by omega)) hk
  have hk2 : 6 ^ k' < 10 ^ 60 := Nat.lt_of_le_of_lt (Nat.pow_le_pow_right (by omega) (by omega)) hk
  obtain ⟨w3, w4, w5, w6, h⟩ := q_outer (.val (LP a)) (rs := b) (k := k + k') (P := B * B') (N := 961) hk hP a (List.replicate (a.length + b.length - 1) 0) 0 0 .un .un .un .un (by rw [List.length_replicate]; omega) (by rw [Nat.zero_add]; exact Nat.le_trans (Nat.mul_le_mul (by omega : a.length ≤ 31) (by omega : b.length ≤ 31)) (by decide)) (fun x hx => by rw [(List.mem_replicate.mp hx).2]; exact (Bd.zero _).mono (Nat.zero_le _)) fun l hl => ⟨Bd.sz (pa.all l hl) hk1 hB, fun r hr => ⟨Bd.sz (pb.all r hr) hk2 hB', (pa.all l hl).mul (pb.all r hr)⟩⟩
  obtain ⟨F, hF⟩ : ∃ F, F = addAll 0 opR (List.replicate (a.length + b.length - 1) 0) 0 a b := ⟨_, rfl⟩
  rw [← hF] at h
  have lF : F.length = a.length + b.length - 1 := by rw [hF, addAll_len, List.length_replicate]
  have same : trim F = timesT a b := by
    refine Eq.trans ?_ (tr_times a b)
    refine trim_ext _ _ fun i => ?_
    rw [coef_timesT, hF]
    by_cases hb0 : b = []
    · rw [hb0, addAll_nil, coef_rep0, mulF_comm, mulF_zero_left _ _ _ coef_nil]
    · by_cases ha0 : a = []
      · rw [ha0, mulF_zero_left _ _ _ coef_nil]
        exact coef_rep0 _ i
      · have h1 : 0 < a.length := List.length_pos_iff.mpr ha0
        rw [coef_addAll b a _ 0 (by rw [List.length_replicate]; omega) hb0, coef_rep0, if_pos (Nat.zero_le _), Nat.sub_zero, Rat.zero_add]
  have ht := ltrim_eq F (by omega)
  rw [same] at ht
  have hm : m__law_line_by = mSeq (mSetO 2 (oRep (mLst (mNew (mCons (mTup (mCons (mC (.int 0)) (mCons (mC (.int 1)) mNil))) mNil))) (mCall cMax2 (mCons (mC (.int 0)) (mCons (mBin dSubI (mBin dAddI (mCall cLen (mCons (mVar 0) mNil)) (mCall cLen (mCons (mVar 1) mNil))) (mC (.int 1))) mNil))))) (mSeq (mFor (srcE (mCons (mVar 0) mNil)) qTgO (mFor (srcE (mCons (mVar 1) mNil)) qTg qBody)) (mFrz 2 (mRetO (mCallO (lenO 1 o__law_trim) (mCons (mVar 2) mNil))))) := rfl
  have hmax : cMax2 [.int 0, .int ((a.length : Int) + (b.length : Int) - 1)] = retM (.int (a.length + b.length - 1 : Nat)) := by
    have : (if (a.length : Int) + (b.length : Int) - 1 > 0 then (a.length : Int) + (b.length : Int) - 1 else 0) = ((a.length + b.length - 1 : Nat) : Int) := by split <;> omega
    rw [← this]
    rfl
  have hsA : srcE (mCons (mVar 0) mNil) (qEnv (.val (LP a)) (.val (LP b)) (List.replicate (a.length + b.length - 1) 0) .un .un .un .un) = retM (enumD 0 (a.map pr)) := by
    funext p
    simp [runD, env0, mSeq, mIfS, mNot, mB, mIsC, mVar, isC, mRet, mC, mTV, mAnd, mOr, mBin, mFld, dEqF, flV, retM, DL.bindM, mNx, mCall, lenM, mCons, mNil, mTup, mIsT, isT, mSet, mAsg, tgTup, tgCons, tgN, tgNil, mk_Ratio_1, mk_Ratio_2, mCallO, lenO, runO, mRetO, mLst, mIf, mUn, dNegI, mIsT2, mNoP, mPart, oListC, srcE, qEnv, LP]
  generalize mFor (srcE (mCons (mVar 1) mNil)) qTg qBody = inner at *
  generalize qTgO = g at *
  have hfor : mFor (srcE (mCons (mVar 0) mNil)) g inner (qEnv (.val (LP a)) (.val (LP b)) (List.replicate (a.length + b.length - 1) 0) .un .un .un .un) = retM (.nx, qEnv (.val (LP a)) (.val (LP b)) F w3 w4 w5 w6) := by
    unfold mFor
    rw [hsA]
    exact h
  generalize mFor (srcE (mCons (mVar 0) mNil)) g inner = outer at *
  unfold qEnv at hfor
  rw [← rep_pr0] at hfor
  have k1 : cLen [LP a] = retM (.int (a.length : Nat)) := by unfold LP; simp [runD, env0, mSeq, mIfS, mNot, mB, mIsC, mVar, isC, mRet, mC, mTV, mAnd, mOr, mBin, mFld, dEqF, flV, retM, DL.bindM, mNx, mCall, lenM, mCons, mNil, mTup, mIsT, isT, mSet, mAsg, tgTup, tgCons, tgN, tgNil, mk_Ratio_1, mk_Ratio_2, mCallO, lenO, runO, mRetO, mLst, mIf, mUn, dNegI, mIsT2, mNoP, mPart, oListC, cLen]
  have k2 : cLen [LP b] = retM (.int (b.length : Nat)) := by unfold LP; simp [runD, env0, mSeq, mIfS, mNot, mB, mIsC, mVar, isC, mRet, mC, mTV, mAnd, mOr, mBin, mFld, dEqF, flV, retM, DL.bindM, mNx, mCall, lenM, mCons, mNil, mTup, mIsT, isT, mSet, mAsg, tgTup, tgCons, tgN, tgNil, mk_Ratio_1, mk_Ratio_2, mCallO, lenO, runO, mRetO, mLst, mIf, mUn, dNegI, mIsT2, mNoP, mPart, oListC, cLen]
  generalize LP a = A at *
  generalize LP b = Bb at *
  unfold LP at ht
  have c2 : ((a.length + b.length - 1 : Nat) : Int) ≤ 100000 ∧ -100000 ≤ ((a.length + b.length - 1 : Nat) : Int) ∧ a.length + b.length - 1 ≤ 100000 := by omega
  generalize a.length + b.length - 1 = m at *
  funext p
  simp [runD, env0, mSeq, mIfS, mNot, mB, mIsC, mVar, isC, mRet, mC, mTV, mAnd, mOr, mBin, mFld, dEqF, flV, retM, DL.bindM, mNx, mCall, lenM, mCons, mNil, mTup, mIsT, isT, mSet, mAsg, tgTup, tgCons, tgN, tgNil, mk_Ratio_1, mk_Ratio_2, mCallO, lenO, runO, mRetO, mLst, mIf, mUn, dNegI, mIsT2, mNoP, mPart, oListC, o__law_line_by, hm, mSetO, oRep, mNew, k1, k2, dAddI, dSubI, dII, hmax, c2, hfor, mFrz, ht]
end Q
end

section
set_option Elab.async false
set_option linter.all false
set_option maxRecDepth 100000
set_option maxHeartbeats 4000000
set_option exponentiation.threshold 20000
/-! the plain law: texts. -/
namespace Q
open DL PySem PL PyProof.Rows
theorem while_no {c : Env' → Mo Bool} {b : MS} {n : Nat} {env : Env'} (h : c env = retM false) : whileM c b (n + 1) env = retM (.nx, env) := by
  funext p
  unfold whileM
  simp [runD, env0, mSeq, mIfS, mNot, mB, mIsC, mVar, isC, mRet, mC, mTV, mAnd, mOr, mBin, mFld, dEqF, flV, retM, DL.bindM, mNx, mCall, lenM, mCons, mNil, mTup, mIsT, isT, mSet, mAsg, tgTup, tgCons, tgN, tgNil, mk_Ratio_1, mk_Ratio_2, mCallO, lenO, runO, mRetO, mLst, mIf, mUn, dNegI, mIsT2, mNoP, mPart, oListC, h]
theorem log_lt {n : Nat} (h : n < 10 ^ 60) : n.log2 < 1920 := by
  by_cases z : n = 0
  · subst z; decide +kernel
  · rw [Nat.log2_lt z]
    exact Nat.lt_trans h (by decide +kernel)
theorem len_nat {n : Nat} (h : n < 10 ^ 60) : (Str.ofString (toString (n : Int))).length ≤ 60 :=
  toString_length_le (by omega) (by decide) (by exact_mod_cast h)
theorem digs {n : Int} (h : n.natAbs < 10 ^ 60) : ∃ t : Str, d_digits_of [.int n] = retM (.str t) ∧ t.length ≤ 61 := by
  have hl := len_nat h
  have hg := log_lt h
  have hlt : ¬ ((1000000000000000000000000000000000000000000000000000000000000 : Int) ≤ (n.natAbs : Int)) := by omega
  generalize hS : Str.ofString (toString (n.natAbs : Int)) = S at *
  refine ⟨(Str.empty ++ (if n < 0 then ("-" : Str) else ("" : Str))) ++ S ++ ("" : Str), ?_, ?_⟩
  · have hleft : (if 0 ≤ n then n else 0 - n) = (n.natAbs : Int) := by split <;> omega
    obtain ⟨body, hb⟩ : ∃ b : MS, m_digits_of = mSeq (mPar 1 2 (mCons (mIf (mB (mBin dGe (mVar 0) (mC (.int 0)))) (mVar 0) (mBin dSubI (mC (.int 0)) (mVar 0))) (mCons (mC (.str "")) mNil))) (mSeq (mWhile (mB (mBin dGe (mVar 1) (mC (.int 1000000000000000000000000000000000000000000000000000000000000)))) b) (mSeq (mSet 4 (mIf (mB (mBin dLt (mVar 0) (mC (.int 0)))) (mC (.str "-")) (mC (.str "")))) (mRet (mJs [(mFmt (mVar 4)), (mFmt (mVar 1)), (mFmt (mVar 2))])))) := ⟨_, rfl⟩
    have hw : whileM (mB (mBin dGe (mVar 1) (mC (.int 1000000000000000000000000000000000000000000000000000000000000)))) body fuelW [.val (.int n), .val (.int (n.natAbs : Int)), .val (.str ""), .un, .un] = retM (.nx, [.val (.int n), .val (.int (n.natAbs : Int)), .val (.str ""), .un, .un]) := by
      refine while_no (n := 1999999) ?_
      funext p
      simp only [mB, mBin, mVar, mC, dGe, dII, DL.bindM, retM, List.getElem?_cons_succ, List.getElem?_cons_zero, hlt, decide_false, if_true]
    generalize mB (mBin dGe (mVar 1) (mC (.int 1000000000000000000000000000000000000000000000000000000000000))) = co at *
    have hf : ∀ v : SV, mFmt (mVar 1) [.val (.int n), .val (.int (n.natAbs : Int)), .val (.str ""), .un, v] = retM (.str S) := fun v => by
      rw [← hS]
      funext p
      have : (n.natAbs : Int).natAbs.log2 < 1920 := by rw [Int.natAbs_natCast]; exact hg
      simp only [mFmt, mVar, DL.bindM, retM, List.getElem?_cons_succ, List.getElem?_cons_zero, this, if_true]
    have hm : mPar 1 2 (mCons (mIf (mB (mBin dGe (mVar 0) (mC (.int 0)))) (mVar 0) (mBin dSubI (mC (.int 0)) (mVar 0))) (mCons (mC (.str "")) mNil)) [.val (.int n), .un, .un, .un, .un] = retM (.nx, [.val (.int n), .val (.int (n.natAbs : Int)), .val (.str ""), .un, .un]) := by
      rw [← hleft]
      funext p
      by_cases h0 : 0 ≤ n
      · simp [runD, env0, mSeq, mIfS, mNot, mB, mIsC, mVar, isC, mRet, mC, mTV, mAnd, mOr, mBin, mFld, dEqF, flV, retM, DL.bindM, mNx, mCall, lenM, mCons, mNil, mTup, mIsT, isT, mSet, mAsg, tgTup, tgCons, tgN, tgNil, mk_Ratio_1, mk_Ratio_2, mCallO, lenO, runO, mRetO, mLst, mIf, mUn, dNegI, mIsT2, mNoP, mPart, oListC, mPar, dGe, dII, h0]
      · simp [runD, env0, mSeq, mIfS, mNot, mB, mIsC, mVar, isC, mRet, mC, mTV, mAnd, mOr, mBin, mFld, dEqF, flV, retM, DL.bindM, mNx, mCall, lenM, mCons, mNil, mTup, mIsT, isT, mSet, mAsg, tgTup, tgCons, tgN, tgNil, mk_Ratio_1, mk_Ratio_2, mCallO, lenO, runO, mRetO, mLst, mIf, mUn, dNegI, mIsT2, mNoP, mPart, oListC, mPar, dGe, dII, h0, dSubI]
    have e1 : ∀ x y z : Str, x.length ≤ 1 → y.length ≤ 60 → z.length = 0 → mJs [(mFmt (mVar 4)), (mFmt (mVar 1)), (mFmt (mVar 2))] [.val (.int n), .val (.int (n.natAbs : Int)), .val (.str ""), .un, .val (.str x)] = retM (.str (Str.empty ++ x ++ S ++ "")) := fun x y z hx hy hz => by
      have e2 : Str.empty.length = 0 := rfl
      have e3 : (("" : String) : Str).length = 0 := rfl
      have l1 : x.length ≤ 10000000 := by omega
      have l2 : (Str.empty ++ x).length ≤ 10000000 := by rw [strLen_append]; omega
      have l3 : (Str.empty ++ x ++ S).length ≤ 10000000 := by rw [strLen_append, strLen_append]; omega
      have l4 : (Str.empty ++ x ++ S ++ ("" : Str)).length ≤ 10000000 := by rw [strLen_append, strLen_append, strLen_append]; omega
      have l5 : (("" : String) : Str).length ≤ 10000000 := by omega
      have f4 : mFmt (mVar 4) [.val (.int n), .val (.int (n.natAbs : Int)), .val (.str ""), .un, .val (.str x)] = retM (.str x) := by
        funext p
        simp only [mFmt, mVar, DL.bindM, retM, List.getElem?_cons_succ, List.getElem?_cons_zero, l1, if_true]
      have f2 : mFmt (mVar 2) [.val (.int n), .val (.int (n.natAbs : Int)), .val (.str ""), .un, .val (.str x)] = retM (.str "") := by
        funext p
        simp only [mFmt, mVar, DL.bindM, retM, List.getElem?_cons_succ, List.getElem?_cons_zero, l5, if_true]
      have f1 := hf (.val (.str x))
      generalize mFmt (mVar 4) = a4 at *
      generalize mFmt (mVar 1) = a1 at *
      generalize mFmt (mVar 2) = a2 at *
      funext p
      simp only [mJs, mJoin, DL.bindM, retM, f4, f1, f2, l2, l3, l4, if_true]
    have hsg : mSet 4 (mIf (mB (mBin dLt (mVar 0) (mC (.int 0)))) (mC (.str "-")) (mC (.str ""))) [.val (.int n), .val (.int (n.natAbs : Int)), .val (.str ""), .un, .un] = retM (.nx, [.val (.int n), .val (.int (n.natAbs : Int)), .val (.str ""), .un, .val (.str (if n < 0 then ("-" : Str) else ("" : Str)))]) := by
      funext p
      by_cases h0 : n < 0
      · simp only [mSet, mIf, mB, mBin, mVar, mC, dLt, dII, DL.bindM, retM, List.getElem?_cons_succ, List.getElem?_cons_zero, h0, decide_true, if_true, List.set_cons_succ, List.set_cons_zero]
      · simp only [mSet, mIf, mB, mBin, mVar, mC, dLt, dII, DL.bindM, retM, List.getElem?_cons_succ, List.getElem?_cons_zero, h0, decide_false, if_true, if_false, List.set_cons_succ, List.set_cons_zero, Bool.false_eq_true]
    have e2 := e1 (if n < 0 then ("-" : Str) else ("" : Str)) S "" (by split <;> decide) hl rfl
    generalize (if n < 0 then ("-" : Str) else ("" : Str)) = sg at *
    generalize mJs [(mFmt (mVar 4)), (mFmt (mVar 1)), (mFmt (mVar 2))] = js at *
    generalize mSet 4 (mIf (mB (mBin dLt (mVar 0) (mC (.int 0)))) (mC (.str "-")) (mC (.str ""))) = sgm at *
    generalize mPar 1 2 (mCons (mIf (mB (mBin dGe (mVar 0) (mC (.int 0)))) (mVar 0) (mBin dSubI (mC (.int 0)) (mVar 0))) (mCons (mC (.str "")) mNil)) = pm at *
    funext p
    simp only [d_digits_of, runD, env0, hb, mSeq, hm, mWhile, hw, hsg, mRet, e2, DL.bindM, retM, List.map_cons, List.map_nil, List.replicate, List.length_cons, List.length_nil, List.cons_append, List.nil_append, Nat.reduceSub, Nat.reduceAdd]
  · rw [strLen_append, strLen_append, strLen_append]
    have e1 : (("" : String) : Str).length = 0 := rfl
    have e2 : Str.empty.length = 0 := rfl
    have e3 : (if n < 0 then ("-" : Str) else ("" : Str)).length ≤ 1 := by split <;> decide
    rw [e1, e2]
    omega
theorem ratio_text {x : Rat} (hx : Sz x) : ∃ t : Str, ur 0 [.int x.num, .int x.den] = some t ∧ t.length ≤ 200 := by
  obtain ⟨s1, d1, l1⟩ := digs hx.n
  obtain ⟨s2, d2, l2⟩ := digs (n := (x.den : Int)) (by rw [Int.natAbs_natCast]; exact hx.d)
  have e0 : Str.empty.length = 0 := rfl
  have e1 : (("Ratio(" : String) : Str).length = 6 := rfl
  have e2 : ((", " : String) : Str).length = 2 := rfl
  have e3 : ((")" : String) : Str).length = 1 := rfl
  refine ⟨Str.empty ++ "Ratio(" ++ s1 ++ ", " ++ s2 ++ ")", ur_of fun p => ?_, ?_⟩
  · have f1 : mFmt (mCall (lenM 1 d_digits_of) (mCons (mFld 0 0 (mVar 0)) mNil)) [.val (rat x)] = retM (.str s1) := by
      have : s1.length ≤ 10000000 := by omega
      funext p
      simp [runD, env0, mSeq, mIfS, mNot, mB, mIsC, mVar, isC, mRet, mC, mTV, mAnd, mOr, mBin, mFld, dEqF, flV, retM, DL.bindM, mNx, mCall, lenM, mCons, mNil, mTup, mIsT, isT, mSet, mAsg, tgTup, tgCons, tgN, tgNil, mk_Ratio_1, mk_Ratio_2, mCallO, lenO, runO, mRetO, mLst, mIf, mUn, dNegI, mIsT2, mNoP, mPart, oListC, mFmt, ratE, d1, this]
    have f2 : mFmt (mCall (lenM 1 d_digits_of) (mCons (mFld 0 1 (mVar 0)) mNil)) [.val (rat x)] = retM (.str s2) := by
      have : s2.length ≤ 10000000 := by omega
      funext p
      simp [runD, env0, mSeq, mIfS, mNot, mB, mIsC, mVar, isC, mRet, mC, mTV, mAnd, mOr, mBin, mFld, dEqF, flV, retM, DL.bindM, mNx, mCall, lenM, mCons, mNil, mTup, mIsT, isT, mSet, mAsg, tgTup, tgCons, tgN, tgNil, mk_Ratio_1, mk_Ratio_2, mCallO, lenO, runO, mRetO, mLst, mIf, mUn, dNegI, mIsT2, mNoP, mPart, oListC, mFmt, ratE, d2, this]
    have hm : m_Ratio___repr__ = mRet (mJs [(mC (.str "Ratio(")), (mFmt (mCall (lenM 1 d_digits_of) (mCons (mFld 0 0 (mVar 0)) mNil))), (mC (.str ", ")), (mFmt (mCall (lenM 1 d_digits_of) (mCons (mFld 0 1 (mVar 0)) mNil))), (mC (.str ")"))]) := rfl
    generalize mFmt (mCall (lenM 1 d_digits_of) (mCons (mFld 0 0 (mVar 0)) mNil)) = a1 at *
    generalize mFmt (mCall (lenM 1 d_digits_of) (mCons (mFld 0 1 (mVar 0)) mNil)) = a2 at *
    have c1 : (Str.empty ++ ("Ratio(" : Str)).length ≤ 10000000 := by rw [strLen_append]; omega
    have c2 : (Str.empty ++ ("Ratio(" : Str) ++ s1).length ≤ 10000000 := by rw [strLen_append, strLen_append]; omega
    have c3 : (Str.empty ++ ("Ratio(" : Str) ++ s1 ++ (", " : Str)).length ≤ 10000000 := by rw [strLen_append, strLen_append, strLen_append]; omega
    have c4 : (Str.empty ++ ("Ratio(" : Str) ++ s1 ++ (", " : Str) ++ s2).length ≤ 10000000 := by rw [strLen_append, strLen_append, strLen_append, strLen_append]; omega
    have c5 : (Str.empty ++ ("Ratio(" : Str) ++ s1 ++ (", " : Str) ++ s2 ++ (")" : Str)).length ≤ 10000000 := by rw [strLen_append, strLen_append, strLen_append, strLen_append, strLen_append]; omega
    rw [← ratE]
    simp only [d_Ratio___repr__, runD, env0, hm, mRet, mJs, mJoin, mC, DL.bindM, retM, f1, f2, c1, c2, c3, c4, c5, if_true, List.map_cons, List.map_nil, List.replicate, List.length_cons, List.length_nil, List.cons_append, List.nil_append, Nat.reduceSub, Nat.reduceAdd, Nat.sub_self, List.append_nil]
  · rw [strLen_append, strLen_append, strLen_append, strLen_append, strLen_append]
    omega
theorem int_text {n : Int} (h : n.natAbs < 10 ^ 60) : (Str.ofString (toString n)).length ≤ 61 := by
  by_cases h0 : 0 ≤ n
  · have := len_nat h
    rw [show (n.natAbs : Int) = n by omega] at this
    omega
  · obtain ⟨m, hm⟩ : ∃ m : Nat, n = Int.negSucc m := by
      cases n with
      | ofNat k => exact absurd (Int.natCast_nonneg k) h0
      | negSucc m => exact ⟨m, rfl⟩
    subst hm
    have e : toString (Int.negSucc m) = "-" ++ toString ((m + 1 : Nat) : Int) := rfl
    have := len_nat (n := m + 1) h
    rw [e, PySem.ofString_length, String.length_append]
    rw [PySem.ofString_length] at this
    have e1 : ("-" : String).length = 1 := rfl
    omega
end Q
end

section
set_option Elab.async false
set_option linter.all false
set_option maxRecDepth 100000
set_option maxHeartbeats 4000000
set_option exponentiation.threshold 20000
/-! the plain law: texts of lines, equality of lines. -/
namespace Q
open DL PySem PL PyProof.Rows
theorem num_text {d : D} {x : Rat} (h : Num d x) (hx : Sz x) (k : Nat) : ∃ t, repT ur (k + 1) d = some t ∧ t.length ≤ 200 := by
  rcases h with rfl | ⟨n, rfl, rfl⟩
  · obtain ⟨t, h1, h2⟩ := ratio_text hx
    exact ⟨t, h1, h2⟩
  · have hn : n.natAbs < 10 ^ 60 := hx.n
    refine ⟨toString n, ?_, Nat.le_trans (int_text hn) (by decide)⟩
    show flT (.int n) = _
    simp only [flT, log_lt hn, if_true]
theorem nums_text {ds : List D} {xs : List Rat} (h : Nums ds xs) (hx : AllSz xs) (k : Nat) : ∃ ts, repL (repT ur (k + 1)) ds = some ts ∧ piled ts ≤ 202 * xs.length := by
  induction h with
  | nil => exact ⟨[], rfl, Nat.le_refl _⟩
  | cons h _ ih =>
    obtain ⟨ts, h1, h2⟩ := ih fun y hy => hx y (List.mem_cons_of_mem _ hy)
    obtain ⟨t, h3, h4⟩ := num_text h (hx _ List.mem_cons_self) k
    refine ⟨t :: ts, ?_, ?_⟩
    · unfold repL
      rw [h3, h1]
    · rw [piled_cons, List.length_cons]
      omega
theorem list_len (ts : List Str) : (listText ts).length ≤ piled ts + 4 := by
  cases ts with
  | nil => decide
  | cons t r =>
    have h := textFrom_length_pos r 1 (("[" : Str) ++ (if (0 : Nat) > 0 then ", " else "" : String) ++ t) (Nat.succ_pos 0)
    have e : ((("[" : Str) ++ (if (0 : Nat) > 0 then ", " else "" : String) ++ t)).length = 1 + t.length := by
      rw [strLen_append, strLen_append]; rfl
    have hX : (listText (t :: r)).length = (textFrom 0 "[" (t :: r)).length + 1 := by
      show (textFrom 0 "[" (t :: r) ++ "]").length = _
      rw [strLen_append]; rfl
    have hY : (textFrom 0 "[" (t :: r)).length = (textFrom 1 (("[" : Str) ++ (if (0 : Nat) > 0 then ", " else "" : String) ++ t) r).length := rfl
    rw [hX, hY, h, e, piled_cons]; omega
theorem tuple_len (ts : List Str) : (tupleText ts).length ≤ piled ts + 4 := by
  unfold tupleText
  rw [strLen_append, strLen_append]
  have e1 : ((("(" : String) : Str)).length = 1 := rfl
  have e3 : (((if ts.length == 1 then ",)" else ")" : String) : Str)).length ≤ 2 := by split <;> decide
  rw [e1]
  by_cases h : ts = []
  · subst h
    have : (Str.join ", " ([] : List Str)).length = 0 := rfl
    omega
  · have := join_length_add ts h
    omega
theorem given_text {d : D} {xs : List Rat} (h : Given d xs) (hx : AllSz xs) (hl : xs.length ≤ 100) (k : Nat) : ∃ t, repT ur (k + 2) d = some t ∧ t.length ≤ 30000 := by
  obtain ⟨ds, hn, hd⟩ := h
  obtain ⟨ts, h1, h2⟩ := nums_text hn hx k
  rcases hd with rfl | rfl
  · refine ⟨listText ts, ?_, Nat.le_trans (list_len ts) (by omega)⟩
    show (match repL (repT ur (k + 1)) ds with | some ts => some (listText ts) | none => none) = _
    rw [h1]
  · refine ⟨tupleText ts, ?_, Nat.le_trans (tuple_len ts) (by omega)⟩
    show (match repL (repT ur (k + 1)) ds with | some ts => some (tupleText ts) | none => none) = _
    rw [h1]
theorem repr_given {d : D} {xs : List Rat} (h : Given d xs) (hx : AllSz xs) (hl : xs.length ≤ 100) : ∃ t, cReprU [d] = retM (.str t) := by
  obtain ⟨t, h1, h2⟩ := given_text h hx hl 2
  refine ⟨t, ?_⟩
  obtain ⟨ds, hn, hd⟩ := h
  have h3 : t.length ≤ 10000000 := by omega
  rcases hd with rfl | rfl
  · unfold cReprU cRepr
    simp only [h1, h3, if_true]
  · unfold cReprU cRepr
    simp only [h1, h3, if_true]
theorem repr_L {xs : List Rat} (hx : AllSz xs) (hl : xs.length ≤ 100) : ∃ t, cReprU [L xs] = retM (.str t) := repr_given (given_L xs) hx hl
theorem repr_pair {d e : D} {xs ys : List Rat} (h : Given d xs) (hx : AllSz xs) (hl : xs.length ≤ 100) (h' : Given e ys) (hy : AllSz ys) (hl' : ys.length ≤ 100) : ∃ t, cReprU [.lst [d, e]] = retM (.str t) := by
  obtain ⟨t, h1, h2⟩ := given_text h hx hl 1
  obtain ⟨u, g1, g2⟩ := given_text h' hy hl' 1
  have e1 : repT ur 4 (.lst [d, e]) = some (listText [t, u]) := by
    show (match repL (repT ur 3) [d, e] with | some ts => some (listText ts) | none => none) = _
    have : repL (repT ur 3) [d, e] = some [t, u] := by
      unfold repL
      rw [h1]
      unfold repL
      rw [g1]
      rfl
    rw [this]
  have hlen := list_len [t, u]
  rw [piled_cons, piled_cons, piled_nil] at hlen
  have h3 : (listText [t, u]).length ≤ 10000000 := by omega
  refine ⟨listText [t, u], ?_⟩
  unfold cReprU cRepr
  simp only [e1, h3, if_true]
theorem repr_rat {x : Rat} (hx : Sz x) : ∃ t, cReprU [rat x] = retM (.str t) := by
  obtain ⟨t, h1, h2⟩ := ratio_text hx
  have e1 : repT ur 4 (.ins 0 [.int x.num, .int x.den]) = some t := h1
  have h3 : t.length ≤ 10000000 := by omega
  refine ⟨t, ?_⟩
  rw [ratE]
  unfold cReprU cRepr
  simp only [e1, h3, if_true]
theorem repr_int {n : Int} (h : n.natAbs < 10 ^ 60) : cReprU [.int n] = retM (.str (toString n)) ∧ cStr [.int n] = retM (.str (toString n)) := by
  constructor
  · unfold cReprU cRepr
    simp only [log_lt h, if_true]
  · unfold cStr
    simp only [log_lt h, if_true]
end Q
end

section
set_option Elab.async false
set_option linter.all false
set_option maxRecDepth 100000
set_option maxHeartbeats 4000000
set_option exponentiation.threshold 20000
/-! the plain law: equality. -/
namespace Q
open DL PySem PL PyProof.Rows
theorem eqL_rat (n : Nat) : ∀ xs : List Rat, eqL (deq uq (n + 1)) (xs.map rat) (xs.map rat) = some true
  | [] => rfl
  | x :: xs => by
    rw [List.map_cons]
    unfold eqL
    have : deq uq (n + 1) (rat x) (rat x) = some true := by
      show some (decide (x.num = x.num) && decide ((x.den : Int) = x.den)) = _
      simp [runD, env0, mSeq, mIfS, mNot, mB, mIsC, mVar, isC, mRet, mC, mTV, mAnd, mOr, mBin, mFld, dEqF, flV, retM, DL.bindM, mNx, mCall, lenM, mCons, mNil, mTup, mIsT, isT, mSet, mAsg, tgTup, tgCons, tgN, tgNil, mk_Ratio_1, mk_Ratio_2, mCallO, lenO, runO, mRetO, mLst, mIf, mUn, dNegI, mIsT2, mNoP, mPart, oListC]
    rw [this]
    exact eqL_rat n xs
theorem eq_L (ne : Bool) (xs : List Rat) : dEqU ne (L xs) (L xs) = retM (.bl (true != ne)) := by
  unfold dEqU dEqR
  rw [dOr_ret (a := .bl (true != ne))]
  rw [dOr_fail (by rfl)]
  have : deq uq 4 (L xs) (L xs) = some true := by
    show (if (xs.map rat).length = (xs.map rat).length then eqL (deq uq 3) (xs.map rat) (xs.map rat) else some false) = _
    rw [if_pos rfl]
    exact eqL_rat 2 xs
  unfold L at this ⊢
  unfold dEqO
  simp only [isIns, Bool.false_and, Bool.false_eq_true, if_false, this]
theorem eq_nil (ne : Bool) (ds : List D) : dEqU ne (.lst ds) (.lst []) = retM (.bl (decide (ds = []) != ne)) := by
  unfold dEqU dEqR
  rw [dOr_ret (a := .bl (decide (ds = []) != ne))]
  rw [dOr_fail (by rfl)]
  have : deq uq 4 (.lst ds) (.lst []) = some (decide (ds = [])) := by
    show (if ds.length = ([] : List D).length then eqL (deq uq 3) ds [] else some false) = _
    cases ds with
    | nil => rfl
    | cons d ds => rw [if_neg (by simp [runD, env0, mSeq, mIfS, mNot, mB, mIsC, mVar, isC, mRet, mC, mTV, mAnd, mOr, mBin, mFld, dEqF, flV, retM, DL.bindM, mNx, mCall, lenM, mCons, mNil, mTup, mIsT, isT, mSet, mAsg, tgTup, tgCons, tgN, tgNil, mk_Ratio_1, mk_Ratio_2, mCallO, lenO, runO, mRetO, mLst, mIf, mUn, dNegI, mIsT2, mNoP, mPart, oListC])]; simp [runD, env0, mSeq, mIfS, mNot, mB, mIsC, mVar, isC, mRet, mC, mTV, mAnd, mOr, mBin, mFld, dEqF, flV, retM, DL.bindM, mNx, mCall, lenM, mCons, mNil, mTup, mIsT, isT, mSet, mAsg, tgTup, tgCons, tgN, tgNil, mk_Ratio_1, mk_Ratio_2, mCallO, lenO, runO, mRetO, mLst, mIf, mUn, dNegI, mIsT2, mNoP, mPart, oListC]
  unfold dEqO
  simp only [isIns, Bool.false_and, Bool.false_eq_true, if_false, this]
theorem eq_str (ne : Bool) (s : Str) : dEqU ne (.str s) (.str s) = retM (.bl (true != ne)) := by
  unfold dEqU dEqR
  rw [dOr_ret (a := .bl (true != ne))]
  rw [dOr_ret (a := .bl (true != ne))]
  simp [runD, env0, mSeq, mIfS, mNot, mB, mIsC, mVar, isC, mRet, mC, mTV, mAnd, mOr, mBin, mFld, dEqF, flV, retM, DL.bindM, mNx, mCall, lenM, mCons, mNil, mTup, mIsT, isT, mSet, mAsg, tgTup, tgCons, tgN, tgNil, mk_Ratio_1, mk_Ratio_2, mCallO, lenO, runO, mRetO, mLst, mIf, mUn, dNegI, mIsT2, mNoP, mPart, oListC, dEqF, L2.scal]
theorem ne_rat (x : Rat) : dEqU true (rat x) (rat x) = retM (.bl false) := by
  unfold dEqU dEqR
  rw [dOr_fail, ratE]
  · simp [runD, env0, mSeq, mIfS, mNot, mB, mIsC, mVar, isC, mRet, mC, mTV, mAnd, mOr, mBin, mFld, dEqF, flV, retM, DL.bindM, mNx, mCall, lenM, mCons, mNil, mTup, mIsT, isT, mSet, mAsg, tgTup, tgCons, tgN, tgNil, mk_Ratio_1, mk_Ratio_2, mCallO, lenO, runO, mRetO, mLst, mIf, mUn, dNegI, mIsT2, mNoP, mPart, oListC, dNeI, uq]
  · rw [dOr_fail (by rfl)]
    rfl
theorem eq_bl (ne : Bool) (a b : Bool) : dEqU ne (.bl a) (.bl b) = retM (.bl (decide (a = b) != ne)) := by
  unfold dEqU dEqR
  rw [dOr_ret (a := .bl (decide (a = b) != ne))]
  rw [dOr_ret (a := .bl (decide (a = b) != ne))]
  simp [runD, env0, mSeq, mIfS, mNot, mB, mIsC, mVar, isC, mRet, mC, mTV, mAnd, mOr, mBin, mFld, dEqF, flV, retM, DL.bindM, mNx, mCall, lenM, mCons, mNil, mTup, mIsT, isT, mSet, mAsg, tgTup, tgCons, tgN, tgNil, mk_Ratio_1, mk_Ratio_2, mCallO, lenO, runO, mRetO, mLst, mIf, mUn, dNegI, mIsT2, mNoP, mPart, oListC, dEqF, L2.scal]
end Q
end

section
set_option Elab.async false
set_option linter.all false
set_option maxRecDepth 100000
set_option maxHeartbeats 4000000
set_option exponentiation.threshold 20000
/-! the plain law: a told line is the law's line. -/
namespace Q
open DL PySem PL PyProof.Rows
theorem law_is_line {xs : List Rat} (hs : AllSz xs) (hl : xs.length ≤ 100) : d__law_is_line [L xs, LP xs] = retM (.bl true) := by
  obtain ⟨t, ht⟩ := repr_L hs hl
  have hc : compM (tgN 2) mYes (mCall (lenM 1 d__law_ratio) (mCons (mVar 2) mNil)) [.val (L xs), .val (LP xs), .un] (xs.map pr) = retM (xs.map rat) := by
    refine comp_map fun x hx => ?_
    funext p; simp [runD, env0, mSeq, mIfS, mNot, mB, mIsC, mVar, isC, mRet, mC, mTV, mAnd, mOr, mBin, mFld, dEqF, flV, retM, DL.bindM, mNx, mCall, lenM, mCons, mNil, mTup, mIsT, isT, mSet, mAsg, tgTup, tgCons, tgN, tgNil, mk_Ratio_1, mk_Ratio_2, mCallO, lenO, runO, mRetO, mLst, mIf, mUn, dNegI, mIsT2, mNoP, mPart, oListC, law_ratio (hs x hx)]
  have hm : m__law_is_line = mRet (mTV (mAnd (mB (mIsT "list" (mVar 0))) (mB (mBin (dEqU false) (mCall cReprU (mCons (mVar 0) mNil)) (mCall cReprU (mCons (mLst (mLc (srcL (mVar 1)) [2] (tgN 2) mYes (mCall (lenM 1 d__law_ratio) (mCons (mVar 2) mNil)))) mNil)))))) := rfl
  generalize mCall (lenM 1 d__law_ratio) (mCons (mVar 2) mNil) = e at *
  unfold L LP at *
  have hl1 : xs.length ≤ 100000 := by omega
  have he := eq_str false t
  funext p
  simp [runD, env0, mSeq, mIfS, mNot, mB, mIsC, mVar, isC, mRet, mC, mTV, mAnd, mOr, mBin, mFld, dEqF, flV, retM, DL.bindM, mNx, mCall, lenM, mCons, mNil, mTup, mIsT, isT, mSet, mAsg, tgTup, tgCons, tgN, tgNil, mk_Ratio_1, mk_Ratio_2, mCallO, lenO, runO, mRetO, mLst, mIf, mUn, dNegI, mIsT2, mNoP, mPart, oListC, d__law_is_line, hm, mLc, srcL, wipeE, hl1, hc, ht, he]
theorem Po.szs {k B n : Nat} {a : List Rat} (pa : Po k B n a) (hk : 6 ^ k < 10 ^ 60) (hB : B < 10 ^ 60) : AllSz a := pa.all.sz hk hB
theorem Po.is {k B n : Nat} {a : List Rat} (pa : Po k B n a) (hk : 6 ^ k < 10 ^ 60) (hB : B < 10 ^ 60) (hn : n ≤ 100) : d__law_is_line [L a, LP a] = retM (.bl true) :=
  law_is_line (pa.szs hk hB) (Nat.le_trans pa.l hn)
end Q
end

section
set_option Elab.async false
set_option linter.all false
set_option maxRecDepth 100000
set_option maxHeartbeats 4000000
set_option exponentiation.threshold 20000
/-! the plain law: one line. -/
namespace Q
open DL PySem PL PyProof.Rows
theorem neq_L (xs : List Rat) : dEqU true (.lst (xs.map rat)) (.lst (xs.map rat)) = retM (.bl false) := eq_L true xs
theorem neq_str (s : Str) : dEqU true (.str s) (.str s) = retM (.bl false) := eq_str true s
theorem eqq_str (s : Str) : dEqU false (.str s) (.str s) = retM (.bl true) := eq_str false s
theorem due_eq {a : List Rat} (hs : AllSz a) (hl : a.length ≤ 100) (env : Env') (hv : env[1]? = some (.val (LP a))) (h9 : 9 < env.length) : compM (tgN 9) mYes (mCall (lenM 2 d__law_by) (mCons (mBin atD (mVar 1) (mVar 9)) (mCons (mTup (mCons (mVar 9) (mCons (mC (.int 1)) mNil))) mNil))) env (rngD 1 (a.length - 1)) = retM ((slopeL a).map pr) := by
  unfold slopeL
  rw [List.map_map]
  refine comp_rng fun j hj => ?_
  have hlt : j + 1 < a.length := by omega
  have h1 := at_pr hlt
  have e0 : (1 : Int) + (j : Nat) = ((j + 1 : Nat) : Int) := by omega
  have hsz : Sz ((j + 1 : Nat) : Rat) := by
    refine ⟨?_, ?_⟩
    · show ((j + 1 : Nat) : Rat).num.natAbs < _
      rw [Rat.num_natCast, Int.natAbs_natCast]
      exact Nat.lt_trans (show j + 1 < 1000 by omega) (by decide +kernel)
    · show ((j + 1 : Nat) : Rat).den < _
      rw [Rat.den_natCast]; decide +kernel
  have hb := law_by (get_sz hs hlt) hsz
  have e2 : pr ((j + 1 : Nat) : Rat) = .tup [.int ((j + 1 : Nat) : Int), .int 1] := by
    unfold pr
    rw [Rat.num_natCast, Rat.den_natCast]; rfl
  have e1 : a[j + 1] * (((j + 1 : Nat) : Rat)) = dF (coef a) j := by
    unfold dF
    rw [coef_get hlt, Rat.natCast_add]
    grind
  rw [e1, e2] at hb
  have hv9 : (env.set 9 (.val (.int ((j + 1 : Nat) : Int))))[9]? = some (.val (.int ((j + 1 : Nat) : Int))) := by
    rw [List.getElem?_set_self h9]
  have hv1 : (env.set 9 (.val (.int ((j + 1 : Nat) : Int))))[1]? = some (.val (LP a)) := by
    rw [List.getElem?_set_ne (by decide)]; exact hv
  rw [e0]
  generalize ((j + 1 : Nat) : Int) = J at *
  generalize env.set 9 (.val (.int J)) = env' at *
  funext p
  simp [runD, env0, mSeq, mIfS, mNot, mB, mIsC, mVar, isC, mRet, mC, mTV, mAnd, mOr, mBin, mFld, dEqF, flV, retM, DL.bindM, mNx, mCall, lenM, mCons, mNil, mTup, mIsT, isT, mSet, mAsg, tgTup, tgCons, tgN, tgNil, mk_Ratio_1, mk_Ratio_2, mCallO, lenO, runO, mRetO, mLst, mIf, mUn, dNegI, mIsT2, mNoP, mPart, oListC, hv9, hv1, h1, hb]
theorem law_one_right {p : Pt} (hp : Good p) {a : List Rat} (pa : Po 1 36 9 a) : ∃ p', d__law_one_right [.pot, LP a] p = some (.bl true, p') ∧ Good p' := by
  have hs : AllSz a := pa.szs (by decide +kernel) (by decide +kernel)
  have hl := pa.l
  obtain ⟨d, p1, e1, hd, g1⟩ := law_given hp pa.tr hs (by omega)
  obtain ⟨r, p2, e2, hr, g2⟩ := law_number g1 (most := 9) (by decide)
  obtain ⟨e, p3, e3, he, g3⟩ := law_passed g2 (Bd.sz hr (by decide +kernel) (by decide +kernel))
  refine ⟨p3, ?_, g3⟩
  have e2' : d__law_number [.pot, .int 9] p1 = some (pr r, p2) := e2
  have hv := hd.gv
  obtain ⟨t, ht⟩ : ∃ t, cReprU [d] = retM (.str t) := by
    obtain ⟨xs, h1, h2, _, h4⟩ := hd
    exact repr_given h1 h4 (by omega)
  have k1 := hv.told
  have k2 := hv.dtold
  have k3 := hv.degree
  have i1 := pa.is (by decide +kernel) (by decide +kernel) (by decide)
  obtain ⟨r1, r2⟩ := repr_int (n := (a.length : Int) - 1) (by omega)
  generalize Str.ofString (toString ((a.length : Int) - 1)) = dg at r1 r2
  have hr' : Bd 1 54 r := hr
  have ps := pa.scal hr'
  obtain ⟨s1, s2⟩ := scaled_eq hv he pa hr' (by decide) (by decide +kernel) (by decide +kernel) (by decide +kernel) (by decide +kernel)
  have s3 := law_lscal (r := r) hs (Bd.sz hr' (by decide +kernel) (by decide +kernel)) (by omega)
  have i2 := ps.is (by decide +kernel) (by decide +kernel) (by decide)
  have pd := pa.der
  obtain ⟨d1, d2⟩ := derived_eq hv pa (by decide) (by decide +kernel) (by decide +kernel)
  have i3 := pd.is (by decide +kernel) (by decide +kernel) (by decide)
  have w1 := worth_fn hv he pa.all (by omega) hr'
  have w2 := law_lat (r := r) pa.all (by omega) hr'
  have wz : Sz (worthT a r) := sz_fold (r := r) (by omega) (worth_bd pa.all hr')
  have w3 := law_ratio wz
  obtain ⟨u, hu⟩ := repr_rat wz
  have dl : o__law_trim [LP (slopeL a)] = retM ((slopeL a).map pr) := by
    have := ltrim_eq (slopeL a) (by have := pd.l; omega)
    rw [show trim (slopeL a) = slopeL a from pd.tr] at this
    exact this
  have hc := due_eq hs (by omega) [.val .pot, .val (LP a), .val d, .val (pr r), .val e, .val (.str t), .un, .un, .un, .un] rfl (by simp [runD, env0, mSeq, mIfS, mNot, mB, mIsC, mVar, isC, mRet, mC, mTV, mAnd, mOr, mBin, mFld, dEqF, flV, retM, DL.bindM, mNx, mCall, lenM, mCons, mNil, mTup, mIsT, isT, mSet, mAsg, tgTup, tgCons, tgN, tgNil, mk_Ratio_1, mk_Ratio_2, mCallO, lenO, runO, mRetO, mLst, mIf, mUn, dNegI, mIsT2, mNoP, mPart, oListC])
  have hi : d_Ratio___init__ [.int 7, .int 1] = retM (rat 7) := by
    rw [init_eq 7 1 (by decide) (by decide +kernel)]; rfl
  have hn : ((a.length : Int) - 1).toNat = a.length - 1 := by omega
  have hb : (a.length : Int) ≤ 1000000 := by omega
  have hb1 : -1000000 ≤ (a.length : Int) := by omega
  have hl1 : a.length ≤ 100000 := by omega
  have hrl : (rngD 1 (a.length - 1)).length ≤ 100000 := by unfold rngD; rw [List.length_map, List.length_range]; omega
  have n1 := neq_L (scalT a r)
  have n2 := neq_L (slopeL a)
  have n3 := ne_rat (worthT a r)
  have n4 := neq_str u
  have n5 := eqq_str t
  have n6 := neq_str dg
  generalize hel : mCall (lenM 2 d__law_by) (mCons (mBin atD (mVar 1) (mVar 9)) (mCons (mTup (mCons (mVar 9) (mCons (mC (.int 1)) mNil))) mNil)) = elt at *
  unfold LP L at *
  simp [runD, env0, mSeq, mIfS, mNot, mB, mIsC, mVar, isC, mRet, mC, mTV, mAnd, mOr, mBin, mFld, dEqF, flV, retM, DL.bindM, mNx, mCall, lenM, mCons, mNil, mTup, mIsT, isT, mSet, mAsg, tgTup, tgCons, tgN, tgNil, mk_Ratio_1, mk_Ratio_2, mCallO, lenO, runO, mRetO, mLst, mIf, mUn, dNegI, mIsT2, mNoP, mPart, oListC, d__law_one_right, m__law_one_right, hel, e1, e2', e3, mPar, ht, k1, k2, k3, i1, r1, r2, s1, s2, s3, i2, d1, d2, i3, w1, w2, w3, hu, dl, mLc, srcR2, cLen, subII, wipeE, hn, hb, hb1, hrl, hc, pickM, pick, mSetO, mApp, hi, hl1, n1, n2, n3, n4, n5, n6]
end Q
end

section
set_option Elab.async false
set_option linter.all false
set_option maxRecDepth 100000
set_option maxHeartbeats 4000000
set_option exponentiation.threshold 20000
/-! the plain law: two lines. -/
namespace Q
open DL PySem PL PyProof.Rows
theorem times_comm (a b : List Rat) : timesT b a = timesT a b := (tr_times b a).ext (tr_times a b) fun i => by rw [coef_timesT, coef_timesT, mulF_comm]
theorem plus_comm (a b : List Rat) : plusT b a = plusT a b := (tr_plus b a).ext (tr_plus a b) fun i => by rw [coef_plusT, coef_plusT]; grind
theorem times_len {a b : List Rat} (ha : Tr a) (hb : Tr b) (na : a ≠ []) (nb : b ≠ []) : (timesT a b).length = a.length + b.length - 1 := by
  have la : 0 < a.length := List.length_pos_iff.mpr na
  have lb : 0 < b.length := List.length_pos_iff.mpr nb
  have hu := len_times a b
  have h1 := (mulF_top (g := coef b) (m := b.length - 1) (fun j hj => coef_beyond (by omega)) (a.length - 1) (coef a) (fun i hi => coef_beyond (by omega))).1
  have h2 : coef (timesT a b) (a.length - 1 + (b.length - 1)) ≠ 0 := by
    rw [coef_timesT, h1]
    exact fun z => (Rat.mul_eq_zero.mp z).elim (ha.last na) (hb.last nb)
  have h3 : ¬ (timesT a b).length ≤ a.length - 1 + (b.length - 1) := fun z => h2 (coef_beyond z)
  omega
theorem times_nil {a b : List Rat} (ha : Tr a) (hb : Tr b) : timesT a b = [] ↔ a = [] ∨ b = [] := by
  constructor
  · intro h
    by_cases na : a = []
    · exact .inl na
    by_cases nb : b = []
    · exact .inr nb
    have := times_len ha hb na nb
    rw [h] at this
    have la : 0 < a.length := List.length_pos_iff.mpr na
    have lb : 0 < b.length := List.length_pos_iff.mpr nb
    simp only [List.length_nil] at this
    omega
  · intro h
    unfold timesT
    rw [if_pos h]
theorem slope_times {a b : List Rat} (ha : Tr a) (hb : Tr b) : slopeL (timesT a b) = plusT (timesT (slopeL a) b) (timesT a (slopeL b)) := by
  refine (tr_slope (tr_times a b)).ext (tr_plus _ _) fun i => ?_
  rw [coef_slopeL, coef_plusT, coef_timesT, coef_timesT, show coef (timesT a b) = mulF (coef a) (coef b) from funext fun j => coef_timesT a b j, dF_mul, show coef (slopeL a) = dF (coef a) from funext fun j => coef_slopeL a j, show coef (slopeL b) = dF (coef b) from funext fun j => coef_slopeL b j]
theorem law_pair_right {p : Pt} (hp : Good p) {a b : List Rat} (pa : Po 1 36 9 a) (pb : Po 1 36 9 b) : ∃ p', d__law_pair_right [.pot, LP a, LP b] p = some (.bl true, p') ∧ Good p' := by
  have sa : AllSz a := pa.szs (by decide +kernel) (by decide +kernel)
  have sb : AllSz b := pb.szs (by decide +kernel) (by decide +kernel)
  have la := pa.l
  have lb := pb.l
  obtain ⟨d, p1, e1, hd, g1⟩ := law_given hp pa.tr sa (by omega)
  obtain ⟨e, p2, e2, he, g2⟩ := law_given g1 pb.tr sb (by omega)
  refine ⟨p2, ?_, g2⟩
  have vd := hd.gv
  have ve := he.gv
  obtain ⟨t, ht⟩ : ∃ t, cReprU [.lst [d, e]] = retM (.str t) := by
    obtain ⟨xs, h1, h2, _, h4⟩ := hd
    obtain ⟨ys, h1', h2', _, h4'⟩ := he
    exact repr_pair h1 h4 (by omega) h1' h4' (by omega)
  have nm1 : Num (.int (-1)) (-1) := .inr ⟨-1, rfl, rfl⟩
  have ls := law_lscal (r := -1) sb ⟨by decide +kernel, by decide +kernel⟩ (by omega)
  have pm : pr (-1) = .tup [.int (-1), .int 1] := rfl
  rw [pm] at ls
  obtain ⟨a1, a2⟩ := plus_eq vd ve pa pb (by decide) (by decide +kernel) (by decide +kernel) (by decide +kernel)
  have a3 := law_lsum sa sb (by omega) (by omega)
  have pp := pa.plus pb
  have a4 := pp.is (by decide +kernel) (by decide +kernel) (by decide)
  obtain ⟨b1, b2⟩ := minus_eq vd ve pa pb (by decide) (by decide +kernel) (by decide +kernel) (by decide +kernel)
  have pn := pb.neg
  have sn : AllSz (scalT b (-1)) := pn.szs (by decide +kernel) (by decide +kernel)
  have b3 : o__law_line_sum [LP a, LP (scalT b (-1))] = retM ((minusT a b).map pr) := law_lsum sa sn (by omega) (by have := pn.l; omega)
  have pmi := pa.minus pb
  have b4 := pmi.is (by decide +kernel) (by decide +kernel) (by decide)
  obtain ⟨c1, c2⟩ := times_eq vd ve pa pb (by decide) (by decide +kernel) (by decide +kernel) (by decide +kernel) (by decide +kernel)
  have c3 := law_lby pa pb (by decide) (by decide) (by decide +kernel) (by decide +kernel) (by decide +kernel) (by decide +kernel)
  have pt := pa.times pb
  have c4 := pt.is (by decide +kernel) (by decide +kernel) (by decide)
  obtain ⟨c5, _⟩ := times_eq ve vd pb pa (by decide) (by decide +kernel) (by decide +kernel) (by decide +kernel) (by decide +kernel)
  rw [times_comm] at c5
  obtain ⟨a5, _⟩ := plus_eq ve vd pb pa (by decide) (by decide +kernel) (by decide +kernel) (by decide +kernel)
  rw [plus_comm] at a5
  obtain ⟨b5, _⟩ := scaled_eq ve nm1 pb (Bd.int (-1)) (by decide) (by decide +kernel) (by decide +kernel) (by decide +kernel) (by decide +kernel)
  have vn : Gv (L (scalT b (-1))) (scalT b (-1)) := Gv.of pn.tr (by have := pn.l; omega)
  have b6 : o_plus [d, L (scalT b (-1))] = retM ((minusT a b).map rat) := (plus_eq vd vn pa pn (by decide) (by decide +kernel) (by decide +kernel) (by decide +kernel)).1
  have vt : Gv (L (timesT a b)) (timesT a b) := Gv.of pt.tr (by have := pt.l; omega)
  have f1 := vt.degree
  have f2 := vd.degree
  have f3 := ve.degree
  obtain ⟨h1, _⟩ := derived_eq vt pt (by decide) (by decide +kernel) (by decide +kernel)
  obtain ⟨h2, _⟩ := derived_eq vd pa (by decide) (by decide +kernel) (by decide +kernel)
  obtain ⟨h3, _⟩ := derived_eq ve pb (by decide) (by decide +kernel) (by decide +kernel)
  have pda := pa.der
  have pdb := pb.der
  have vda : Gv (L (slopeL a)) (slopeL a) := Gv.of pda.tr (by have := pda.l; omega)
  have vdb : Gv (L (slopeL b)) (slopeL b) := Gv.of pdb.tr (by have := pdb.l; omega)
  obtain ⟨h4, _⟩ := times_eq vda ve pda pb (by decide) (by decide +kernel) (by decide +kernel) (by decide +kernel) (by decide +kernel)
  obtain ⟨h5, _⟩ := times_eq vd vdb pa pdb (by decide) (by decide +kernel) (by decide +kernel) (by decide +kernel) (by decide +kernel)
  have q1 := pda.times pb
  have q2 := pa.times pdb
  have v1 : Gv (L (timesT (slopeL a) b)) (timesT (slopeL a) b) := Gv.of q1.tr (by have := q1.l; omega)
  have v2 : Gv (L (timesT a (slopeL b))) (timesT a (slopeL b)) := Gv.of q2.tr (by have := q2.l; omega)
  obtain ⟨h6, _⟩ := plus_eq v1 v2 q1 q2 (by decide) (by decide +kernel) (by decide +kernel) (by decide +kernel)
  rw [← slope_times pa.tr pb.tr] at h6
  have n1 := neq_L (timesT a b)
  have n2 := neq_L (plusT a b)
  have n3 := neq_L (minusT a b)
  have n4 := neq_L (slopeL (timesT a b))
  have n5 := eqq_str t
  have mz : ∀ (f : Rat → D) (xs : List Rat), decide (xs.map f = []) = decide (xs = []) := fun f xs => by cases xs <;> simp [runD, env0, mSeq, mIfS, mNot, mB, mIsC, mVar, isC, mRet, mC, mTV, mAnd, mOr, mBin, mFld, dEqF, flV, retM, DL.bindM, mNx, mCall, lenM, mCons, mNil, mTup, mIsT, isT, mSet, mAsg, tgTup, tgCons, tgN, tgNil, mk_Ratio_1, mk_Ratio_2, mCallO, lenO, runO, mRetO, mLst, mIf, mUn, dNegI, mIsT2, mNoP, mPart, oListC]
  obtain ⟨dT, hdT⟩ : ∃ c : Bool, c = decide (timesT a b = []) := ⟨_, rfl⟩
  obtain ⟨da, hda⟩ : ∃ c : Bool, c = decide (a = []) := ⟨_, rfl⟩
  obtain ⟨db, hdb⟩ : ∃ c : Bool, c = decide (b = []) := ⟨_, rfl⟩
  have z1 : dEqU true (L (timesT a b)) (.lst []) = retM (.bl (dT != true)) := by rw [hdT, ← mz rat]; exact eq_nil true _
  have z2 : dEqU false (L (timesT a b)) (.lst []) = retM (.bl (dT != false)) := by rw [hdT, ← mz rat]; exact eq_nil false _
  have z3 : dEqU false (LP a) (.lst []) = retM (.bl (da != false)) := by rw [hda, ← mz pr]; exact eq_nil false _
  have z4 : dEqU false (LP b) (.lst []) = retM (.bl (db != false)) := by rw [hdb, ← mz pr]; exact eq_nil false _
  have hrel : dT = (da || db) := by
    rw [hdT, hda, hdb, ← Bool.decide_or]
    exact decide_eq_decide.mpr (times_nil pa.tr pb.tr)
  have hdeg : dT = false → ((timesT a b).length : Int) - 1 = (a.length : Int) - 1 + ((b.length : Int) - 1) := fun z => by
    rw [hrel] at z
    have ha : a ≠ [] := fun y => by rw [hda, decide_eq_true y] at z; cases z
    have hb : b ≠ [] := fun y => by rw [hdb, decide_eq_true y] at z; cases da <;> cases z
    have hlen := times_len pa.tr pb.tr ha hb
    have la0 : 0 < a.length := List.length_pos_iff.mpr ha
    have lb0 : 0 < b.length := List.length_pos_iff.mpr hb
    omega
  have z5 := eq_bl false true true
  have z6 := eq_bl false false false
  have hD := eqUI true (((timesT a b).length : Int) - 1) ((a.length : Int) - 1 + ((b.length : Int) - 1))
  have hD' : dT = false → (decide (((timesT a b).length : Int) - 1 = (a.length : Int) - 1 + ((b.length : Int) - 1)) != true) = false := fun z => by
    rw [decide_eq_true (hdeg z)]; rfl
  generalize (decide (((timesT a b).length : Int) - 1 = (a.length : Int) - 1 + ((b.length : Int) - 1)) != true) = cmp at *
  unfold LP L at *
  cases hda' : da <;> cases hdb' : db <;> rw [hda', hdb'] at hrel <;> rw [hda'] at z3 <;> rw [hdb'] at z4 <;> rw [hrel] at z1 z2 hD'
  · have hcmp : cmp = false := hD' rfl
    simp [runD, env0, mSeq, mIfS, mNot, mB, mIsC, mVar, isC, mRet, mC, mTV, mAnd, mOr, mBin, mFld, dEqF, flV, retM, DL.bindM, mNx, mCall, lenM, mCons, mNil, mTup, mIsT, isT, mSet, mAsg, tgTup, tgCons, tgN, tgNil, mk_Ratio_1, mk_Ratio_2, mCallO, lenO, runO, mRetO, mLst, mIf, mUn, dNegI, mIsT2, mNoP, mPart, oListC, d__law_pair_right, m__law_pair_right, e1, e2, mPar, mNew, ht, ls, a1, a2, a3, a4, a5, b1, b2, b3, b4, b5, b6, c1, c2, c3, c4, c5, f1, f2, f3, addII, hD, hcmp, h1, h2, h3, h4, h5, h6, n1, n2, n3, n4, n5, z1, z2, z3, z4, z6, pickM, pick]
  · simp [runD, env0, mSeq, mIfS, mNot, mB, mIsC, mVar, isC, mRet, mC, mTV, mAnd, mOr, mBin, mFld, dEqF, flV, retM, DL.bindM, mNx, mCall, lenM, mCons, mNil, mTup, mIsT, isT, mSet, mAsg, tgTup, tgCons, tgN, tgNil, mk_Ratio_1, mk_Ratio_2, mCallO, lenO, runO, mRetO, mLst, mIf, mUn, dNegI, mIsT2, mNoP, mPart, oListC, d__law_pair_right, m__law_pair_right, e1, e2, mPar, mNew, ht, ls, a1, a2, a3, a4, a5, b1, b2, b3, b4, b5, b6, c1, c2, c3, c4, c5, h1, h2, h3, h4, h5, h6, n1, n2, n3, n4, n5, z1, z2, z3, z4, z5, pickM, pick]
  · simp [runD, env0, mSeq, mIfS, mNot, mB, mIsC, mVar, isC, mRet, mC, mTV, mAnd, mOr, mBin, mFld, dEqF, flV, retM, DL.bindM, mNx, mCall, lenM, mCons, mNil, mTup, mIsT, isT, mSet, mAsg, tgTup, tgCons, tgN, tgNil, mk_Ratio_1, mk_Ratio_2, mCallO, lenO, runO, mRetO, mLst, mIf, mUn, dNegI, mIsT2, mNoP, mPart, oListC, d__law_pair_right, m__law_pair_right, e1, e2, mPar, mNew, ht, ls, a1, a2, a3, a4, a5, b1, b2, b3, b4, b5, b6, c1, c2, c3, c4, c5, h1, h2, h3, h4, h5, h6, n1, n2, n3, n4, n5, z1, z2, z3, z4, z5, pickM, pick]
  · simp [runD, env0, mSeq, mIfS, mNot, mB, mIsC, mVar, isC, mRet, mC, mTV, mAnd, mOr, mBin, mFld, dEqF, flV, retM, DL.bindM, mNx, mCall, lenM, mCons, mNil, mTup, mIsT, isT, mSet, mAsg, tgTup, tgCons, tgN, tgNil, mk_Ratio_1, mk_Ratio_2, mCallO, lenO, runO, mRetO, mLst, mIf, mUn, dNegI, mIsT2, mNoP, mPart, oListC, d__law_pair_right, m__law_pair_right, e1, e2, mPar, mNew, ht, ls, a1, a2, a3, a4, a5, b1, b2, b3, b4, b5, b6, c1, c2, c3, c4, c5, h1, h2, h3, h4, h5, h6, n1, n2, n3, n4, n5, z1, z2, z3, z4, z5, pickM, pick]
end Q
end

section
set_option Elab.async false
set_option linter.all false
set_option maxRecDepth 100000
set_option maxHeartbeats 4000000
set_option exponentiation.threshold 20000
/-! the plain law: products at the bound. -/
namespace Q
open DL PySem PL PyProof.Rows
theorem bd_small {x y : Int} (hx : 1 ≤ x ∧ x ≤ 5) (hy : 1 ≤ y ∧ y ≤ 3) : Bd 1 30 (Rat.divInt x y) ∧ Rat.divInt x y ≠ 0 := by
  have h2 : y = 1 ∨ y = 2 ∨ y = 3 := by omega
  have hq : Rat.divInt x y ≠ 0 := by
    have h1 : x = 1 ∨ x = 2 ∨ x = 3 ∨ x = 4 ∨ x = 5 := by omega
    rcases h1 with rfl | rfl | rfl | rfl | rfl <;> rcases h2 with rfl | rfl | rfl <;> decide +kernel
  refine ⟨⟨x * (6 / y), ?_, ?_⟩, hq⟩
  · rw [Int.natAbs_mul]
    have h1 : x.natAbs ≤ 5 := by omega
    rcases h2 with rfl | rfl | rfl
    · rw [show ((6 : Int) / 1).natAbs = 6 from rfl]; omega
    · rw [show ((6 : Int) / 2).natAbs = 3 from rfl]; omega
    · rw [show ((6 : Int) / 3).natAbs = 2 from rfl]; omega
  · rw [Rat.divInt_eq_div, Rat.intCast_mul]
    generalize (x : Rat) = t
    rcases h2 with rfl | rfl | rfl
    · rw [show (6 : Int) / 1 = 6 from rfl, show ((6 ^ 1 : Nat) : Rat) = 6 by simp [runD, env0, mSeq, mIfS, mNot, mB, mIsC, mVar, isC, mRet, mC, mTV, mAnd, mOr, mBin, mFld, dEqF, flV, retM, DL.bindM, mNx, mCall, lenM, mCons, mNil, mTup, mIsT, isT, mSet, mAsg, tgTup, tgCons, tgN, tgNil, mk_Ratio_1, mk_Ratio_2, mCallO, lenO, runO, mRetO, mLst, mIf, mUn, dNegI, mIsT2, mNoP, mPart, oListC], show ((1 : Int) : Rat) = 1 by simp [runD, env0, mSeq, mIfS, mNot, mB, mIsC, mVar, isC, mRet, mC, mTV, mAnd, mOr, mBin, mFld, dEqF, flV, retM, DL.bindM, mNx, mCall, lenM, mCons, mNil, mTup, mIsT, isT, mSet, mAsg, tgTup, tgCons, tgN, tgNil, mk_Ratio_1, mk_Ratio_2, mCallO, lenO, runO, mRetO, mLst, mIf, mUn, dNegI, mIsT2, mNoP, mPart, oListC], show ((6 : Int) : Rat) = 6 by simp [runD, env0, mSeq, mIfS, mNot, mB, mIsC, mVar, isC, mRet, mC, mTV, mAnd, mOr, mBin, mFld, dEqF, flV, retM, DL.bindM, mNx, mCall, lenM, mCons, mNil, mTup, mIsT, isT, mSet, mAsg, tgTup, tgCons, tgN, tgNil, mk_Ratio_1, mk_Ratio_2, mCallO, lenO, runO, mRetO, mLst, mIf, mUn, dNegI, mIsT2, mNoP, mPart, oListC]]; grind
    · rw [show (6 : Int) / 2 = 3 from rfl, show ((6 ^ 1 : Nat) : Rat) = 6 by simp [runD, env0, mSeq, mIfS, mNot, mB, mIsC, mVar, isC, mRet, mC, mTV, mAnd, mOr, mBin, mFld, dEqF, flV, retM, DL.bindM, mNx, mCall, lenM, mCons, mNil, mTup, mIsT, isT, mSet, mAsg, tgTup, tgCons, tgN, tgNil, mk_Ratio_1, mk_Ratio_2, mCallO, lenO, runO, mRetO, mLst, mIf, mUn, dNegI, mIsT2, mNoP, mPart, oListC], show ((2 : Int) : Rat) = 2 by simp [runD, env0, mSeq, mIfS, mNot, mB, mIsC, mVar, isC, mRet, mC, mTV, mAnd, mOr, mBin, mFld, dEqF, flV, retM, DL.bindM, mNx, mCall, lenM, mCons, mNil, mTup, mIsT, isT, mSet, mAsg, tgTup, tgCons, tgN, tgNil, mk_Ratio_1, mk_Ratio_2, mCallO, lenO, runO, mRetO, mLst, mIf, mUn, dNegI, mIsT2, mNoP, mPart, oListC], show ((3 : Int) : Rat) = 3 by simp [runD, env0, mSeq, mIfS, mNot, mB, mIsC, mVar, isC, mRet, mC, mTV, mAnd, mOr, mBin, mFld, dEqF, flV, retM, DL.bindM, mNx, mCall, lenM, mCons, mNil, mTup, mIsT, isT, mSet, mAsg, tgTup, tgCons, tgN, tgNil, mk_Ratio_1, mk_Ratio_2, mCallO, lenO, runO, mRetO, mLst, mIf, mUn, dNegI, mIsT2, mNoP, mPart, oListC]]; grind
    · rw [show (6 : Int) / 3 = 2 from rfl, show ((6 ^ 1 : Nat) : Rat) = 6 by simp [runD, env0, mSeq, mIfS, mNot, mB, mIsC, mVar, isC, mRet, mC, mTV, mAnd, mOr, mBin, mFld, dEqF, flV, retM, DL.bindM, mNx, mCall, lenM, mCons, mNil, mTup, mIsT, isT, mSet, mAsg, tgTup, tgCons, tgN, tgNil, mk_Ratio_1, mk_Ratio_2, mCallO, lenO, runO, mRetO, mLst, mIf, mUn, dNegI, mIsT2, mNoP, mPart, oListC], show ((3 : Int) : Rat) = 3 by simp [runD, env0, mSeq, mIfS, mNot, mB, mIsC, mVar, isC, mRet, mC, mTV, mAnd, mOr, mBin, mFld, dEqF, flV, retM, DL.bindM, mNx, mCall, lenM, mCons, mNil, mTup, mIsT, isT, mSet, mAsg, tgTup, tgCons, tgN, tgNil, mk_Ratio_1, mk_Ratio_2, mCallO, lenO, runO, mRetO, mLst, mIf, mUn, dNegI, mIsT2, mNoP, mPart, oListC], show ((2 : Int) : Rat) = 2 by simp [runD, env0, mSeq, mIfS, mNot, mB, mIsC, mVar, isC, mRet, mC, mTV, mAnd, mOr, mBin, mFld, dEqF, flV, retM, DL.bindM, mNx, mCall, lenM, mCons, mNil, mTup, mIsT, isT, mSet, mAsg, tgTup, tgCons, tgN, tgNil, mk_Ratio_1, mk_Ratio_2, mCallO, lenO, runO, mRetO, mLst, mIf, mUn, dNegI, mIsT2, mNoP, mPart, oListC]]; grind
def powerL (n : Nat) (q : Rat) : List Rat := List.replicate n 0 ++ [q]
theorem po_power {n : Nat} {q : Rat} (hq : Bd 1 30 q) (h0 : q ≠ 0) : Po 1 30 (n + 1) (powerL n q) := by
  have hl : (powerL n q).length = n + 1 := by unfold powerL; simp [runD, env0, mSeq, mIfS, mNot, mB, mIsC, mVar, isC, mRet, mC, mTV, mAnd, mOr, mBin, mFld, dEqF, flV, retM, DL.bindM, mNx, mCall, lenM, mCons, mNil, mTup, mIsT, isT, mSet, mAsg, tgTup, tgCons, tgN, tgNil, mk_Ratio_1, mk_Ratio_2, mCallO, lenO, runO, mRetO, mLst, mIf, mUn, dNegI, mIsT2, mNoP, mPart, oListC]
  refine ⟨tr_of_last _ fun _ => ?_, fun i => ?_, by omega⟩
  · rw [hl]
    show coef (powerL n q) n ≠ 0
    unfold coef powerL
    simpa [runD, env0, mSeq, mIfS, mNot, mB, mIsC, mVar, isC, mRet, mC, mTV, mAnd, mOr, mBin, mFld, dEqF, flV, retM, DL.bindM, mNx, mCall, lenM, mCons, mNil, mTup, mIsT, isT, mSet, mAsg, tgTup, tgCons, tgN, tgNil, mk_Ratio_1, mk_Ratio_2, mCallO, lenO, runO, mRetO, mLst, mIf, mUn, dNegI, mIsT2, mNoP, mPart, oListC] using h0
  · refine coef_all (P := fun x => Bd 1 30 x) (fun x hx => ?_) ((Bd.zero 1).mono (Nat.zero_le _)) i
    unfold powerL at hx
    rcases List.mem_append.mp hx with hx | hx
    · rw [(List.mem_replicate.mp hx).2]; exact (Bd.zero 1).mono (Nat.zero_le _)
    · rw [List.mem_singleton.mp hx]; exact hq
theorem cut_last (ds : List D) (d : D) : DL.cutD (ds ++ [d]) none (some (-1)) = ds := by
  unfold DL.cutD
  have e1 : HT.sIx (ds ++ [d]).length 0 none = 0 := rfl
  have e2 : HT.sIx (ds ++ [d]).length (ds ++ [d]).length (some (-1)) = ds.length := by
    rw [List.length_append]
    simp [runD, env0, mSeq, mIfS, mNot, mB, mIsC, mVar, isC, mRet, mC, mTV, mAnd, mOr, mBin, mFld, dEqF, flV, retM, DL.bindM, mNx, mCall, lenM, mCons, mNil, mTup, mIsT, isT, mSet, mAsg, tgTup, tgCons, tgN, tgNil, mk_Ratio_1, mk_Ratio_2, mCallO, lenO, runO, mRetO, mLst, mIf, mUn, dNegI, mIsT2, mNoP, mPart, oListC, HT.sIx]
    omega
  rw [e1, e2]
  simp [runD, env0, mSeq, mIfS, mNot, mB, mIsC, mVar, isC, mRet, mC, mTV, mAnd, mOr, mBin, mFld, dEqF, flV, retM, DL.bindM, mNx, mCall, lenM, mCons, mNil, mTup, mIsT, isT, mSet, mAsg, tgTup, tgCons, tgN, tgNil, mk_Ratio_1, mk_Ratio_2, mCallO, lenO, runO, mRetO, mLst, mIf, mUn, dNegI, mIsT2, mNoP, mPart, oListC]
theorem at_last (ds : List D) (d : D) : atD (.lst (ds ++ [d])) (.int (-1)) = retM d := by
  have h : L2.ixN (ds.length + 1) (-1) = some ds.length := by
    unfold L2.ixN
    rw [if_neg (by decide), if_pos (by omega)]
    congr 1; omega
  simp [runD, env0, mSeq, mIfS, mNot, mB, mIsC, mVar, isC, mRet, mC, mTV, mAnd, mOr, mBin, mFld, dEqF, flV, retM, DL.bindM, mNx, mCall, lenM, mCons, mNil, mTup, mIsT, isT, mSet, mAsg, tgTup, tgCons, tgN, tgNil, mk_Ratio_1, mk_Ratio_2, mCallO, lenO, runO, mRetO, mLst, mIf, mUn, dNegI, mIsT2, mNoP, mPart, oListC, atD, L2.atI, h]
theorem law_bound_right {p : Pt} (hp : Good p) {a : List Rat} (pa : Po 1 36 9 a) : ∃ p', d__law_bound_right [.pot, LP a] p = some (.bl true, p') ∧ Good p' := by
  have sa : AllSz a := pa.szs (by decide +kernel) (by decide +kernel)
  have la := pa.l
  obtain ⟨n, hn⟩ : ∃ n, n = 30 - (a.length - 1) := ⟨_, rfl⟩
  have hmax : cMax2 [.int 0, .int ((a.length : Int) - 1)] = retM (.int ((a.length - 1 : Nat) : Int)) := by
    show retM (D.int (if (a.length : Int) - 1 > 0 then (a.length : Int) - 1 else 0)) = _
    congr 2
    split <;> omega
  have hsub : (30 : Int) - ((a.length - 1 : Nat) : Int) = (n : Int) := by omega
  obtain ⟨x, p1, e1, x1, x2, g1⟩ := law_draw hp (many := 5) (by omega) (by omega)
  obtain ⟨y, p2, e2, y1, y2, g2⟩ := law_draw g1 (many := 3) (by omega) (by omega)
  obtain ⟨hq, hq0⟩ := bd_small (x := 1 + x) (y := 1 + y) (by omega) (by omega)
  have low := law_low (1 + x) (1 + y) (by omega) (smallN (by omega))
  generalize Rat.divInt (1 + x) (1 + y) = q at *
  have pq := po_power (n := n) hq hq0
  obtain ⟨d, p3, e3, hd, g3⟩ := law_given g2 pa.tr sa (by omega)
  refine ⟨p3, ?_, g3⟩
  have vd := hd.gv
  have pa' : Po 1 36 a.length a := ⟨pa.tr, pa.b, Nat.le_refl _⟩
  have vq : Gv (L (powerL n q)) (powerL n q) := Gv.of pq.tr (by have := pq.l; omega)
  obtain ⟨c1, _⟩ := times_eq vd vq pa' pq (by omega) (by decide +kernel) (by decide +kernel) (by decide +kernel) (by decide +kernel)
  have c2 := law_lby pa pq (by decide) (by omega) (by decide +kernel) (by decide +kernel) (by decide +kernel) (by decide +kernel)
  have pt := pa'.times pq
  have hB : (a.length + (n + 1)) * (36 * 30) < 10 ^ 60 := Nat.lt_of_le_of_lt (Nat.mul_le_mul_right _ (show a.length + (n + 1) ≤ 100 by omega)) (by decide +kernel)
  have c3 := pt.is (by decide +kernel) hB (by omega)
  have hr := rep_pr0 n
  have hcomp : compM (tgN 4) mYes (mCall (lenM 1 d__law_ratio) (mCons (mVar 4) mNil)) [.val .pot, .val (LP a), .val (.int (n : Nat)), .val (LP (powerL n q)), .un] ((powerL n q).map pr) = retM ((powerL n q).map rat) := by
    refine comp_map fun z hz => ?_
    have hs := law_ratio (pq.szs (by decide +kernel) (by decide +kernel) z hz)
    funext p; simp [runD, env0, mSeq, mIfS, mNot, mB, mIsC, mVar, isC, mRet, mC, mTV, mAnd, mOr, mBin, mFld, dEqF, flV, retM, DL.bindM, mNx, mCall, lenM, mCons, mNil, mTup, mIsT, isT, mSet, mAsg, tgTup, tgCons, tgN, tgNil, mk_Ratio_1, mk_Ratio_2, mCallO, lenO, runO, mRetO, mLst, mIf, mUn, dNegI, mIsT2, mNoP, mPart, oListC, hs]
  have hpl : (powerL n q).map pr = (List.replicate n (0 : Rat)).map pr ++ [pr q] := by
    unfold powerL; rw [List.map_append]; rfl
  have hlen : ((List.replicate n (0 : Rat)).map pr).length = n := by simp [runD, env0, mSeq, mIfS, mNot, mB, mIsC, mVar, isC, mRet, mC, mTV, mAnd, mOr, mBin, mFld, dEqF, flV, retM, DL.bindM, mNx, mCall, lenM, mCons, mNil, mTup, mIsT, isT, mSet, mAsg, tgTup, tgCons, tgN, tgNil, mk_Ratio_1, mk_Ratio_2, mCallO, lenO, runO, mRetO, mLst, mIf, mUn, dNegI, mIsT2, mNoP, mPart, oListC]
  have c4 := cut_last ((List.replicate n (0 : Rat)).map pr) (.tup [.int (1 + x), .int (1 + y)])
  have c5 := at_last ((List.replicate n (0 : Rat)).map pr) (.tup [.int (1 + x), .int (1 + y)])
  have c6 : atD (.tup [.int (1 + x), .int (1 + y)]) (.int 0) = retM (.int (1 + x)) := rfl
  have c7 : atD (.tup [.int (1 + x), .int (1 + y)]) (.int 1) = retM (.int (1 + y)) := rfl
  have b1 : (n : Int) ≤ 100000 := by omega
  have b2 : -100000 ≤ (n : Int) := by omega
  have b3 : n ≤ 100000 := by omega
  have b4 : n + 1 ≤ 100000 := by omega
  have e2' : d__law_draw [.pot, .int 3] p1 = some (.int y, p2) := e2
  generalize hel : mCall (lenM 1 d__law_ratio) (mCons (mVar 4) mNil) = elt at *
  unfold LP L at *
  rw [hpl] at hcomp c2
  generalize (List.replicate n (0 : Rat)).map pr = zs at *
  simp [runD, env0, mSeq, mIfS, mNot, mB, mIsC, mVar, isC, mRet, mC, mTV, mAnd, mOr, mBin, mFld, dEqF, flV, retM, DL.bindM, mNx, mCall, lenM, mCons, mNil, mTup, mIsT, isT, mSet, mAsg, tgTup, tgCons, tgN, tgNil, mk_Ratio_1, mk_Ratio_2, mCallO, lenO, runO, mRetO, mLst, mIf, mUn, dNegI, mIsT2, mNoP, mPart, oListC, d__law_bound_right, m__law_bound_right, hel, cLen, subII, hmax, hsub, mNew, oRep, oCat, oSlice, hr, b1, b2, b3, b4, hlen, e1, e2', addII, c4, c5, c6, c7, low, e3, mLc, srcL, wipeE, hcomp, c1, c2, c3]
end Q
end

section
set_option Elab.async false
set_option linter.all false
set_option maxRecDepth 100000
set_option maxHeartbeats 4000000
set_option exponentiation.threshold 20000
/-! the plain law: three lines together. -/
namespace Q
open DL PySem PL PyProof.Rows
theorem times_assoc (a b c : List Rat) : timesT (timesT a b) c = timesT a (timesT b c) := (tr_times _ _).ext (tr_times _ _) fun i => by
  rw [coef_timesT, coef_timesT, show coef (timesT a b) = mulF (coef a) (coef b) from funext fun j => coef_timesT a b j, show coef (timesT b c) = mulF (coef b) (coef c) from funext fun j => coef_timesT b c j, mulF_assoc]
theorem plus_assoc (a b c : List Rat) : plusT (plusT a b) c = plusT a (plusT b c) := (tr_plus _ _).ext (tr_plus _ _) fun i => by
  rw [coef_plusT, coef_plusT, coef_plusT, coef_plusT]; grind
theorem minus_self (a : List Rat) : minusT a a = [] := (tr_minus a a).ext Tr.nil fun i => by rw [coef_minusT, coef_nil]; grind
theorem times_plus (a b c : List Rat) : timesT a (plusT b c) = plusT (timesT a b) (timesT a c) := (tr_times _ _).ext (tr_plus _ _) fun i => by
  rw [coef_timesT, coef_plusT, coef_timesT, coef_timesT, show coef (plusT b c) = (fun i => coef b i + coef c i) from funext fun j => coef_plusT b c j, mulF_add_right]
theorem po_nil : Po 1 36 9 [] := ⟨Tr.nil, fun i => by rw [coef_nil]; exact (Bd.zero 1).mono (Nat.zero_le _), Nat.zero_le _⟩
theorem po_list {xs : List Rat} (ht : Tr xs) (hb : ∀ x ∈ xs, x = 0 ∨ x = 1) (hl : xs.length ≤ 9) : Po 1 36 9 xs := ⟨ht, fun i => coef_all (P := fun x => Bd 1 36 x) (fun x hx => by
  rcases hb x hx with rfl | rfl
  · exact (Bd.zero 1).mono (Nat.zero_le _)
  · exact (Bd.int 1).up 1 |>.mono (by decide)) ((Bd.zero 1).mono (Nat.zero_le _)) i, hl⟩
theorem po_1 : Po 1 36 9 [1] := po_list (by unfold Tr; decide +kernel) (by decide +kernel) (by decide)
theorem po_01 : Po 1 36 9 [0, 1] := po_list (by unfold Tr; decide +kernel) (by decide +kernel) (by decide)
def rIf : MS := mIfS (mB (mBin (dEqU false) (mCall (lenM 2 d__law_draw) (mCons (mVar 0) (mCons (mC (.int 3)) mNil))) (mC (.int 0)))) (mSetIx 1 (mCall (lenM 2 d__law_pick) (mCons (mVar 0) (mCons (mLst (mNew (mCons (mLst (mNew mNil)) (mCons (mLst (mNew (mCons (mTup (mCons (mC (.int 1)) (mCons (mC (.int 1)) mNil))) mNil))) (mCons (mLst (mNew (mCons (mTup (mCons (mC (.int 0)) (mCons (mC (.int 1)) mNil))) (mCons (mTup (mCons (mC (.int 1)) (mCons (mC (.int 1)) mNil))) mNil)))) (mCons (mBin atD (mVarB 1) (mC (.int 0))) mNil)))))) mNil))) (mCall (lenM 2 d__law_draw) (mCons (mVar 0) (mCons (mC (.int 3)) mNil)))) mNx
theorem at3_0 (x y z : D) : atD (.lst [x, y, z]) (.int 0) = retM x := rfl
theorem at3_1 (x y z : D) : atD (.lst [x, y, z]) (.int 1) = retM y := rfl
theorem at3_2 (x y z : D) : atD (.lst [x, y, z]) (.int 2) = retM z := rfl
theorem at3_m (x y z : D) : atD (.lst [x, y, z]) (.int (-1)) = retM z := rfl
theorem r_if {p : Pt} (hp : Good p) {x y z : List Rat} (px : Po 1 36 9 x) (py : Po 1 36 9 y) (pz : Po 1 36 9 z) : ∃ (x' y' z' : List Rat) (p' : Pt), rIf [.val .pot, .own [LP x, LP y, LP z], .un, .un, .un, .un, .un] p = some ((.nx, [.val .pot, .own [LP x', LP y', LP z'], .un, .un, .un, .un, .un]), p') ∧ Po 1 36 9 x' ∧ Po 1 36 9 y' ∧ Po 1 36 9 z' ∧ Good p' := by
  obtain ⟨r, p1, e1, r1, r2, g1⟩ := law_draw hp (many := 3) (by omega) (by omega)
  by_cases hr : r = 0
  · subst hr
    obtain ⟨d, p2, hd, e2, g2⟩ := law_pick g1 (ds := [.lst [], .lst [.tup [.int 1, .int 1]], .lst [.tup [.int 0, .int 1], .tup [.int 1, .int 1]], LP x]) (by simp [runD, env0, mSeq, mIfS, mNot, mB, mIsC, mVar, isC, mRet, mC, mTV, mAnd, mOr, mBin, mFld, dEqF, flV, retM, DL.bindM, mNx, mCall, lenM, mCons, mNil, mTup, mIsT, isT, mSet, mAsg, tgTup, tgCons, tgN, tgNil, mk_Ratio_1, mk_Ratio_2, mCallO, lenO, runO, mRetO, mLst, mIf, mUn, dNegI, mIsT2, mNoP, mPart, oListC]) (by simp [runD, env0, mSeq, mIfS, mNot, mB, mIsC, mVar, isC, mRet, mC, mTV, mAnd, mOr, mBin, mFld, dEqF, flV, retM, DL.bindM, mNx, mCall, lenM, mCons, mNil, mTup, mIsT, isT, mSet, mAsg, tgTup, tgCons, tgN, tgNil, mk_Ratio_1, mk_Ratio_2, mCallO, lenO, runO, mRetO, mLst, mIf, mUn, dNegI, mIsT2, mNoP, mPart, oListC])
    obtain ⟨i, p3, e3, i1, i2, g3⟩ := law_draw g2 (many := 3) (by omega) (by omega)
    obtain ⟨w, rfl, pw⟩ : ∃ w, d = LP w ∧ Po 1 36 9 w := by
      simp only [List.mem_cons, List.not_mem_nil, or_false] at hd
      rcases hd with rfl | rfl | rfl | rfl
      · exact ⟨[], rfl, po_nil⟩
      · exact ⟨[1], rfl, po_1⟩
      · exact ⟨[0, 1], rfl, po_01⟩
      · exact ⟨x, rfl, px⟩
    have hi : i = 0 ∨ i = 1 ∨ i = 2 := by omega
    have key : rIf [.val .pot, .own [LP x, LP y, LP z], .un, .un, .un, .un, .un] p = some ((.nx, [.val .pot, .own (List.set [LP x, LP y, LP z] i.toNat (LP w)), .un, .un, .un, .un, .un]), p3) := by
      generalize LP w = W at *
      generalize LP x = X at *
      generalize LP y = Y at *
      generalize LP z = Z at *
      rcases hi with rfl | rfl | rfl <;> simp [runD, env0, mSeq, mIfS, mNot, mB, mIsC, mVar, isC, mRet, mC, mTV, mAnd, mOr, mBin, mFld, dEqF, flV, retM, DL.bindM, mNx, mCall, lenM, mCons, mNil, mTup, mIsT, isT, mSet, mAsg, tgTup, tgCons, tgN, tgNil, mk_Ratio_1, mk_Ratio_2, mCallO, lenO, runO, mRetO, mLst, mIf, mUn, dNegI, mIsT2, mNoP, mPart, oListC, rIf, e1, eqUI, mSetIx, mNew, mVarB, at3_0, e2, e3, L2.ixN]
    rcases hi with rfl | rfl | rfl
    · exact ⟨w, y, z, p3, key, pw, py, pz, g3⟩
    · exact ⟨x, w, z, p3, key, px, pw, pz, g3⟩
    · exact ⟨x, y, w, p3, key, px, py, pw, g3⟩
  · refine ⟨x, y, z, p1, ?_, px, py, pz, g1⟩
    simp [runD, env0, mSeq, mIfS, mNot, mB, mIsC, mVar, isC, mRet, mC, mTV, mAnd, mOr, mBin, mFld, dEqF, flV, retM, DL.bindM, mNx, mCall, lenM, mCons, mNil, mTup, mIsT, isT, mSet, mAsg, tgTup, tgCons, tgN, tgNil, mk_Ratio_1, mk_Ratio_2, mCallO, lenO, runO, mRetO, mLst, mIf, mUn, dNegI, mIsT2, mNoP, mPart, oListC, rIf, e1, eqUI, hr]
noncomputable def rBody : MS := mIfS (mOr (mNot (mB (mCall (lenM 2 d__law_one_right) (mCons (mVar 0) (mCons (mBin atD (mVarB 1) (mVar 2)) mNil))))) (mNot (mB (mCall (lenM 3 d__law_pair_right) (mCons (mVar 0) (mCons (mBin atD (mVarB 1) (mVar 2)) (mCons (mBin atD (mVarB 1) (mBin dSubU (mVar 2) (mC (.int 1)))) mNil))))))) (mRet (mC (.bl false))) mNx
theorem r_body {p : Pt} (hp : Good p) {ds : List D} {u v : List Rat} {i : Int} {v3 v4 v5 v6 : SV} (h1 : atD (.lst ds) (.int i) = retM (LP u)) (h2 : atD (.lst ds) (.int (i - 1)) = retM (LP v)) (pu : Po 1 36 9 u) (pv : Po 1 36 9 v) : ∃ p', rBody [.val .pot, .own ds, .val (.int i), v3, v4, v5, v6] p = some ((.nx, [.val .pot, .own ds, .val (.int i), v3, v4, v5, v6]), p') ∧ Good p' := by
  obtain ⟨p1, e1, g1⟩ := law_one_right hp pu
  obtain ⟨p2, e2, g2⟩ := law_pair_right g1 pu pv
  refine ⟨p2, ?_, g2⟩
  generalize LP u = U at *
  generalize LP v = V at *
  simp [runD, env0, mSeq, mIfS, mNot, mB, mIsC, mVar, isC, mRet, mC, mTV, mAnd, mOr, mBin, mFld, dEqF, flV, retM, DL.bindM, mNx, mCall, lenM, mCons, mNil, mTup, mIsT, isT, mSet, mAsg, tgTup, tgCons, tgN, tgNil, mk_Ratio_1, mk_Ratio_2, mCallO, lenO, runO, mRetO, mLst, mIf, mUn, dNegI, mIsT2, mNoP, mPart, oListC, rBody, mVarB, h1, h2, subII, e1, e2]
theorem r_loop {p : Pt} (hp : Good p) {x y z : List Rat} (px : Po 1 36 9 x) (py : Po 1 36 9 y) (pz : Po 1 36 9 z) : ∃ p', mFor (srcR1 (mCons (mC (.int 3)) mNil)) (tgN 2) rBody [.val .pot, .own [LP x, LP y, LP z], .un, .un, .un, .un, .un] p = some ((.nx, [.val .pot, .own [LP x, LP y, LP z], .val (.int 2), .un, .un, .un, .un]), p') ∧ Good p' := by
  obtain ⟨p1, e1, g1⟩ := r_body (ds := [LP x, LP y, LP z]) (i := 0) (v3 := .un) (v4 := .un) (v5 := .un) (v6 := .un) hp (at3_0 _ _ _) (at3_m _ _ _) px pz
  obtain ⟨p2, e2, g2⟩ := r_body (ds := [LP x, LP y, LP z]) (i := 1) (v3 := .un) (v4 := .un) (v5 := .un) (v6 := .un) g1 (at3_1 _ _ _) (at3_0 _ _ _) py px
  obtain ⟨p3, e3, g3⟩ := r_body (ds := [LP x, LP y, LP z]) (i := 2) (v3 := .un) (v4 := .un) (v5 := .un) (v6 := .un) g2 (at3_2 _ _ _) (at3_1 _ _ _) pz py
  refine ⟨p3, ?_, g3⟩
  have hr : rngD 0 3 = [.int 0, .int 1, .int 2] := rfl
  generalize rBody = body at *
  generalize LP x = X at *
  generalize LP y = Y at *
  generalize LP z = Z at *
  simp [runD, env0, mSeq, mIfS, mNot, mB, mIsC, mVar, isC, mRet, mC, mTV, mAnd, mOr, mBin, mFld, dEqF, flV, retM, DL.bindM, mNx, mCall, lenM, mCons, mNil, mTup, mIsT, isT, mSet, mAsg, tgTup, tgCons, tgN, tgNil, mk_Ratio_1, mk_Ratio_2, mCallO, lenO, runO, mRetO, mLst, mIf, mUn, dNegI, mIsT2, mNoP, mPart, oListC, mFor, srcR1, hr, loopM, mTg, e1, e2, e3]
def rAsg : MS := mAsg (tgLst 3 (tgCons (tgN 3) (tgCons (tgN 4) (tgCons (tgN 5) tgNil)))) (mLst (mLc (srcL (mVarB 1)) [6] (tgN 6) mYes (mCall (lenM 2 d__law_given) (mCons (mVar 0) (mCons (mVar 6) mNil)))))
theorem r_asg {p : Pt} (hp : Good p) {x y z : List Rat} (px : Po 1 36 9 x) (py : Po 1 36 9 y) (pz : Po 1 36 9 z) : ∃ (d e f : D) (p' : Pt), rAsg [.val .pot, .own [LP x, LP y, LP z], .val (.int 2), .un, .un, .un, .un] p = some ((.nx, [.val .pot, .own [LP x, LP y, LP z], .val (.int 2), .val d, .val e, .val f, .un]), p') ∧ Gv d x ∧ Gv e y ∧ Gv f z ∧ Good p' := by
  have sz : ∀ {a : List Rat}, Po 1 36 9 a → AllSz a := fun pa => pa.szs (by decide +kernel) (by decide +kernel)
  obtain ⟨d, p1, e1, hd, g1⟩ := law_given hp px.tr (sz px) (Nat.le_trans px.l (by decide))
  obtain ⟨e, p2, e2, he, g2⟩ := law_given g1 py.tr (sz py) (Nat.le_trans py.l (by decide))
  obtain ⟨f, p3, e3, hf, g3⟩ := law_given g2 pz.tr (sz pz) (Nat.le_trans pz.l (by decide))
  refine ⟨d, e, f, p3, ?_, hd.gv, he.gv, hf.gv, g3⟩
  generalize LP x = X at *
  generalize LP y = Y at *
  generalize LP z = Z at *
  simp [runD, env0, mSeq, mIfS, mNot, mB, mIsC, mVar, isC, mRet, mC, mTV, mAnd, mOr, mBin, mFld, dEqF, flV, retM, DL.bindM, mNx, mCall, lenM, mCons, mNil, mTup, mIsT, isT, mSet, mAsg, tgTup, tgCons, tgN, tgNil, mk_Ratio_1, mk_Ratio_2, mCallO, lenO, runO, mRetO, mLst, mIf, mUn, dNegI, mIsT2, mNoP, mPart, oListC, rAsg, mLc, srcL, mVarB, wipeE, compM, mYes, e1, e2, e3, tgLst]
theorem law_right {p : Pt} (hp : Good p) : ∃ p', d__law_right [.pot] p = some (.bl true, p') ∧ Good p' := by
  obtain ⟨x, p1, e1, px, g1⟩ := law_line hp (most := 8) (by decide)
  obtain ⟨y, p2, e2, py, g2⟩ := law_line g1 (most := 8) (by decide)
  obtain ⟨z, p3, e3, pz, g3⟩ := law_line g2 (most := 5) (by decide)
  have e1' : o__law_line [.pot, .int 8] p = some (x.map pr, p1) := e1
  have e2' : o__law_line [.pot, .int 8] p1 = some (y.map pr, p2) := e2
  have e3' : o__law_line [.pot, .int 5] p2 = some (z.map pr, p3) := e3
  obtain ⟨a, b, c, p4, e4, pa, pb, pc, g4⟩ := r_if g3 px py (pz.mono (Nat.le_refl _) (by decide))
  obtain ⟨p5, e5, g5⟩ := r_loop g4 pa pb pc
  obtain ⟨d, e, f, p6, e6, va, vb, vc, g6⟩ := r_asg g5 pa pb pc
  obtain ⟨p7, e7, g7⟩ := law_bound_right g6 pa
  obtain ⟨p8, e8, g8⟩ := law_bound_right g7 pc
  refine ⟨p8, ?_, g8⟩
  have pab := pa.times pb
  have pbc := pb.times pc
  have pac := pa.times pc
  have sab := pa.plus pb
  have sbc := pb.plus pc
  obtain ⟨c1, _⟩ := times_eq va vb pa pb (by decide) (by decide +kernel) (by decide +kernel) (by decide +kernel) (by decide +kernel)
  have vab : Gv (L (timesT a b)) (timesT a b) := Gv.of pab.tr (Nat.le_trans pab.l (by decide))
  obtain ⟨c2, _⟩ := times_eq vab vc pab pc (by decide) (by decide +kernel) (by decide +kernel) (by decide +kernel) (by decide +kernel)
  obtain ⟨c3, _⟩ := times_eq vb vc pb pc (by decide) (by decide +kernel) (by decide +kernel) (by decide +kernel) (by decide +kernel)
  have vbc : Gv (L (timesT b c)) (timesT b c) := Gv.of pbc.tr (Nat.le_trans pbc.l (by decide))
  obtain ⟨c4, _⟩ := times_eq va vbc pa pbc (by decide) (by decide +kernel) (by decide +kernel) (by decide +kernel) (by decide +kernel)
  rw [← times_assoc] at c4
  obtain ⟨d1, _⟩ := plus_eq va vb pa pb (by decide) (by decide +kernel) (by decide +kernel) (by decide +kernel)
  have wab : Gv (L (plusT a b)) (plusT a b) := Gv.of sab.tr (Nat.le_trans sab.l (by decide))
  obtain ⟨d2, _⟩ := plus_eq wab vc sab pc (by decide) (by decide +kernel) (by decide +kernel) (by decide +kernel)
  obtain ⟨d3, _⟩ := plus_eq vb vc pb pc (by decide) (by decide +kernel) (by decide +kernel) (by decide +kernel)
  have wbc : Gv (L (plusT b c)) (plusT b c) := Gv.of sbc.tr (Nat.le_trans sbc.l (by decide))
  obtain ⟨d4, _⟩ := plus_eq va wbc pa sbc (by decide) (by decide +kernel) (by decide +kernel) (by decide +kernel)
  rw [← plus_assoc] at d4
  obtain ⟨f1, _⟩ := minus_eq va va pa pa (by decide) (by decide +kernel) (by decide +kernel) (by decide +kernel)
  rw [minus_self] at f1
  obtain ⟨h1, _⟩ := times_eq va wbc pa sbc (by decide) (by decide +kernel) (by decide +kernel) (by decide +kernel) (by decide +kernel)
  obtain ⟨h2, _⟩ := times_eq va vc pa pc (by decide) (by decide +kernel) (by decide +kernel) (by decide +kernel) (by decide +kernel)
  have vac : Gv (L (timesT a c)) (timesT a c) := Gv.of pac.tr (Nat.le_trans pac.l (by decide))
  obtain ⟨h3, _⟩ := plus_eq vab vac pab pac (by decide) (by decide +kernel) (by decide +kernel) (by decide +kernel)
  rw [← times_plus] at h3
  have vnil : Gv (.lst []) [] := Gv.of Tr.nil (by decide)
  obtain ⟨f2, _⟩ := times_eq va vnil pa po_nil (by decide) (by decide +kernel) (by decide +kernel) (by decide +kernel) (by decide +kernel)
  have f3 : timesT a [] = [] := by unfold timesT; rw [if_pos (.inr rfl)]
  rw [f3] at f2
  have n1 := neq_L (timesT (timesT a b) c)
  have n2 := neq_L (plusT (plusT a b) c)
  have n3 := neq_L (timesT a (plusT b c))
  have n4 : dEqU true (.lst []) (.lst []) = retM (.bl false) := neq_L []
  have hm : m__law_right = mSeq (mSetO 1 (mNew (mCons (mLst (mCallO (lenO 2 o__law_line) (mCons (mVar 0) (mCons (mC (.int 8)) mNil)))) (mCons (mLst (mCallO (lenO 2 o__law_line) (mCons (mVar 0) (mCons (mC (.int 8)) mNil)))) (mCons (mLst (mCallO (lenO 2 o__law_line) (mCons (mVar 0) (mCons (mC (.int 5)) mNil)))) mNil))))) (mSeq rIf (mSeq (mFor (srcR1 (mCons (mC (.int 3)) mNil)) (tgN 2) rBody) (mSeq rAsg (mSeq (mIfS (mB (mBin (dEqU true) (mLst (mCallO (lenO 2 o_times) (mCons (mLst (mCallO (lenO 2 o_times) (mCons (mVar 3) (mCons (mVar 4) mNil)))) (mCons (mVar 5) mNil)))) (mLst (mCallO (lenO 2 o_times) (mCons (mVar 3) (mCons (mLst (mCallO (lenO 2 o_times) (mCons (mVar 4) (mCons (mVar 5) mNil)))) mNil)))))) (mRet (mC (.bl false))) mNx) (mSeq (mIfS (mOr (mB (mBin (dEqU true) (mLst (mCallO (lenO 2 o_plus) (mCons (mLst (mCallO (lenO 2 o_plus) (mCons (mVar 3) (mCons (mVar 4) mNil)))) (mCons (mVar 5) mNil)))) (mLst (mCallO (lenO 2 o_plus) (mCons (mVar 3) (mCons (mLst (mCallO (lenO 2 o_plus) (mCons (mVar 4) (mCons (mVar 5) mNil)))) mNil)))))) (mB (mBin (dEqU true) (mLst (mCallO (lenO 2 o_minus) (mCons (mVar 3) (mCons (mVar 3) mNil)))) (mLst (mNew mNil))))) (mRet (mC (.bl false))) mNx) (mSeq (mIfS (mOr (mB (mBin (dEqU true) (mLst (mCallO (lenO 2 o_times) (mCons (mVar 3) (mCons (mLst (mCallO (lenO 2 o_plus) (mCons (mVar 4) (mCons (mVar 5) mNil)))) mNil)))) (mLst (mCallO (lenO 2 o_plus) (mCons (mLst (mCallO (lenO 2 o_times) (mCons (mVar 3) (mCons (mVar 4) mNil)))) (mCons (mLst (mCallO (lenO 2 o_times) (mCons (mVar 3) (mCons (mVar 5) mNil)))) mNil)))))) (mB (mBin (dEqU true) (mLst (mCallO (lenO 2 o_times) (mCons (mVar 3) (mCons (mLst (mNew mNil)) mNil)))) (mLst (mNew mNil))))) (mRet (mC (.bl false))) mNx) (mRet (mTV (mAnd (mB (mCall (lenM 2 d__law_bound_right) (mCons (mVar 0) (mCons (mBin atD (mVarB 1) (mC (.int 0))) mNil)))) (mB (mCall (lenM 2 d__law_bound_right) (mCons (mVar 0) (mCons (mBin atD (mVarB 1) (mC (.int 2))) mNil))))))))))))) := rfl
  generalize rIf = s1 at *
  generalize mFor (srcR1 (mCons (mC (.int 3)) mNil)) (tgN 2) rBody = s2 at *
  generalize rAsg = s3 at *
  have hx : D.lst (x.map pr) = LP x := rfl
  have hy : D.lst (y.map pr) = LP y := rfl
  have hzz : D.lst (z.map pr) = LP z := rfl
  generalize LP a = A at *
  generalize LP b = B at *
  generalize LP c = C at *
  unfold L at *
  simp only [List.map_nil] at f1 f2
  simp [runD, env0, mSeq, mIfS, mNot, mB, mIsC, mVar, isC, mRet, mC, mTV, mAnd, mOr, mBin, mFld, dEqF, flV, retM, DL.bindM, mNx, mCall, lenM, mCons, mNil, mTup, mIsT, isT, mSet, mAsg, tgTup, tgCons, tgN, tgNil, mk_Ratio_1, mk_Ratio_2, mCallO, lenO, runO, mRetO, mLst, mIf, mUn, dNegI, mIsT2, mNoP, mPart, oListC, d__law_right, hm, mSetO, mNew, e1', e2', e3', hx, hy, hzz, e4, e5, e6, c1, c2, c3, c4, d1, d2, d3, d4, f1, f2, h1, h2, h3, n1, n2, n3, n4, mVarB, at3_0, at3_2, e7, e8]
theorem hright (a b : Int) (ha : 0 ≤ a) (hb : 0 ≤ b) (hb2 : b < 2147483648) : ∃ p', d__law_right [.pot] (a, b) = some (.bl true, p') := by
  obtain ⟨p', h, _⟩ := law_right (p := (a, b)) ⟨ha, hb, hb2⟩
  exact ⟨p', h⟩
end Q
end

section
set_option Elab.async false
set_option linter.all false
set_option maxRecDepth 100000
set_option maxHeartbeats 4000000
/-! DL: the law's def called at the caller's frame, where no repr is under way. -/
namespace DL
open PySem PySem.Spec PyProof.Rows L2
/-- the promise of a law's def: at a list of ints, True -/
def spTrue (K : Fr') (n : Nat) : Sp := fun vs H Q _ => ∃ (t : Addr) (ns : List Int), vs = [.ref t] ∧ ns.length ≤ n ∧ Only H ∧ SqL K H t (ns.map V.int) ∧ ∀ H1, (∀ b o, H b = some o → H1 b = some o) → Q (.bl true) H1
theorem run_law {P : Program} {w : World} {K : Fr'} {mg mb : Str → Option Value} {n k : Nat} {f t : Addr} {fd : FuncData} {x : Str} {S : Shared} {us : List Value} {ns : List Int} (hK : K.In S.heap) (hG : S.heap.Ns mainGlobals mg) (hB : S.heap.Ns builtinsNs mb)
    (hbo : ∀ y : Str, y ≠ "__name__" → mb y = bootBuiltins y) (hno : S.heap.NoLimit) (hgen : S.gens = #[]) (ht : S.heap.get? t = some { cls := .type "list", data := .seq us.toArray }) (hus : IntsAre us ns) (hn : ns.length ≤ n) (hns : ns.length ≤ sizeLine) (room : Room k callerA)
    (F : ∀ base : Heap, K.In base → base.Ns mainGlobals mg → FnD true P w K mg base k f fd [x] (spTrue K n)) (hbd : ∀ (s : Shared) (u : Value), BindsTo s fd ⟨[u], []⟩ [(x, u)]) :
    codeAny (model P w) callerA (.call (.ref f) ⟨[.ref t], []⟩) (fun r s' => r = .ok (.ret (.bool true)) ∧ OldK S.heap s'.heap ∧ s'.os = S.os ∧ AllBare s'.gens) S := by
  have vals := vals_ints hus
  have ul := hus.length
  -- the abstract heap: the script alone, or nothing
  have main : ∀ G : Hp, Only G → SqL K G t (ns.map V.int) → HOk P w G S.heap → (∀ b, G b ≠ none → b = t ∧ K.lookup b = none) →
      codeAny (model P w) callerA (.call (.ref f) ⟨[.ref t], []⟩) (fun r s' => r = .ok (.ret (.bool true)) ∧ OldK S.heap s'.heap ∧ s'.os = S.os ∧ AllBare s'.gens) S := by
    intro G gO gS gok gT
    have keep : ∀ (b : Addr) (o : Obj), S.heap.get? b = some o → G b = none → (hidT S.heap G).get? b = some o := fun b o h z => hidT_get h z
    have free : ∀ (b : Addr) (o : Obj) (es : Array DictEntry) (ep : Nat), S.heap.get? b = some o → o.data = .dict es ep → G b = none := by
      intro b o es ep h hd
      rcases z : G b with _ | u
      · rfl
      · obtain ⟨e1, _⟩ := gT b (by rw [z]; exact fun y => nomatch y)
        rw [e1, ht] at h
        cases h
        exact nomatch (show Data.seq us.toArray 0 = Data.dict es ep from hd)
    have nsp : ∀ (b : Addr) (m : Str → Option Value), S.heap.Ns b m → (hidT S.heap G).Ns b m := by
      rintro b m ⟨o, es, ep, h, hd, r⟩
      exact ⟨o, es, ep, keep b o h (free b o es ep h hd), hd, r⟩
    have kb : K.In (hidT S.heap G) := by
      intro b o h
      refine keep b o (hK b o h) ?_
      rcases z : G b with _ | u
      · rfl
      · obtain ⟨_, e2⟩ := gT b (by rw [z]; exact fun y => nomatch y)
        rw [h] at e2
        cases e2
    have mod : Mod K mg (hidT S.heap G) := by
      obtain ⟨mc, n1, n2⟩ := hno
      exact ⟨kb, nsp _ _ hG, ⟨mb, nsp _ _ hB, hbo⟩, ⟨mc, nsp _ _ n1, n2⟩⟩
    have en : Env0 P w K mg (hidT S.heap G) callerA [] S G := by
      refine ⟨rfl, mod, fun b o h => of_hidT h, Nat.le_of_eq (hidT_size _ _), trivial, fun b hb => ?_, gok, .of_eq hgen⟩
      exact nomatch (show b ∈ ([] : List Addr) from hb)
    have go := (F _ kb (nsp _ _ hG)).run callerA [] S G ⟨[.ref t], []⟩ [.ref t] [.ref t] (fun v H1 => v = .bl true) E0 room (fun _ => rfl) en (hbd S (.ref t)) (.cons rfl .nil) ⟨t, ns, rfl, hn, gO, gS, fun _ _ => rfl⟩
    refine codeAny_mono go fun r s' h => ?_
    rcases r with e | fl
    · exact h.elim
    · cases fl with
      | next => exact h.elim
      | brk => exact h.elim
      | cont => exact h.elim
      | ret u =>
        obtain ⟨v, G1, hos, hbare, hun, gok1, rel, hv⟩ := h
        have hv' : v = .bl true := hv
        subst hv'
        have hu : u = Value.bool true := rel
        subst hu
        refine ⟨rfl, OldK.of_keep fun b o hb => ?_, hos, hbare⟩
        rcases z : G b with _ | w1
        · exact hun.keep b o hb z (fun y => nomatch (show b ∈ ([] : List Addr) from y)) (by simp)
        · rcases gO b with y | ⟨ob, xs, y⟩
          · rw [z] at y; cases y
          · have y1 := hun.frzs b ob _ y
            have q1 := (gok b _ y).1
            have q2 := (gok1 b _ y1).1
            rw [hb] at q1
            cases q1
            exact q2
  rcases hk : K.lookup t with _ | o
  · obtain ⟨G, hG1⟩ : ∃ G : Hp, ∀ b, G b = if b = t then some (HO.frz { cls := .type "list", data := .seq us.toArray } (.lst (ns.map V.int))) else none := ⟨_, fun _ => rfl⟩
    have sc : G t = some (.frz { cls := .type "list", data := .seq us.toArray } (.lst (ns.map V.int))) := by rw [hG1, if_pos rfl]
    refine main G (fun b => ?_) (.inl (.inr ⟨_, sc⟩)) (fun b u hb => ?_) fun b hb => ?_
    · rw [hG1]
      by_cases z : b = t
      · exact .inr ⟨_, _, if_pos z⟩
      · exact .inl (if_neg z)
    · rw [hG1] at hb
      by_cases z : b = t
      · subst z
        rw [if_pos rfl] at hb
        cases hb
        exact ⟨ht, by rw [List.length_map]; exact hns, us, 0, vals, ht⟩
      · rw [if_neg z] at hb
        cases hb
    · rw [hG1] at hb
      by_cases z : b = t
      · exact ⟨z, by rw [z]; exact hk⟩
      · exact absurd (if_neg z) hb
  · have h1 := hK t o hk
    rw [ht] at h1
    cases h1
    refine main (fun _ => none) (fun _ => .inl rfl) (.inr ⟨_, us.toArray, 0, hk, rfl, rfl, rfl, by rw [List.size_toArray, ul]; exact hns, by simpa using vals⟩) (fun b u hb => nomatch (show (none : Option HO) = some u from hb)) fun b hb => absurd rfl hb
/-- the end of a law's proof -/
theorem walk_law {l : PySem.W.OpenLaw} {n k : Nat} {q : Program} {loose : List Str} {XP : (Str → Option Value) → Heap → Prop} {YP : World → Heap → Prop} {d : DefRec} {x : Str} (hn : l.most = some n) (hn2 : n ≤ sizeLine) (hdf : d.params.defaults = []) (hr : Room k callerA)
    (F : ∀ (w : World) (mg : Str → Option Value) (f : Addr) (h : Heap), YP w h → h.Ns mainGlobals mg → mg d.name = some (.ref f) →
      ∃ (K : Fr') (fd : FuncData), K.In h ∧ (∀ (s : Shared) (u : Value), BindsTo s fd ⟨[u], []⟩ [(x, u)]) ∧ ∀ base : Heap, K.In base → base.Ns mainGlobals mg → FnD true l.prog w K mg base k f fd [x] (spTrue K n)) :
    PySem.W.WalkO q loose XP YP l.row.toRowW d [] (fun g vs => PySem.call g vs) := by
  refine Att.attach_call hn hdf ?_
  intro w s0 S mg mb f o pm cd doc t us ns G Y ho hd hcd hmg hobj hints hlen hg
  obtain ⟨K, fd, hK, hb, hF⟩ := F w mg f _ Y G.T.g hmg
  exact run_law hK G.T.g G.T.b G.T.builtins G.T.nolimit hg hobj hints hlen (Nat.le_trans hlen hn2) hr hF hb
section
variable {X : Cx} {g : Bool} {k : Nat} {f : Addr} {fd : FuncData} {ps : List Str} {sp : Sp} {x : Str} {p pos : Pos} {e : Expr} {es : List Expr} {ta : TA}
/-- f(e, ..) by a promise of any kind -/
theorem pe_callD (F : FnD g X.prog X.w X.K X.mg X.base k f fd ps sp) (hr : Room k X.A) (hgd : g = true → X.A.guards = some []) (hm : X.mg x = some (.ref f)) (hk : PySem.W.keepIn X.K (.ref f) = true) (hb : Binds X.K fd ps []) (ha : PA X (e :: es) ta) (hg : Gl X x := by rfl)
    (hdb : (x == ("__debug__" : Str)) = false := by decide) (he : starEach (e :: es) X.env = (false, eval e X.env) :: starEach es X.env := by rfl) (hpl : (backTo pos (starEach es X.env)).any (·.1) = false := by rfl) :
    PE X (.Call (.Name x p) (e :: es) [] pos) (tCl sp ta) := by
  refine ⟨fun pins s σ H Q I h => ?_⟩
  refine wpAny_Call_Name_kw (ld_glob I hg hm ?_ hdb)
  refine PySem.W.callWith_K (h₀ := X.base) I.ok.mod.kin hk (thn (ha.run pos pins s σ H _ I h) fun us s1 hq => ?_) he hpl
  obtain ⟨vs, H1, I1, r, q⟩ := hq
  refine ⟨I1.kIn, ?_⟩
  have hb1 := hb s1 us I1.kIn (by rw [List.append_nil, ← r.length]; exact F.len _ _ _ _ q)
  rw [List.append_nil] at hb1
  exact call_d (pv := us) (kw := []) F hr hgd hb1 I1 r q
end
end DL
end

section
set_option Elab.async false
set_option linter.all false
set_option maxRecDepth 100000
set_option maxHeartbeats 4000000
namespace Q
open PySem PySem.Spec PyProof.Rows L2 DL
def N_pot : List Str := ["script", "k", "cell"]
theorem S_pot : FnScope N_pot ["script", "k"] (defScope (top 46)) := ⟨rfl, rfl, rfl, by decide +kernel, rfl, by decide +kernel, by decide +kernel⟩
/-- a new pot, out of the script's k-th number -/
def spPot (K : Fr') : Sp := fun vs H Q _ => ∃ (t : Addr) (ns : List Int) (k : Nat), vs = [.ref t, .int k] ∧ k < 64 ∧ ns.length ≤ 63 ∧ SqL K H t (ns.map V.int) ∧
  ∀ (a b : Int) t', 0 ≤ a → 0 ≤ b → b < 2147483648 → H t' = none → Q (.ref t') (upd H t' (.lst [.int a, .int b]))
section
variable {P : Program} {w : World} {K : Fr'} {mg : Str → Option Value} {base : Heap}
theorem b_pot (Z : Zx P w K mg base) (cdv : Value) (A : Around) (outer : List Env) (s : Shared) (H : Hp) (E : XK) (vs : List V) (Q : VK) (h : spPot K vs H Q E) :
    ∃ t, PSs (cx0 P w K mg base N_pot "_law_pot" (defScope (top 46)) (He.ga K "_law_pot") cdv A outer s H E) (defBody (top 46)) t ∧ t { nx := fun _ H' => Q .non H', rt := Q } (L2.start N_pot vs) H := by
  refine ⟨_, pss_cons (ps_set (i := 2) S_pot.nd rfl (Or.inl rfl) (pe_ifExp (pt_cmpR op_lt (pe_var (i := 1) rfl (Or.inl rfl)) (pe_callB call_len_seq rfl Z.fr_len (by decide +kernel) (L2.pa_cons (pe_var (i := 0) rfl (Or.inl rfl)) L2.pa_nil)) rfl)
    (pe_callB call_abs rfl Z.fr_abs (by decide +kernel) (L2.pa_cons (pe_ix ix_seq (pe_var (i := 0) rfl (Or.inl rfl)) (pe_var (i := 1) rfl (Or.inl rfl)) (fun _ _ => rfl)) L2.pa_nil))
    (pe_op op_add (pe_op op_mulW pe_int (pe_var (i := 1) rfl (Or.inl rfl))) pe_int)) rfl (.inl rfl))
    (pss_one (ps_ret (pe_lst (L2.pa_cons (pe_callB (call_max2 rfl) rfl Z.fr_max (by decide +kernel) (L2.pa_cons pe_int (L2.pa_cons (pe_op op_sub (pe_var (i := 2) rfl (Or.inl rfl)) (pe_op op_pow pe_int pe_int)) L2.pa_nil)))
      (L2.pa_cons (pe_op op_add (pe_op op_mod (pe_callTy call_int1 rfl Z.fr_int (by decide +kernel) (L2.pa_cons (pe_op op_add (pe_op op_add (pe_op op_mulW (pe_op op_mod (pe_callTy call_int1 rfl Z.fr_int (by decide +kernel) (L2.pa_cons (pe_var (i := 2) rfl (Or.inl rfl)) L2.pa_nil)) pe_int) pe_int) (pe_op op_mulW pe_int (pe_var (i := 1) rfl (Or.inl rfl)))) pe_int) L2.pa_nil)) pe_int) pe_int) L2.pa_nil))))), ?_⟩
  obtain ⟨t, ns, k, rfl, hk, hn, hs, q⟩ := h
  have cm : ∀ (i j : Int), i.natAbs < 2 ^ 64 → j.natAbs < 2 ^ 64 → CMulW i j := fun i j h1 h2 => by
    have g1 := PySem.W.mg_log (k := 63) h1
    have g2 := PySem.W.mg_log (k := 63) h2
    unfold CMulW
    omega
  have cp : CPow 10 18 := by unfold CPow; decide +kernel
  have hz : ∀ x y : V, [x, y].length ≤ sizeLine := fun x y => sz100 (by simp)
  refine ⟨.int k, rfl, .ref t, rfl, t, _, rfl, .inl hs, _, _, rfl, rfl, _, rfl, ?_⟩
  show (if decide (_ < _) = true then _ else _)
  by_cases hlt : (k : Int) < ((ns.map V.int).length : Int)
  · rw [if_pos (decide_eq_true hlt)]
    have hat : atI (ns.map V.int) (k : Int) = some (.int (ns.getD k 0)) := by
      have h1 : k < ns.length := by rw [List.length_map] at hlt; omega
      unfold atI ixN
      rw [if_pos (by omega), if_pos hlt]
      show (ns.map V.int)[((k : Int)).toNat]? = _
      rw [Int.toNat_natCast, List.getElem?_map, List.getElem?_eq_getElem h1, List.getD_eq_getElem?_getD, List.getElem?_eq_getElem h1]
      rfl
    refine ⟨.ref t, rfl, .int k, rfl, .inl ⟨t, _, _, .int (ns.getD k 0), rfl, rfl, hs, hat, _, rfl, ?_⟩⟩
    generalize (if ns.getD k 0 < 0 then -(ns.getD k 0) else ns.getD k 0) = c
    exact ⟨.int c, rfl, _, _, rfl, rfl, cp, _, _, rfl, rfl, _, _, rfl, .int c, rfl, .inl ⟨c, rfl, _, _, rfl, rfl, by omega, _, _, rfl, rfl, cm _ _ (by omega) (by omega), .int k, rfl, _, _, rfl, rfl, cm _ _ (by omega) (by omega), _, _, rfl, rfl, _, _, rfl, rfl,
      .inl ⟨_, rfl, _, _, rfl, rfl, by omega, _, _, rfl, rfl, hz _ _, fun p hp => q _ _ p (by split <;> omega) (by omega) (by omega) hp⟩⟩⟩
  · rw [if_neg (fun z => hlt (of_decide_eq_true z))]
    refine ⟨.int k, rfl, _, _, rfl, rfl, cm _ _ (by omega) (by omega), _, _, rfl, rfl, ?_⟩
    exact ⟨.int (131 * (k : Int) + 97), rfl, _, _, rfl, rfl, cp, _, _, rfl, rfl, _, _, rfl, .int (131 * (k : Int) + 97), rfl, .inl ⟨131 * (k : Int) + 97, rfl, _, _, rfl, rfl, by omega, _, _, rfl, rfl, cm _ _ (by omega) (by omega), .int k, rfl, _, _, rfl, rfl, cm _ _ (by omega) (by omega), _, _, rfl, rfl, _, _, rfl, rfl,
      .inl ⟨_, rfl, _, _, rfl, rfl, by omega, _, _, rfl, rfl, hz _ _, fun p hp => q _ _ p (by split <;> omega) (by omega) (by omega) hp⟩⟩⟩
theorem w_pot (Z : Zx P w K mg base) : ∃ fd, FnD false P w K mg base 1 (He.ga K "_law_pot") fd ["script", "k"] (spPot K) ∧ PySem.W.keepIn K (.ref (He.ga K "_law_pot")) = true ∧ Binds K fd ["script", "k"] [] := by
  obtain ⟨fd, D⟩ := Z.says.def_ 36 (d := z__law_pot)
  refine ⟨fd, fn_enter (k := 0) D S_pot (fun vs H Q E h => ?_) (fun cdv A outer s H vs Q E hr hg h => b_pot Z cdv A outer s H E vs Q h), D.kp, D.bindsN (fun _ _ _ _ _ _ us hl => match us, hl with
    | [a0, a1], _ => rfl)⟩
  obtain ⟨t, ns, k, rfl, _⟩ := h
  rfl
def N_law : List Str := ["script", "k"]
theorem S_law : FnScope N_law ["script"] (defScope (top 67)) := ⟨rfl, rfl, rfl, by decide +kernel, rfl, by decide +kernel, by decide +kernel⟩
theorem b_law (Z : Zx P w K mg base) (hright : ∀ a b : Int, 0 ≤ a → 0 ≤ b → b < 2147483648 → ∃ p', d__law_right [.pot] (a, b) = some (.bl true, p')) (cdv : Value) (A : Around) (outer : List Env) (s : Shared) (H : Hp) (E : XK) (hr : Room 11 (A.deeper (envOfC "law" (defScope (top 67)) s.heap.objs.size (He.ga K "law") cdv))) (hg : A.guards = some []) (vs : List V) (Q : VK) (h : spTrue K 63 vs H Q E) :
    ∃ t, PSs (cx0 P w K mg base N_law "law" (defScope (top 67)) (He.ga K "law") cdv A outer s H E) (defBody (top 67)) t ∧ t { nx := fun _ H' => Q .non H', rt := Q } (L2.start N_law vs) H := by
  obtain ⟨fdp, Fp, hkp, hbp⟩ := w_pot Z
  obtain ⟨fdr, Fr, _, hkr, hbr, _⟩ := w__law_right Z
  refine ⟨_, pss_one (ps_ret (pe_callB (cr_all rfl) rfl Z.fr_all (by decide +kernel) (L2.pa_cons (pe_lc (own := [("k", 1)]) rfl S_law.nd (pi_range1 rfl Z.fr_range (L2.pa_cons (pe_callB (call_max2 rfl) rfl Z.fr_max (by decide +kernel) (L2.pa_cons pe_int (L2.pa_cons (pe_callB (call_min2 rfl) rfl Z.fr_min (by decide +kernel) (L2.pa_cons pe_int (L2.pa_cons (pe_callB call_len_seq rfl Z.fr_len (by decide +kernel) (L2.pa_cons (pe_var (i := 0) rfl (.inr (.inl rfl))) L2.pa_nil)) L2.pa_nil))) L2.pa_nil))) L2.pa_nil))
    (blkOk_by rfl) (fun _ _ _ _ _ => pg_name (i := 1) S_law.nd rfl (Or.inl rfl)) (fun _ _ _ _ _ => pts_nil)
    (fun _ _ _ _ _ => pe_callD Fr (hr.mono (by decide)) (fun _ => hg) (Z.glo__law_right) hkr hbr (L2.pa_cons (pe_callD Fp (hr.mono (by decide)) (fun (z : false = true) => nomatch z) (Z.glo__law_pot) hkp hbp (L2.pa_cons (pe_var (i := 0) rfl (by first | exact Or.inl rfl | exact Or.inr (Or.inl rfl) | exact Or.inr (Or.inr rfl))) (L2.pa_cons (pe_var (i := 1) rfl (Or.inl rfl)) L2.pa_nil))) L2.pa_nil))) L2.pa_nil))), ?_⟩
  obtain ⟨t, ns, rfl, hn, hO, hs, q⟩ := h
  have hjn : ∃ j : Nat, j ≤ 2 ∧ ((if (if ((ns.map V.int).length : Int) < 2 then ((ns.map V.int).length : Int) else 2) > 1 then (if ((ns.map V.int).length : Int) < 2 then ((ns.map V.int).length : Int) else 2) else 1) : Int) = (j : Int) := by
    split <;> split <;> first | exact ⟨2, by omega, by omega⟩ | exact ⟨1, by omega, by omega⟩ | exact ⟨(ns.map V.int).length, by omega, by omega⟩
  obtain ⟨j, hj, hje⟩ := hjn
  refine ⟨.ref t, rfl, t, _, rfl, .inl hs, _, _, rfl, _, _, rfl, _, rfl, ?_, ?_, ?_⟩
  · exact Int.le_trans (by omega) (Int.le_of_eq hje.symm)
  · exact Int.lt_of_le_of_lt (Int.le_of_eq hje) (by omega)
  intro D hD
  have rep1 : ∀ i : Nat, (List.replicate i true).map V.bl ++ [V.bl true] = (List.replicate (i + 1) true).map V.bl := fun i => by
    rw [List.replicate_succ', List.map_append]; rfl
  refine ⟨fun i m H' => m = j - i ∧ i ≤ j ∧ H' D = some (.lst ((List.replicate i true).map V.bl)) ∧ ∀ b o, H b = some o → H' b = some o, ⟨_, rfl, Nat.zero_le _, upd_same, fun b o hb => ?_⟩, ?_⟩
  · rw [upd_ne (fun z => by rw [z, hD] at hb; cases hb)]; exact hb
  rintro i m H' ⟨rfl, hij, hDl, hfr⟩
  have hjn2 : (Int.toNat _) = j := (congrArg Int.toNat hje).trans (Int.toNat_natCast j)
  by_cases hlt : i < j
  · right
    refine ⟨Nat.lt_of_lt_of_eq hlt hjn2.symm, fun H2 => H2 D = some (.lst ((List.replicate (i + 1) true).map V.bl)) ∧ ∀ b o, H b = some o → H2 b = some o, fun H2 hq => ⟨j - (i + 1), by omega, rfl, hlt, hq.1, hq.2⟩, fun x H2 hy => ?_⟩
    obtain ⟨rfl, rfl⟩ := hy
    refine ⟨rfl, ?_⟩
    unfold tYes
    dsimp only
    rw [if_pos rfl]
    refine ⟨.ref t, rfl, .int (0 + (i : Int)), rfl, t, ns, i, by rw [Int.zero_add], by omega, hn, hs.ext hfr, fun a b t' ha hb hb2 ht' => ?_⟩
    obtain ⟨p', hp'⟩ := hright a b ha hb hb2
    have hDt : D ≠ t' := fun z => by rw [← z, hDl] at ht'; cases ht'
    have hE : Evl.Ex (fun _ => none) (upd H2 t' (.lst [.int a, .int b])) := fun b o z => nomatch (show (none : Option HO) = some o from z)
    have hR : Reps K (csK K) t' (fun _ => none) [DL.D.pot] [V.ref t'] := reps_cons (show Rep K (csK K) t' (fun _ => none) .pot (.ref t') by simp only [Rep]) reps_nil
    refine ⟨t', fun _ => none, [DL.D.pot], (a, b), _, p', rfl, hE, upd_same, rfl, hR, hp', fun B' H4 v n hp4 r => ?_⟩
    simp only [Rep] at r
    subst r
    have hD4 : H4 D = some (.lst ((List.replicate i true).map V.bl)) := n.fr D _ (by rw [upd_ne hDt]; exact hDl) hDt
    refine ⟨_, hD4, ?_, ?_, fun b o hb => ?_⟩
    · rw [List.length_map, List.length_replicate, sizeLine_eq]; omega
    · rw [upd_same, rep1]
    · have h1 : b ≠ D := fun z => by rw [z, hD] at hb; cases hb
      have h2 : H2 b = some o := hfr b o hb
      have h3 : b ≠ t' := fun z => by rw [z, ht'] at h2; cases h2
      rw [upd_ne h1]
      exact n.fr b o (by rw [upd_ne h3]; exact h2) h3
  · left
    have : i = j := by omega
    subst this
    refine ⟨Nat.le_of_eq hjn2, ?_⟩
    refine ⟨D, List.replicate i true, rfl, SqL.of hDl, ?_⟩
    rw [show (List.replicate i true).all id = true by simp]
    exact q H' hfr
theorem w_law (Z : ∀ base, Zx P w K mg base) (hright : ∀ a b : Int, 0 ≤ a → 0 ≤ b → b < 2147483648 → ∃ p', d__law_right [.pot] (a, b) = some (.bl true, p')) : ∃ fd, (∀ base, FnD true P w K mg base 12 (He.ga K "law") fd ["script"] (spTrue K 63)) ∧ ∀ (s : Shared) (u : Value), BindsTo s fd ⟨[u], []⟩ [("script", u)] := by
  obtain ⟨fd, D⟩ := (Z { objs := #[] }).says.def_ 57 (d := z_law)
  refine ⟨fd, fun base => fn_enter (k := 11) D S_law (fun vs H Q E h => ?_) (fun cdv A outer s H vs Q E hr hg h => b_law (Z base) hright cdv A outer s H E hr (hg rfl) vs Q h), fun s u => ?_⟩
  · obtain ⟨t, ns, rfl, _⟩ := h
    rfl
  · have b := FunD.bindsA (ps := ["script"]) D fun _ _ _ _ _ _ us hl => match us, hl with | [_], _ => rfl
    exact b s [u] rfl
end
end Q
end

section
set_option Elab.async false
set_option linter.all false
set_option maxRecDepth 100000
set_option maxHeartbeats 0
namespace Q
open PySem PySem.Spec PyProof.Rows L2 DL
end Q
open PySem PySem.W PySem.Calls PyProof.Rows
theorem PySem.Challenge.cw_sheetdeals_k12_whole_lines_together_holds : PySem.Challenge.rw_sheetdeals_k12_whole_lines_together.Holds := by
  w_on; o_law
  refine HandSHeadRun.head_imp (r := OpenLaw.row PySem.Challenge.rw_sheetdeals_k12_whole_lines_together) (q := view (OpenLaw.row PySem.Challenge.rw_sheetdeals_k12_whole_lines_together).prog [0, 67]) (H := Q.hk) (ob := Q.ob) (M := 9000) (loose := Q.looseAll) (d := HandSHeadRun.topDef (OpenLaw.row PySem.Challenge.rw_sheetdeals_k12_whole_lines_together).prog 67) (kwd := []) Q.ob_eq
    Q.run (by kernel_rfl) (by kernel_rfl) (by kernel_rfl) (by rfl) (by first | assumption | decide +kernel) (by decide +kernel) ⟨rfl, rfl, rfl, rfl, rfl, by decide +kernel⟩ ?hw ?hc
  case hw => w_witness2
  case hc =>
    refine DL.walk_law (l := PySem.Challenge.rw_sheetdeals_k12_whole_lines_together) (n := 63) (k := 12) (x := "script") rfl (by decide) (by kernel_rfl) ⟨rfl, by decide, by decide⟩ ?F
    intro w mg fa h Y G hmg0
    obtain ⟨K, KX, c⟩ := Y
    have hmg : mg ("law" : PySem.Str) = some (.ref fa) := by
      have e : (HandSHeadRun.topDef (OpenLaw.row PySem.Challenge.rw_sheetdeals_k12_whole_lines_together).prog 67).name = ("law" : PySem.Str) := by kernel_rfl
      rw [← e]
      exact hmg0
    have Z0 : ∀ base : Heap, Q.Zx PySem.Challenge.rw_sheetdeals_k12_whole_lines_together.prog w K mg base := fun base => ⟨c, ⟨h, KX, G⟩⟩
    have e := hmg.symm.trans (Z0 h).glo_law
    cases e
    obtain ⟨fd, hF, hb⟩ := Q.w_law Z0 Q.hright
    exact ⟨K, fd, KX, hb, fun base _ _ => hF base⟩
end
