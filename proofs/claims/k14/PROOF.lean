import PyProof.Rows.All
import Wide.All
import OpenK.AllK
import Wide.FinOn
import HandS.ForMost
import HandS.ForExc
import HandS.Deep
import HandS.IsInst
import HandS.SortRule
import HandS.TupLen
import HandS.Conv
import PyProof.LongRange
import HandS.ExcOwn
import HandS.ForDict
import HandS.TryMany
import HandS.ExcIs
import HandS.SortKw
import KE.KEqDict
import HandS.More
import HandS.DictTup
import KE.KDictCopyH
import HandS.Style
import PySem.Challenge.RW_rulesheet_k14_whole_long_chains
set_option Elab.async false
set_option linter.all false
set_option maxRecDepth 100000
/-! Rs0: data as trees, what a value stands for, environments. -/
namespace Rs
open PySem PySem.Spec PyProof.Rows L2
abbrev St := L2.St

/-- heads of compound data -/
inductive Hd where
  | tup | lst | fls | dK (ks : List Int) | dT (ks : List (Int × Int)) | ins
  deriving DecidableEq
def Hd.mu : Hd → Bool
  | .tup => false
  | .fls => false
  | _ => true
inductive D where
  | non | bl (b : Bool) | int (i : Int) | str (x : Str) | exc (c : Nat)
  | node (h : Hd) (xs : List D)
mutual
def D.imm : D → Bool
  | .node h xs => !h.mu && D.imms xs
  | .non => true
  | .bl _ => true
  | .int _ => true
  | .str _ => true
  | .exc _ => true
def D.imms : List D → Bool
  | [] => true
  | d :: ds => d.imm && D.imms ds
end
theorem imms_iff : ∀ {ds : List D}, D.imms ds = true ↔ ∀ d ∈ ds, d.imm = true
  | [] => by simp [D.imms]
  | d :: ds => by simp [D.imms, imms_iff (ds := ds)]

structure Gx where
  K : PySem.W.Frag
  C : Addr
  names : List Str
  cls : Nat → Addr
  exa : Nat → V → Prop

def kp (p : Int × Int) : List Key := [.inl p.1, .inl p.2]
theorem kp_inj {p q : Int × Int} (h : kp p = kp q) : p = q := by
  unfold kp at h
  injection h with h1 h2
  injection h2 with h2 _
  cases p; cases q
  simp only [Sum.inl.injEq] at h1 h2
  simp [h1, h2]

def NodeAt (G : Gx) (H : Hp) (h : Hd) (a : Addr) (vs : List V) : Prop := match h with
  | .tup => H a = some (.tup vs)
  | .fls => (∃ o, H a = some (.frz o (.lst vs))) ∨ ∀ H' : Hp, SqL G.K H' a vs
  | .lst => H a = some (.lst vs)
  | .dK ks => ∃ kvs, Rd H a (.dK kvs) ∧ kvs.map (·.1) = ks.map (Sum.inl : Int → Key) ∧ kvs.map (·.2) = vs
  | .dT ks => ∃ kvs, Rd H a (.dT kvs) ∧ kvs.map (·.1) = ks.map kp ∧ kvs.map (·.2) = vs
  | .ins => ∃ dx fs, H a = some (.ins G.C dx fs) ∧ fs.map (·.1) = G.names.take vs.length ∧ fs.map (·.2) = vs

mutual
def Own (G : Gx) (H : Hp) : D → V → List Addr → Prop
  | .non, v, F => v = .non ∧ F = []
  | .bl b, v, F => v = .bl b ∧ F = []
  | .int i, v, F => v = .int i ∧ F = []
  | .str x, v, F => v = .str x ∧ F = []
  | .exc c, v, F => G.exa c v ∧ F = []
  | .node h ds, v, F => ∃ a vs F1, v = .ref a ∧ NodeAt G H h a vs ∧ OwnL G H ds vs F1 ∧ F = (if h.mu then a :: F1 else F1)
def OwnL (G : Gx) (H : Hp) : List D → List V → List Addr → Prop
  | [], vs, F => vs = [] ∧ F = []
  | d :: ds, vs, F => ∃ v vr F1 F2, vs = v :: vr ∧ Own G H d v F1 ∧ OwnL G H ds vr F2 ∧ F = F1 ++ F2
end
section
variable {G : Gx} {H H' : Hp}
theorem own_non {v : V} {F : List Addr} : Own G H .non v F ↔ v = .non ∧ F = [] := by simp only [Own]
theorem own_bl {b : Bool} {v : V} {F : List Addr} : Own G H (.bl b) v F ↔ v = .bl b ∧ F = [] := by simp only [Own]
theorem own_int {i : Int} {v : V} {F : List Addr} : Own G H (.int i) v F ↔ v = .int i ∧ F = [] := by simp only [Own]
theorem own_str {i : Str} {v : V} {F : List Addr} : Own G H (.str i) v F ↔ v = .str i ∧ F = [] := by simp only [Own]
theorem own_node {h : Hd} {ds : List D} {v : V} {F : List Addr} : Own G H (.node h ds) v F ↔ ∃ a vs F1, v = .ref a ∧ NodeAt G H h a vs ∧ OwnL G H ds vs F1 ∧ F = (if h.mu then a :: F1 else F1) := by simp only [Own]
theorem ownL_nil {vs : List V} {F : List Addr} : OwnL G H [] vs F ↔ vs = [] ∧ F = [] := by simp only [OwnL]
theorem ownL_cons {d : D} {ds : List D} {vs : List V} {F : List Addr} : OwnL G H (d :: ds) vs F ↔ ∃ v vr F1 F2, vs = v :: vr ∧ Own G H d v F1 ∧ OwnL G H ds vr F2 ∧ F = F1 ++ F2 := by simp only [OwnL]

/-- what never changes -/
def ImmO : HO → Prop
  | .tup _ => True
  | .frz _ _ => True
  | _ => False
def MutO : HO → Prop
  | .lst _ => True
  | .dK _ => True
  | .dT _ => True
  | .ins _ _ _ => True
  | _ => False
def DicO : HO → Prop
  | .dK _ => True
  | .dT _ => True
  | _ => False
/-- what is not locked for a while -/
def ExO : HO → Prop
  | .lst _ => True
  | .ins _ _ _ => True
  | .tup _ => True
  | .frz _ (.lst _) => True
  | _ => False
/-- what may be read at b stays readable -/
structure Kp (H H' : Hp) (b : Addr) : Prop where
  rd : ∀ u, DicO u → Rd H b u → Rd H' b u
  ex : ∀ u, ExO u → H b = some u → H' b = some u
theorem Kp.of {b : Addr} (h : ∀ o, H b = some o → H' b = some o) : Kp H H' b :=
  ⟨fun u _ r => r.elim (fun e => .inl (h _ e)) fun ⟨o, e⟩ => .inr ⟨o, h _ e⟩, fun _ _ e => h _ e⟩
theorem nodeAt_keep {h : Hd} {a : Addr} {vs : List V} (k : Kp H H' a) (n : NodeAt G H h a vs) : NodeAt G H' h a vs := by
  cases h with
  | tup => exact k.ex _ trivial n
  | fls =>
    rcases n with ⟨o, n⟩ | n
    · exact .inl ⟨o, k.ex _ trivial n⟩
    · exact .inr n
  | lst => exact k.ex _ trivial n
  | dK ks => obtain ⟨kvs, r, e⟩ := n; exact ⟨kvs, k.rd _ trivial r, e⟩
  | dT ks => obtain ⟨kvs, r, e⟩ := n; exact ⟨kvs, k.rd _ trivial r, e⟩
  | ins => obtain ⟨dx, fs, r, e⟩ := n; exact ⟨dx, fs, k.ex _ trivial r, e⟩
theorem nodeAt_imm {h : Hd} {a : Addr} {vs : List V} (hm : h.mu = false) (hk : ∀ b o, H b = some o → ImmO o → Kp H H' b) (n : NodeAt G H h a vs) : NodeAt G H' h a vs := by
  cases h with
  | tup => exact (hk a _ n trivial).ex _ trivial n
  | fls =>
    rcases n with ⟨o, n⟩ | n
    · exact .inl ⟨o, (hk a _ n trivial).ex _ trivial n⟩
    · exact .inr n
  | lst => cases hm
  | dK ks => cases hm
  | dT ks => cases hm
  | ins => cases hm
mutual
theorem own_keep (hk : ∀ b o, H b = some o → ImmO o → Kp H H' b) : ∀ (d : D) (v : V) (F : List Addr), (∀ b ∈ F, Kp H H' b) → Own G H d v F → Own G H' d v F
  | .non, v, F, _, h => by rw [own_non] at h ⊢; exact h
  | .bl b, v, F, _, h => by rw [own_bl] at h ⊢; exact h
  | .int i, v, F, _, h => by rw [own_int] at h ⊢; exact h
  | .str x, v, F, _, h => by rw [own_str] at h ⊢; exact h
  | .exc c, v, F, _, h => by simp only [Own] at h ⊢; exact h
  | .node hd ds, v, F, kf, h => by
    rw [own_node] at h ⊢
    obtain ⟨a, vs, F1, ev, n, o, ef⟩ := h
    subst ef
    cases hm : hd.mu with
    | true =>
      rw [hm] at kf
      exact ⟨a, vs, F1, ev, nodeAt_keep (kf a (by simp)) n, ownL_keep hk ds vs F1 (fun b hb => kf b (by simp [hb])) o, by simp⟩
    | false =>
      rw [hm] at kf
      exact ⟨a, vs, F1, ev, nodeAt_imm hm hk n, ownL_keep hk ds vs F1 (fun b hb => kf b (by simpa using hb)) o, by simp⟩
theorem ownL_keep (hk : ∀ b o, H b = some o → ImmO o → Kp H H' b) : ∀ (ds : List D) (vs : List V) (F : List Addr), (∀ b ∈ F, Kp H H' b) → OwnL G H ds vs F → OwnL G H' ds vs F
  | [], vs, F, _, h => by rw [ownL_nil] at h ⊢; exact h
  | d :: ds, vs, F, kf, h => by
    rw [ownL_cons] at h ⊢
    obtain ⟨v, vr, F1, F2, e1, o1, o2, e2⟩ := h
    subst e2
    exact ⟨v, vr, F1, F2, e1, own_keep hk d v F1 (fun b hb => kf b (by simp [hb])) o1, ownL_keep hk ds vr F2 (fun b hb => kf b (by simp [hb])) o2, rfl⟩
end
mutual
theorem own_imm : ∀ (d : D) (v : V) (F : List Addr), d.imm = true → Own G H d v F → F = []
  | .non, v, F, _, h => (own_non.mp h).2
  | .bl b, v, F, _, h => (own_bl.mp h).2
  | .int i, v, F, _, h => (own_int.mp h).2
  | .str x, v, F, _, h => (own_str.mp h).2
  | .exc c, v, F, _, h => by simp only [Own] at h; exact h.2
  | .node hd ds, v, F, hi, h => by
    rw [own_node] at h
    obtain ⟨a, vs, F1, ev, n, o, ef⟩ := h
    simp only [D.imm, Bool.and_eq_true] at hi
    have e := ownL_imm ds vs F1 hi.2 o
    subst e
    rw [ef]
    have : hd.mu = false := by simpa using hi.1
    simp [this]
theorem ownL_imm : ∀ (ds : List D) (vs : List V) (F : List Addr), D.imms ds = true → OwnL G H ds vs F → F = []
  | [], vs, F, _, h => (ownL_nil.mp h).2
  | d :: ds, vs, F, hi, h => by
    rw [ownL_cons] at h
    obtain ⟨v, vr, F1, F2, e1, o1, o2, e2⟩ := h
    simp only [D.imms, Bool.and_eq_true] at hi
    rw [e2, own_imm d v F1 hi.1 o1, ownL_imm ds vr F2 hi.2 o2]
    rfl
end
theorem rd_some {b : Addr} {u : HO} (r : Rd H b u) : ∃ o, H b = some o := r.elim (fun e => ⟨_, e⟩) fun ⟨_, e⟩ => ⟨_, e⟩
theorem nodeAt_there {h : Hd} {a : Addr} {vs : List V} (hm : h.mu = true) (n : NodeAt G H h a vs) : ∃ o, H a = some o := by
  cases h with
  | tup => cases hm
  | fls => cases hm
  | lst => exact ⟨_, n⟩
  | dK ks => obtain ⟨kvs, r, e⟩ := n; exact rd_some r
  | dT ks => obtain ⟨kvs, r, e⟩ := n; exact rd_some r
  | ins => obtain ⟨dx, fs, r, e⟩ := n; exact ⟨_, r⟩
mutual
theorem own_there : ∀ (d : D) (v : V) (F : List Addr), Own G H d v F → ∀ b ∈ F, ∃ o, H b = some o
  | .non, v, F, h => by rw [(own_non.mp h).2]; intro b hb; cases hb
  | .bl b, v, F, h => by rw [(own_bl.mp h).2]; intro b hb; cases hb
  | .int i, v, F, h => by rw [(own_int.mp h).2]; intro b hb; cases hb
  | .str x, v, F, h => by rw [(own_str.mp h).2]; intro b hb; cases hb
  | .exc c, v, F, h => by simp only [Own] at h; rw [h.2]; intro b hb; cases hb
  | .node hd ds, v, F, h => by
    rw [own_node] at h
    obtain ⟨a, vs, F1, ev, n, o, ef⟩ := h
    subst ef
    intro b hb
    cases hm : hd.mu with
    | true =>
      rw [hm] at hb
      rcases List.mem_cons.mp (by simpa using hb) with e | hb
      · subst e; exact nodeAt_there hm n
      · exact ownL_there ds vs F1 o b hb
    | false =>
      rw [hm] at hb
      exact ownL_there ds vs F1 o b (by simpa using hb)
theorem ownL_there : ∀ (ds : List D) (vs : List V) (F : List Addr), OwnL G H ds vs F → ∀ b ∈ F, ∃ o, H b = some o
  | [], vs, F, h => by rw [(ownL_nil.mp h).2]; intro b hb; cases hb
  | d :: ds, vs, F, h => by
    rw [ownL_cons] at h
    obtain ⟨v, vr, F1, F2, e1, o1, o2, e2⟩ := h
    subst e2
    intro b hb
    rcases List.mem_append.mp hb with hb | hb
    · exact own_there d v F1 o1 b hb
    · exact ownL_there ds vr F2 o2 b hb
end
theorem own_same {d : D} {v : V} {F : List Addr} (s : Same H H') (h : Own G H d v F) : Own G H' d v F :=
  own_keep (fun _ _ _ _ => Kp.of fun o e => s _ o e) d v F (fun _ _ => Kp.of fun o e => s _ o e) h
theorem ownL_same {d : List D} {v : List V} {F : List Addr} (s : Same H H') (h : OwnL G H d v F) : OwnL G H' d v F :=
  ownL_keep (fun _ _ _ _ => Kp.of fun o e => s _ o e) d v F (fun _ _ => Kp.of fun o e => s _ o e) h
theorem ownL_len : ∀ {ds : List D} {vs : List V} {F : List Addr}, OwnL G H ds vs F → vs.length = ds.length
  | [], vs, F, h => by rw [(ownL_nil.mp h).1]; rfl
  | d :: ds, vs, F, h => by
    rw [ownL_cons] at h
    obtain ⟨v, vr, F1, F2, e1, o1, o2, e2⟩ := h
    rw [e1, List.length_cons, List.length_cons, ownL_len o2]
theorem ownL_get : ∀ {ds : List D} {vs : List V} {F : List Addr} {i : Nat} {d : D}, OwnL G H ds vs F → ds[i]? = some d → ∃ v F1, vs[i]? = some v ∧ Own G H d v F1 ∧ ∀ b ∈ F1, b ∈ F
  | [], vs, F, i, d, h, e => by simp at e
  | d :: ds, vs, F, i, d', h, e => by
    rw [ownL_cons] at h
    obtain ⟨v, vr, F1, F2, e1, o1, o2, e2⟩ := h
    subst e1 e2
    cases i with
    | zero =>
      simp only [List.getElem?_cons_zero, Option.some.injEq] at e
      subst e
      exact ⟨v, F1, rfl, o1, fun b hb => by simp [hb]⟩
    | succ i =>
      obtain ⟨v', F', a1, a2, a3⟩ := ownL_get (i := i) (d := d') o2 (by simpa using e)
      exact ⟨v', F', by simpa using a1, a2, fun b hb => by simp [a3 b hb]⟩
theorem ownL_append : ∀ {ds ds' : List D} {vs vs' : List V} {F F' : List Addr}, OwnL G H ds vs F → OwnL G H ds' vs' F' → OwnL G H (ds ++ ds') (vs ++ vs') (F ++ F')
  | [], ds', vs, vs', F, F', h, h' => by
    obtain ⟨e1, e2⟩ := ownL_nil.mp h
    subst e1 e2
    exact h'
  | d :: ds, ds', vs, vs', F, F', h, h' => by
    rw [ownL_cons] at h
    obtain ⟨v, vr, F1, F2, e1, o1, o2, e2⟩ := h
    subst e1 e2
    rw [List.cons_append, ownL_cons]
    exact ⟨v, vr ++ vs', F1, F2 ++ F', rfl, o1, ownL_append o2 h', by simp⟩
theorem ownL_one {d : D} {v : V} {F : List Addr} (h : Own G H d v F) : OwnL G H [d] [v] F := by
  rw [ownL_cons]
  exact ⟨v, [], F, [], rfl, h, ownL_nil.mpr ⟨rfl, rfl⟩, by simp⟩
/-- cut at a place -/
theorem ownL_split : ∀ {ds : List D} {vs : List V} {F : List Addr} {i : Nat} {d : D}, OwnL G H ds vs F → ds[i]? = some d →
    ∃ v F1 Fi F2, vs[i]? = some v ∧ F = F1 ++ (Fi ++ F2) ∧ OwnL G H (ds.take i) (vs.take i) F1 ∧ Own G H d v Fi ∧ OwnL G H (ds.drop (i + 1)) (vs.drop (i + 1)) F2
  | [], vs, F, i, d, h, e => by simp at e
  | d :: ds, vs, F, i, d', h, e => by
    rw [ownL_cons] at h
    obtain ⟨v, vr, F1, F2, e1, o1, o2, e2⟩ := h
    subst e1 e2
    cases i with
    | zero =>
      simp only [List.getElem?_cons_zero, Option.some.injEq] at e
      subst e
      exact ⟨v, [], F1, F2, rfl, by simp, ownL_nil.mpr ⟨rfl, rfl⟩, o1, by simpa using o2⟩
    | succ i =>
      obtain ⟨v', G1, Gi, G2, a1, a2, a3, a4, a5⟩ := ownL_split (i := i) (d := d') o2 (by simpa using e)
      subst a2
      refine ⟨v', F1 ++ G1, Gi, G2, by simpa using a1, by simp, ?_, a4, by simpa using a5⟩
      rw [List.take_succ_cons, List.take_succ_cons, ownL_cons]
      exact ⟨v, _, F1, G1, rfl, o1, a3, rfl⟩
theorem set_cut {α : Type} {l : List α} {i : Nat} {x : α} (h : i < l.length) : l.set i x = l.take i ++ ([x] ++ l.drop (i + 1)) := by
  rw [List.set_eq_take_append_cons_drop]
  simp [h]
theorem ownL_take {n : Nat} : ∀ {ds : List D} {vs : List V} {F : List Addr}, OwnL G H ds vs F → ∃ F1, OwnL G H (ds.take n) (vs.take n) F1 ∧ F1.Sublist F := by
  induction n with
  | zero => intro ds vs F h; exact ⟨[], by simp [OwnL], List.nil_sublist _⟩
  | succ n ih =>
    intro ds vs F h
    cases ds with
    | nil =>
      obtain ⟨e1, e2⟩ := ownL_nil.mp h
      subst e1 e2
      exact ⟨[], by simp [OwnL], List.Sublist.refl _⟩
    | cons d ds =>
      rw [ownL_cons] at h
      obtain ⟨v, vr, F1, F2, e1, o1, o2, e2⟩ := h
      subst e1 e2
      obtain ⟨F3, o3, s3⟩ := ih o2
      refine ⟨F1 ++ F3, ?_, (List.Sublist.refl F1).append s3⟩
      rw [List.take_succ_cons, List.take_succ_cons, ownL_cons]
      exact ⟨v, _, F1, F3, rfl, o1, o3, rfl⟩
theorem ownL_drop {n : Nat} : ∀ {ds : List D} {vs : List V} {F : List Addr}, OwnL G H ds vs F → ∃ F1, OwnL G H (ds.drop n) (vs.drop n) F1 ∧ F1.Sublist F := by
  induction n with
  | zero => intro ds vs F h; exact ⟨F, by simpa using h, List.Sublist.refl _⟩
  | succ n ih =>
    intro ds vs F h
    cases ds with
    | nil =>
      obtain ⟨e1, e2⟩ := ownL_nil.mp h
      subst e1 e2
      exact ⟨[], by simp [OwnL], List.Sublist.refl _⟩
    | cons d ds =>
      rw [ownL_cons] at h
      obtain ⟨v, vr, F1, F2, e1, o1, o2, e2⟩ := h
      subst e1 e2
      obtain ⟨F3, o3, s3⟩ := ih o2
      exact ⟨F3, by simpa using o3, s3.trans (List.sublist_append_right F1 F2)⟩
end

/-! ### environments -/
inductive Slot where
  | un | ow (d : D) | ro (d : D)
abbrev Evn := List Slot
def Slot.dat : Slot → Option D
  | .un => none
  | .ow d => some d
  | .ro d => some d
def rdv (ρ : Evn) (i : Nat) : Option D := match ρ[i]? with
  | some s => s.dat
  | none => none
/-- for reading alone -/
structure EnvP (G : Gx) (H : Hp) (σ : St) (ρ : Evn) : Prop where
  len : σ.length = ρ.length
  rd : ∀ (i : Nat) (d : D), rdv ρ i = some d → ∃ v F, σ[i]? = some (some v) ∧ Own G H d v F
structure EnvR (G : Gx) (H : Hp) (σ : St) (ρ : Evn) (f : Nat → List Addr) : Prop where
  len : σ.length = ρ.length
  ow : ∀ (i : Nat) (d : D), ρ[i]? = some (Slot.ow d) → ∃ v, σ[i]? = some (some v) ∧ Own G H d v (f i)
  ro : ∀ (i : Nat) (d : D), ρ[i]? = some (Slot.ro d) → ∃ v F, σ[i]? = some (some v) ∧ Own G H d v F ∧ ∀ a ∈ F, ∀ j, a ∉ f j
  nil : ∀ i : Nat, (∀ d : D, ρ[i]? ≠ some (Slot.ow d)) → f i = []
  nd : ∀ i, (f i).Nodup
  dj : ∀ i j a, a ∈ f i → a ∈ f j → i = j
  un : ∀ i a, a ∈ f i → ∃ o, H a = some o ∧ MutO o
section
variable {G : Gx} {H H' : Hp} {σ σ' : St} {ρ ρ' : Evn} {f f' : Nat → List Addr}
theorem EnvR.p (E : EnvR G H σ ρ f) : EnvP G H σ ρ := by
  refine ⟨E.len, fun i d h => ?_⟩
  unfold rdv at h
  split at h
  · rename_i s hs
    cases s with
    | un => cases h
    | ow d' =>
      cases h
      obtain ⟨v, e, o⟩ := E.ow i d hs
      exact ⟨v, _, e, o⟩
    | ro d' =>
      cases h
      obtain ⟨v, F, e, o, _⟩ := E.ro i d hs
      exact ⟨v, F, e, o⟩
  · cases h
theorem EnvP.same (E : EnvP G H σ ρ) (s : Same H H') : EnvP G H' σ ρ :=
  ⟨E.len, fun i d h => let ⟨v, F, e, o⟩ := E.rd i d h; ⟨v, F, e, own_same s o⟩⟩
theorem EnvR.same (E : EnvR G H σ ρ f) (s : Same H H') : EnvR G H' σ ρ f :=
  ⟨E.len, fun i d h => let ⟨v, e, o⟩ := E.ow i d h; ⟨v, e, own_same s o⟩, fun i d h => let ⟨v, F, e, o, q⟩ := E.ro i d h; ⟨v, F, e, own_same s o, q⟩, E.nil, E.nd, E.dj,
    fun i a h => let ⟨o, e, m⟩ := E.un i a h; ⟨o, s _ _ e, m⟩⟩
def Fm (f : Nat → List Addr) (a : Addr) : Prop := ∃ i, a ∈ f i
def Step (M : Addr → Prop) (H H' : Hp) : Prop := ∀ a o, H a = some o → (M a → ImmO o) → H' a = some o
theorem Step.same {M : Addr → Prop} (s : Same H H') : Step M H H' := fun a o e _ => s a o e
theorem Step.own {M : Addr → Prop} {d : D} {v : V} {F : List Addr} (s : Step M H H') (hf : ∀ a ∈ F, ¬ M a) (h : Own G H d v F) : Own G H' d v F :=
  own_keep (fun b o e im => Kp.of fun o' e' => s _ _ e' fun _ => by rw [e] at e'; cases e'; exact im) d v F (fun b hb => Kp.of fun o' e' => s _ _ e' fun m => absurd m (hf b hb)) h
theorem Step.ownL {M : Addr → Prop} {d : List D} {v : List V} {F : List Addr} (s : Step M H H') (hf : ∀ a ∈ F, ¬ M a) (h : OwnL G H d v F) : OwnL G H' d v F :=
  ownL_keep (fun b o e im => Kp.of fun o' e' => s _ _ e' fun _ => by rw [e] at e'; cases e'; exact im) d v F (fun b hb => Kp.of fun o' e' => s _ _ e' fun m => absurd m (hf b hb)) h
/-- a stretch of statements: what may change, what is new, which slots stay -/
structure Lk (T : List Nat) (f : Nat → List Addr) (σ : St) (H : Hp) (f' : Nat → List Addr) (σ' : St) (H' : Hp) : Prop where
  step : Step (Fm f) H H'
  new : ∀ a, Fm f' a → Fm f a ∨ H a = none
  keep : ∀ j, j ∉ T → σ'[j]? = σ[j]?
theorem Lk.refl {T : List Nat} : Lk T f σ H f σ H := ⟨fun _ _ e _ => e, fun _ h => .inl h, fun _ _ => rfl⟩
theorem Lk.mono {T T' : List Nat} (l : Lk T f σ H f' σ' H') (h : ∀ j, j ∈ T → j ∈ T') : Lk T' f σ H f' σ' H' := ⟨l.step, l.new, fun j hj => l.keep j fun z => hj (h j z)⟩
theorem Lk.free {T : List Nat} (l : Lk T f σ H f' σ' H') {a : Addr} (h : H' a = none) : Fm f a ∨ H a = none := by
  cases e : H a with
  | none => exact .inr rfl
  | some o =>
    by_cases m : Fm f a
    · exact .inl m
    · have := l.step a o e fun z => absurd z m
      rw [h] at this; cases this
theorem Lk.trans {T T' : List Nat} {f1 f2 : Nat → List Addr} {σ1 σ2 : St} {H1 H2 : Hp} (a : Lk T f σ H f1 σ1 H1) (b : Lk T' f1 σ1 H1 f2 σ2 H2) : Lk (T ++ T') f σ H f2 σ2 H2 := by
  refine ⟨fun x o e m => ?_, fun x h => ?_, fun j hj => ?_⟩
  · refine b.step x o (a.step x o e m) fun z => ?_
    rcases a.new x z with z | z
    · exact m z
    · rw [e] at z; cases z
  · rcases b.new x h with z | z
    · exact a.new x z
    · exact a.free z
  · rw [b.keep j (fun z => hj (List.mem_append_right _ z)), a.keep j (fun z => hj (List.mem_append_left _ z))]
theorem Lk.same {T : List Nat} (s : Same H H') : Lk T f σ H f σ H' := ⟨Step.same s, fun _ h => .inl h, fun _ _ => rfl⟩
end
end Rs

set_option maxRecDepth 100000
/-! Rs1: pure expressions. -/
namespace Rs
open PySem PySem.Spec PyProof.Rows L2

inductive R (α : Type) where
  | ok (a : α) | exc (c : Nat) | no
def R.bind {α β : Type} (r : R α) (k : α → R β) : R β := match r with
  | .ok a => k a
  | .exc c => .exc c
  | .no => .no
@[simp] theorem R.bind_ok {α β : Type} (a : α) (k : α → R β) : R.bind (.ok a) k = k a := rfl
@[simp] theorem R.bind_exc {α β : Type} (c : Nat) (k : α → R β) : R.bind (.exc c) k = .exc c := rfl
@[simp] theorem R.bind_no {α β : Type} (k : α → R β) : R.bind .no k = .no := rfl

def SatG {α : Type} (G : Gx) (W : WX) (P : α → Prop) (σ : St) (H : Hp) : R α → Prop
  | .ok d => P d
  | .exc c => ∀ H', Same H H' → W (.ref (G.cls c)) none σ H'
  | .no => False
/-- readable -/
abbrev SatE (G : Gx) (W : WX) (r : R D) (σ : St) (H : Hp) (Q : VK) : Prop := SatG G W (fun d => ∀ v H' F, Same H H' → Own G H' d v F → Q v H') σ H r
/-- fresh -/
abbrev SatF (G : Gx) (W : WX) (r : R D) (σ : St) (H : Hp) (Q : VK) : Prop := SatG G W (fun d => ∀ v H' F, Same H H' → Own G H' d v F → F.Nodup → (∀ a ∈ F, H a = none ∧ ∃ o, H' a = some o ∧ MutO o) → Q v H') σ H r
abbrev SatA (G : Gx) (W : WX) (r : R (List D)) (σ : St) (H : Hp) (Q : List V → Hp → Prop) : Prop := SatG G W (fun ds => ∀ vs H' F, Same H H' → OwnL G H' ds vs F → Q vs H') σ H r
abbrev SatAF (G : Gx) (W : WX) (r : R (List D)) (σ : St) (H : Hp) (Q : List V → Hp → Prop) : Prop := SatG G W (fun ds => ∀ vs H' F, Same H H' → OwnL G H' ds vs F → F.Nodup → (∀ a ∈ F, H a = none ∧ ∃ o, H' a = some o ∧ MutO o) → Q vs H') σ H r
abbrev SatT (G : Gx) (W : WX) (r : R Bool) (σ : St) (H : Hp) (Q : Bool → Hp → Prop) : Prop := SatG G W (fun b => ∀ H', Same H H' → Q b H') σ H r

def tE (G : Gx) (W : WX) (m : Evn → R D) : TE := fun σ H Q => ∃ ρ, EnvP G H σ ρ ∧ SatE G W (m ρ) σ H Q
def tF (G : Gx) (W : WX) (m : Evn → R D) : TE := fun σ H Q => ∃ ρ, EnvP G H σ ρ ∧ SatF G W (m ρ) σ H Q
def tA (G : Gx) (W : WX) (m : Evn → R (List D)) : TA := fun σ H Q => ∃ ρ, EnvP G H σ ρ ∧ SatA G W (m ρ) σ H Q
def tAF (G : Gx) (W : WX) (m : Evn → R (List D)) : TA := fun σ H Q => ∃ ρ, EnvP G H σ ρ ∧ SatAF G W (m ρ) σ H Q
def tT (G : Gx) (W : WX) (m : Evn → R Bool) : TT := fun σ H Q => ∃ ρ, EnvP G H σ ρ ∧ SatT G W (m ρ) σ H Q
abbrev SE (G : Gx) (X : Cx) (W : WX) (m : Evn → R D) (e : Expr) : Prop := PE X e (tE G W m)
abbrev SF (G : Gx) (X : Cx) (W : WX) (m : Evn → R D) (e : Expr) : Prop := PE X e (tF G W m)
abbrev SA (G : Gx) (X : Cx) (W : WX) (m : Evn → R (List D)) (e : List Expr) : Prop := PA X e (tA G W m)
abbrev SAF (G : Gx) (X : Cx) (W : WX) (m : Evn → R (List D)) (e : List Expr) : Prop := PA X e (tAF G W m)
abbrev ST (G : Gx) (X : Cx) (W : WX) (m : Evn → R Bool) (e : Expr) : Prop := PT X e (tT G W m)

theorem PE.imp {X : Cx} {e : Expr} {t t' : TE} (h : PE X e t) (i : ∀ σ H Q, t' σ H Q → t σ H Q) : PE X e t' := ⟨fun pins s σ H Q I q => h.run pins s σ H Q I (i _ _ _ q)⟩
theorem PT.imp {X : Cx} {e : Expr} {t t' : TT} (h : PT X e t) (i : ∀ σ H Q, t' σ H Q → t σ H Q) : PT X e t' := ⟨fun pins s σ H Q I q => h.run pins s σ H Q I (i _ _ _ q)⟩
theorem PA.imp {X : Cx} {e : List Expr} {t t' : TA} (h : PA X e t) (i : ∀ σ H Q, t' σ H Q → t σ H Q) : PA X e t' := ⟨fun pos pins s σ H Q I q => h.run pos pins s σ H Q I (i _ _ _ q)⟩
theorem PS.imp {X : Cx} {e : Stmt} {t t' : TS} (h : PS X e t) (i : ∀ D σ H, t' D σ H → t D σ H) : PS X e t' := ⟨fun pins s σ H D I q => h.run pins s σ H D I (i _ _ _ q)⟩
theorem PSs.imp {X : Cx} {e : List Stmt} {t t' : TS} (h : PSs X e t) (i : ∀ D σ H, t' D σ H → t D σ H) : PSs X e t' := ⟨fun pins s σ H D I q => h.run pins s σ H D I (i _ _ _ q)⟩

section
variable {α β : Type} {G : Gx} {W : WX} {σ : St} {H H' : Hp}
theorem SatG.imp {P Q : α → Prop} {r : R α} (h : SatG G W P σ H r) (i : ∀ a, r = .ok a → P a → Q a) : SatG G W Q σ H r := by
  cases r with
  | ok a => exact i a rfl h
  | exc c => exact h
  | no => exact h
theorem SatG.later {P : α → Prop} {r : R α} (h : SatG G W P σ H r) (s : Same H H') : SatG G W P σ H' r := by
  cases r with
  | ok a => exact h
  | exc c => exact fun H2 s2 => h H2 (s.trans s2)
  | no => exact h
theorem SatG.bind {P : β → Prop} {r : R α} {k : α → R β} (h : SatG G W P σ H (r.bind k)) : SatG G W (fun a => r = .ok a ∧ SatG G W P σ H (k a)) σ H r := by
  cases r with
  | ok a => exact ⟨rfl, h⟩
  | exc c => exact h
  | no => exact h
theorem Same.fresh {a : Addr} (s : Same H H') (h : H' a = none) : H a = none := s.free h
end

section
variable {G : Gx} {X : Cx} {W : WX} {e a b : Expr} {pos : Pos} {m ma mb : Evn → R D}
theorem se_sf (h : SF G X W m e) : SE G X W m e := PE.imp h fun σ H Q ⟨ρ, E, s⟩ => ⟨ρ, E, s.imp fun d _ p v H' F s o _ _ => p v H' F s o⟩
def mImm (m : Evn → R D) : Evn → R D := fun ρ => (m ρ).bind fun d => if d.imm = true then .ok d else .no
theorem sf_imm (h : SE G X W m e) : SF G X W (mImm m) e := PE.imp h fun σ H Q ⟨ρ, E, s⟩ => ⟨ρ, E, by
  refine (SatG.bind s).imp fun d _ ⟨_, p⟩ v H' F sm o => ?_
  by_cases hi : d.imm = true
  · rw [if_pos hi] at p
    have e := own_imm d v F hi o
    exact p v H' F sm o (by rw [e]; exact List.nodup_nil) (by rw [e]; intro a ha; cases ha)
  · rw [if_neg hi] at p
    exact p.elim⟩
/-- results that are surely plain -/
theorem sf_of (h : SE G X W m e) (hi : ∀ ρ d, m ρ = .ok d → d.imm = true) : SF G X W m e := PE.imp h fun σ H Q ⟨ρ, E, s⟩ => ⟨ρ, E, by
  refine SatG.imp s fun d ed p v H' F sm o => ?_
  have e := own_imm d v F (hi ρ d ed) o
  exact p v H' F sm o (by rw [e]; exact List.nodup_nil) (by rw [e]; intro a ha; cases ha)⟩

/-! ### names, constants -/
def mVar (i : Nat) : Evn → R D := fun ρ => match rdv ρ i with
  | some d => .ok d
  | none => .no
theorem se_var (i : Nat) {x : Str} (hN : X.N[i]? = some x := by rfl) (hv : Vis X.env.scope x := by first | exact Or.inl rfl | exact Or.inr (Or.inl rfl) | exact Or.inr (Or.inr rfl))
    (hd : (x == ("__debug__" : Str)) = false := by decide) (hcd : (x == ("__classdict__" : Str)) = false := by decide) : SE G X W (mVar i) (.Name x pos) := by
  refine PE.imp (pe_var hN hv hd hcd) fun σ H Q ⟨ρ, E, s⟩ => ?_
  unfold mVar at s
  cases h : rdv ρ i with
  | none => rw [h] at s; exact s.elim
  | some d =>
    rw [h] at s
    obtain ⟨v, F, e, o⟩ := E.rd i d h
    exact ⟨v, e, s v H F (Same.refl H) o⟩
def mC (d : D) : Evn → R D := fun _ => .ok d
theorem sf_int {i : Int} {j : Nat} : SF G X W (mC (.int i)) (.Constant (.int i) j pos) := PE.imp pe_int fun σ H Q ⟨ρ, E, s⟩ => s _ H [] (Same.refl H) (own_int.mpr ⟨rfl, rfl⟩) List.nodup_nil (fun a ha => by cases ha)
theorem sf_bl {i : Bool} {j : Nat} : SF G X W (mC (.bl i)) (.Constant (.bool i) j pos) := PE.imp pe_bl fun σ H Q ⟨ρ, E, s⟩ => s _ H [] (Same.refl H) (own_bl.mpr ⟨rfl, rfl⟩) List.nodup_nil (fun a ha => by cases ha)
theorem sf_str {i : Str} {j : Nat} : SF G X W (mC (.str i)) (.Constant (.str i) j pos) := PE.imp pe_str fun σ H Q ⟨ρ, E, s⟩ => s _ H [] (Same.refl H) (own_str.mpr ⟨rfl, rfl⟩) List.nodup_nil (fun a ha => by cases ha)
theorem sf_non {j : Nat} : SF G X W (mC .non) (.Constant .none j pos) := PE.imp pe_non fun σ H Q ⟨ρ, E, s⟩ => s _ H [] (Same.refl H) (own_non.mpr ⟨rfl, rfl⟩) List.nodup_nil (fun a ha => by cases ha)
/-- a module's number -/
theorem sf_gint {x : Str} {i : Int} {t : Tok} (hg : Gl X x) (hm : X.mg x = some (.int i t)) (hd : (x == ("__debug__" : Str)) = false := by decide) : SF G X W (mC (.int i)) (.Name x pos) :=
  PE.imp (pe_glob (v := .int i) hg hm ⟨_, rfl⟩ hd) fun σ H Q ⟨ρ, E, s⟩ => s _ H [] (Same.refl H) (own_int.mpr ⟨rfl, rfl⟩) List.nodup_nil (fun a ha => by cases ha)

/-! ### argument lists -/
def mNil : Evn → R (List D) := fun _ => .ok []
def mCons (m : Evn → R D) (ms : Evn → R (List D)) : Evn → R (List D) := fun ρ => (m ρ).bind fun d => (ms ρ).bind fun ds => .ok (d :: ds)
variable {es : List Expr} {ms : Evn → R (List D)}
theorem sa_nil : SA G X W mNil [] := PA.imp pa_nil fun σ H Q ⟨ρ, E, s⟩ => s [] H [] (Same.refl H) (ownL_nil.mpr ⟨rfl, rfl⟩)
theorem saf_nil : SAF G X W mNil [] := PA.imp pa_nil fun σ H Q ⟨ρ, E, s⟩ => s [] H [] (Same.refl H) (ownL_nil.mpr ⟨rfl, rfl⟩) List.nodup_nil fun a ha => by cases ha
theorem sa_cons (h : SE G X W m e) (hs : SA G X W ms es) (hst : starEach (e :: es) X.env = (false, eval e X.env) :: starEach es X.env := by rfl) : SA G X W (mCons m ms) (e :: es) :=
  PA.imp (pa_cons h hs hst) fun σ H Q ⟨ρ, E, s⟩ => ⟨ρ, E, by
    refine (SatG.bind s).imp fun d _ ⟨_, p⟩ v H1 F sm o => ⟨ρ, E.same sm, ?_⟩
    refine ((SatG.bind p).imp fun ds _ ⟨_, q⟩ => ?_).later sm
    intro vs H2 F2 sm2 o2
    exact q (v :: vs) H2 (F ++ F2) (sm.trans sm2) (ownL_cons.mpr ⟨v, vs, F, F2, rfl, own_same sm2 o, o2, rfl⟩)⟩
theorem saf_cons (h : SF G X W m e) (hs : SAF G X W ms es) (hst : starEach (e :: es) X.env = (false, eval e X.env) :: starEach es X.env := by rfl) : SAF G X W (mCons m ms) (e :: es) :=
  PA.imp (pa_cons h hs hst) fun σ H Q ⟨ρ, E, s⟩ => ⟨ρ, E, by
    refine (SatG.bind s).imp fun d _ ⟨_, p⟩ v H1 F sm o nd fr => ⟨ρ, E.same sm, ?_⟩
    refine ((SatG.bind p).imp fun ds _ ⟨_, q⟩ => ?_).later sm
    intro vs H2 F2 sm2 o2 nd2 fr2
    refine q (v :: vs) H2 (F ++ F2) (sm.trans sm2) (ownL_cons.mpr ⟨v, vs, F, F2, rfl, own_same sm2 o, o2, rfl⟩) ?_ ?_
    · refine List.nodup_append.mpr ⟨nd, nd2, fun x hx y hy exy => ?_⟩
      subst exy
      obtain ⟨o', e', _⟩ := (fr x hx).2
      rw [(fr2 x hy).1] at e'; cases e'
    · intro x hx
      rcases List.mem_append.mp hx with hx | hx
      · obtain ⟨n, o', e', mo⟩ := fr x hx
        exact ⟨n, o', sm2 _ _ e', mo⟩
      · obtain ⟨n, q'⟩ := fr2 x hx
        exact ⟨sm.free n, q'⟩⟩
theorem upd_new {H : Hp} {p : Addr} {o : HO} (hp : H p = none) : Same H (upd H p o) := fun b u e => by rw [upd_ne (ne_of_none e hp)]; exact e
/-- a new object -/
theorem own_new {H : Hp} {p : Addr} {o : HO} {h : Hd} {ds : List D} {vs : List V} {F : List Addr} (hp : H p = none) (ol : OwnL G H ds vs F) (hn : NodeAt G (upd H p o) h p vs) : Own G (upd H p o) (.node h ds) (.ref p) (if h.mu then p :: F else F) :=
  own_node.mpr ⟨p, vs, F, rfl, hn, ownL_same (upd_new hp) ol, rfl⟩
theorem not_in_new {H : Hp} {p : Addr} {ds : List D} {vs : List V} {F : List Addr} (hp : H p = none) (ol : OwnL G H ds vs F) : p ∉ F := fun h => by
  obtain ⟨o, e⟩ := ownL_there ds vs F ol p h
  rw [hp] at e; cases e
def mTup (ms : Evn → R (List D)) : Evn → R D := fun ρ => (ms ρ).bind fun ds => if ds.length ≤ 1000 then .ok (.node .tup ds) else .no
def mLst (ms : Evn → R (List D)) : Evn → R D := fun ρ => (ms ρ).bind fun ds => if ds.length ≤ 1000 then .ok (.node .lst ds) else .no
theorem line1000 : 1000 ≤ sizeLine := by rw [sizeLine_eq]; decide
theorem sf_tup {x1 : Nat} (h : SAF G X W ms es) : SF G X W (mTup ms) (.Tuple es x1 pos) := PE.imp (pe_tup h) fun σ H Q ⟨ρ, E, s⟩ => ⟨ρ, E, by
  refine (SatG.bind s).imp fun ds _ ⟨_, p⟩ vs H1 F sm o nd fr => ?_
  by_cases hl : ds.length ≤ 1000
  · rw [if_pos hl] at p
    refine ⟨by rw [ownL_len o]; exact Nat.le_trans hl line1000, fun q hq => ?_⟩
    refine p (.ref q) _ F (sm.trans (upd_new hq)) (by have := own_new (h := .tup) (o := .tup vs) hq o upd_same; simpa [Hd.mu] using this) nd fun x hx => ?_
    obtain ⟨n, o', e', mo⟩ := fr x hx
    exact ⟨n, o', upd_new hq _ _ e', mo⟩
  · rw [if_neg hl] at p
    exact p.elim⟩
theorem sf_lst (h : SAF G X W ms es) : SF G X W (mLst ms) (.List es pos) := PE.imp (pe_lst h) fun σ H Q ⟨ρ, E, s⟩ => ⟨ρ, E, by
  refine (SatG.bind s).imp fun ds _ ⟨_, p⟩ vs H1 F sm o nd fr => ?_
  by_cases hl : ds.length ≤ 1000
  · rw [if_pos hl] at p
    refine ⟨by rw [ownL_len o]; exact Nat.le_trans hl line1000, fun q hq => ?_⟩
    refine p (.ref q) _ (q :: F) (sm.trans (upd_new hq)) (by have := own_new (h := .lst) (o := .lst vs) hq o upd_same; simpa [Hd.mu] using this) (List.nodup_cons.mpr ⟨not_in_new hq o, nd⟩) fun x hx => ?_
    rcases List.mem_cons.mp hx with hx | hx
    · subst hx
      exact ⟨sm.free hq, _, upd_same, trivial⟩
    · obtain ⟨n, o', e', mo⟩ := fr x hx
      exact ⟨n, o', upd_new hq _ _ e', mo⟩
  · rw [if_neg hl] at p
    exact p.elim⟩
def mDK : Evn → R D := fun _ => .ok (.node (.dK []) [])
def mDT : Evn → R D := fun _ => .ok (.node (.dT []) [])
theorem sf_dK : SF G X W mDK (.Dict [] [] pos) := PE.imp pe_dnewK fun σ H Q ⟨ρ, E, s⟩ p hp =>
  s (.ref p) _ [p] (upd_new hp) (own_node.mpr ⟨p, [], [], rfl, ⟨[], .inl upd_same, rfl, rfl⟩, ownL_nil.mpr ⟨rfl, rfl⟩, rfl⟩) (by simp) fun a ha => by
    have : a = p := by simpa using ha
    subst this
    exact ⟨hp, _, upd_same, trivial⟩
theorem sf_dT : SF G X W mDT (.Dict [] [] pos) := PE.imp pe_dnewT fun σ H Q ⟨ρ, E, s⟩ p hp =>
  s (.ref p) _ [p] (upd_new hp) (own_node.mpr ⟨p, [], [], rfl, ⟨[], .inl upd_same, rfl, rfl⟩, ownL_nil.mpr ⟨rfl, rfl⟩, rfl⟩) (by simp) fun a ha => by
    have : a = p := by simpa using ha
    subst this
    exact ⟨hp, _, upd_same, trivial⟩

/-! ### operators -/
/-- a rule by values serves a function on data -/
def OpD (G : Gx) (r : R2) (g : D → D → R D) : Prop := ∀ (d1 d2 : D) (v1 v2 : V) (F1 F2 : List Addr) (H : Hp) (Q : VK), Own G H d1 v1 F1 → Own G H d2 v2 F2 → SatF G (fun _ _ _ _ => False) (g d1 d2) [] H Q → r v1 v2 H Q
def UnD (G : Gx) (r : V → Hp → VK → Prop) (g : D → R D) : Prop := ∀ (d1 : D) (v1 : V) (F1 : List Addr) (H : Hp) (Q : VK), Own G H d1 v1 F1 → SatF G (fun _ _ _ _ => False) (g d1) [] H Q → r v1 H Q
def mBin (g : D → D → R D) (a b : Evn → R D) : Evn → R D := fun ρ => (a ρ).bind fun x => (b ρ).bind fun y => match g x y with
  | .ok d => .ok d
  | _ => .no
def mUn (g : D → R D) (a : Evn → R D) : Evn → R D := fun ρ => (a ρ).bind fun x => match g x with
  | .ok d => .ok d
  | _ => .no
/-- the readings of two operands -/
theorem t2_of {g : D → D → R D} {r : R2} (hd : OpD G r g) {σ : St} {H : Hp} {Q : VK} {ρ : Evn} (E : EnvP G H σ ρ) (s : SatF G W (mBin g ma mb ρ) σ H Q) :
    tOp r (tE G W ma) (tE G W mb) σ H Q := by
  refine ⟨ρ, E, (SatG.bind s).imp fun d1 _ ⟨_, p⟩ v1 H1 F1 sm1 o1 => ⟨ρ, E.same sm1, ?_⟩⟩
  refine ((SatG.bind p).imp fun d2 _ ⟨_, q⟩ v2 H2 F2 sm2 o2 => ?_).later sm1
  refine hd d1 d2 v1 v2 F1 F2 H2 Q (own_same sm2 o1) o2 ?_
  cases hg : g d1 d2 with
  | ok d =>
    rw [hg] at q
    intro v H' F sm o nd fr
    exact q v H' F ((sm1.trans sm2).trans sm) o nd fun a ha => ⟨sm1.free (sm2.free (fr a ha).1), (fr a ha).2⟩
  | exc c => rw [hg] at q; exact q.elim
  | no => rw [hg] at q; exact q.elim
theorem sf_bin {op : Operator} {g : D → D → R D} {r : R2} (ho : OpR X (binaryOp op) r) (hd : OpD G r g) (ha : SE G X W ma a) (hb : SE G X W mb b) : SF G X W (mBin g ma mb) (.BinOp a op b pos) :=
  PE.imp (pe_op ho ha hb) fun σ H Q ⟨ρ, E, s⟩ => t2_of hd E s
theorem sf_cmp {op : CmpOp} {g : D → D → R D} {r : R2} (ho : OpR X (compareOp op) r) (hd : OpD G r g) (ha : SE G X W ma a) (hb : SE G X W mb b) (hm : behindInMarks op b = false) : SF G X W (mBin g ma mb) (.Compare a [op] [b] pos) :=
  PE.imp (pe_cmpR ho ha hb hm) fun σ H Q ⟨ρ, E, s⟩ => t2_of hd E s
theorem sf_un {op : UnaryOp} {g : D → R D} {r : V → Hp → VK → Prop} (ho : UnR X (unaryOp op) r) (hd : UnD G r g) (ha : SE G X W ma a) : SF G X W (mUn g ma) (.UnaryOp op a pos) :=
  PE.imp (pe_un ho ha) fun σ H Q ⟨ρ, E, s⟩ => ⟨ρ, E, by
    refine (SatG.bind s).imp fun d1 _ ⟨_, q⟩ v1 H1 F1 sm1 o1 => ?_
    refine hd d1 v1 F1 H1 Q o1 ?_
    cases hg : g d1 with
    | ok d =>
      rw [hg] at q
      intro v H' F sm o nd fr
      exact q v H' F (sm1.trans sm) o nd fun a ha => ⟨sm1.free (fr a ha).1, (fr a ha).2⟩
    | exc c => rw [hg] at q; exact q.elim
    | no => rw [hg] at q; exact q.elim⟩
/-! ### tests -/
def mTest (m : Evn → R D) : Evn → R Bool := fun ρ => (m ρ).bind fun d => match d with
  | .bl b => .ok b
  | _ => .no
theorem satT_of {σ : St} {H : Hp} {Q : Bool → Hp → Prop} {ρ : Evn} (s : SatT G W (mTest m ρ) σ H Q) : SatE G W (m ρ) σ H fun x H' => ∃ k, x = .bl k ∧ Q k H' := by
  refine (SatG.bind s).imp fun d _ ⟨_, p⟩ v H1 F sm o => ?_
  cases d with
  | bl b =>
    obtain ⟨rfl, _⟩ := own_bl.mp o
    exact ⟨b, rfl, p H1 sm⟩
  | non => exact p.elim
  | int _ => exact p.elim
  | str _ => exact p.elim
  | exc _ => exact p.elim
  | node _ _ => exact p.elim
theorem st_cmp {op : CmpOp} {g : D → D → R D} {r : R2} (ho : OpR X (compareOp op) r) (hd : OpD G r g) (ha : SE G X W ma a) (hb : SE G X W mb b) (hm : behindInMarks op b = false) : ST G X W (mTest (mBin g ma mb)) (.Compare a [op] [b] pos) :=
  PT.imp (pt_cmpR ho ha hb hm) fun σ H Q ⟨ρ, E, s⟩ => t2_of hd E ((satT_of s).imp fun d _ p v H' F s o _ _ => p v H' F s o)
theorem st_val (h : SE G X W m e) (he : ∀ whole, isTrue e X.env whole = (do let v ← whole; standAt e.pos; holding [v] (truthy v)) := by intro _; rfl) : ST G X W (mTest m) e :=
  PT.imp (pt_val h he) fun σ H Q ⟨ρ, E, s⟩ => ⟨ρ, E, satT_of s⟩
def cAnd (a b : Evn → R Bool) : Evn → R Bool := fun ρ => (a ρ).bind fun x => if x = true then b ρ else .ok false
def cOr (a b : Evn → R Bool) : Evn → R Bool := fun ρ => (a ρ).bind fun x => if x = true then .ok true else b ρ
def cNot (a : Evn → R Bool) : Evn → R Bool := fun ρ => (a ρ).bind fun x => .ok (!x)
abbrev SW (G : Gx) (X : Cx) (W : WX) (m : Evn → R Bool) (e : Expr) : Prop := PW X e (tT G W m)
theorem PW.imp {X : Cx} {e : Expr} {t t' : TT} (h : PW X e t) (i : ∀ σ H Q, t' σ H Q → t σ H Q) : PW X e t' := ⟨fun wh pins s σ H Q I q => h.run wh pins s σ H Q I (i _ _ _ q)⟩
variable {ca cb : Evn → R Bool} {rest : List Expr}
theorem sw_and1 (ha : ST G X W ca a) : SW G X W ca (.BoolOp .And [a] pos) := pw_and1 ha
theorem sw_or1 (ha : ST G X W ca a) : SW G X W ca (.BoolOp .Or [a] pos) := pw_or1 ha
theorem sw_and (ha : ST G X W ca a) (hb : SW G X W cb (.BoolOp .And (b :: rest) pos)) : SW G X W (cAnd ca cb) (.BoolOp .And (a :: b :: rest) pos) :=
  PW.imp (pw_and ha hb) fun σ H Q ⟨ρ, E, s⟩ => ⟨ρ, E, by
    refine (SatG.bind s).imp fun x _ ⟨_, p⟩ H1 sm => ?_
    cases x with
    | true => exact ⟨ρ, E.same sm, (SatG.imp p fun y _ q H2 s2 => q H2 (sm.trans s2)).later sm⟩
    | false => exact p H1 sm⟩
theorem sw_or (ha : ST G X W ca a) (hb : SW G X W cb (.BoolOp .Or (b :: rest) pos)) : SW G X W (cOr ca cb) (.BoolOp .Or (a :: b :: rest) pos) :=
  PW.imp (pw_or ha hb) fun σ H Q ⟨ρ, E, s⟩ => ⟨ρ, E, by
    refine (SatG.bind s).imp fun x _ ⟨_, p⟩ H1 sm => ?_
    cases x with
    | false => exact ⟨ρ, E.same sm, (SatG.imp p fun y _ q H2 s2 => q H2 (sm.trans s2)).later sm⟩
    | true => exact p H1 sm⟩
theorem st_w (h : SW G X W ca e) : ST G X W ca e := h.pt
theorem st_not (ha : ST G X W ca a) : ST G X W (cNot ca) (.UnaryOp .Not a pos) :=
  PT.imp (pt_not ha) fun σ H Q ⟨ρ, E, s⟩ => ⟨ρ, E, (SatG.bind s).imp fun x _ ⟨_, p⟩ H1 sm => p H1 sm⟩
/-! ### and, or, not as values -/
def mAnd (a b : Evn → R D) : Evn → R D := fun ρ => (mTest a ρ).bind fun x => if x = true then b ρ else .ok (.bl false)
def mOr (a b : Evn → R D) : Evn → R D := fun ρ => (mTest a ρ).bind fun x => if x = true then .ok (.bl true) else b ρ
def mNot (a : Evn → R D) : Evn → R D := fun ρ => (mTest a ρ).bind fun x => .ok (.bl (!x))
theorem se_one {op : BoolOp} (h : SE G X W m a) : SE G X W m (.BoolOp op [a] pos) := pe_one h
theorem satE_test {σ : St} {H : Hp} {Q : VK} {ρ : Evn} {k : Bool → R D} (s : SatE G W ((mTest m ρ).bind k) σ H Q) : SatE G W (m ρ) σ H fun x H1 => ∃ c, x = .bl c ∧ SatE G W (k c) σ H1 Q := by
  refine satT_of (SatG.imp (SatG.bind s) fun x _ ⟨_, p⟩ H1 sm => ?_)
  exact (SatG.imp p fun d _ q v H2 F s2 o => q v H2 F (sm.trans s2) o).later sm
theorem se_and (ha : SE G X W ma a) (hb : SE G X W mb (.BoolOp .And (b :: rest) pos)) : SE G X W (mAnd ma mb) (.BoolOp .And (a :: b :: rest) pos) :=
  PE.imp (pe_and ha hb) fun σ H Q ⟨ρ, E, s⟩ => ⟨ρ, E, (satE_test s).imp fun d _ p v H1 F sm o => by
    obtain ⟨c, e, q⟩ := p v H1 F sm o
    refine ⟨c, e, ?_⟩
    cases c with
    | true => exact ⟨ρ, E.same sm, q⟩
    | false => exact q (.bl false) H1 [] (Same.refl _) (own_bl.mpr ⟨rfl, rfl⟩)⟩
theorem se_or (ha : SE G X W ma a) (hb : SE G X W mb (.BoolOp .Or (b :: rest) pos)) : SE G X W (mOr ma mb) (.BoolOp .Or (a :: b :: rest) pos) :=
  PE.imp (pe_or ha hb) fun σ H Q ⟨ρ, E, s⟩ => ⟨ρ, E, (satE_test s).imp fun d _ p v H1 F sm o => by
    obtain ⟨c, e, q⟩ := p v H1 F sm o
    refine ⟨c, e, ?_⟩
    cases c with
    | false => exact ⟨ρ, E.same sm, q⟩
    | true => exact q (.bl true) H1 [] (Same.refl _) (own_bl.mpr ⟨rfl, rfl⟩)⟩
theorem se_not (ha : SE G X W ma a) : SE G X W (mNot ma) (.UnaryOp .Not a pos) :=
  PE.imp (pe_not ha) fun σ H Q ⟨ρ, E, s⟩ => ⟨ρ, E, (satE_test s).imp fun d _ p v H1 F sm o => by
    obtain ⟨c, e, q⟩ := p v H1 F sm o
    exact ⟨c, e, q (.bl (!c)) H1 [] (Same.refl _) (own_bl.mpr ⟨rfl, rfl⟩)⟩⟩
end
end Rs

set_option maxRecDepth 100000
/-! Rs2: operations on data. -/
namespace Rs
open PySem PySem.Spec PyProof.Rows L2

abbrev W0 : WX := fun _ _ _ _ => False
section
variable {G : Gx} {W : WX} {σ : St} {H : Hp} {Q : VK}
theorem leaf {d : D} {v : V} (s : SatF G W (.ok d) σ H Q) (o : Own G H d v []) : Q v H := s v H [] (Same.refl H) o List.nodup_nil fun a ha => by cases ha
theorem leaf_int {i : Int} (s : SatF G W (.ok (.int i)) σ H Q) : Q (.int i) H := leaf s (own_int.mpr ⟨rfl, rfl⟩)
theorem leaf_bl {i : Bool} (s : SatF G W (.ok (.bl i)) σ H Q) : Q (.bl i) H := leaf s (own_bl.mpr ⟨rfl, rfl⟩)
/-- a new list of plain items -/
theorem new_lst {ds : List D} {vs : List V} {F : List Addr} (s : SatF G W (.ok (.node .lst ds)) σ H Q) (hi : D.imms ds = true) (o : OwnL G H ds vs F) : ∀ p, H p = none → Q (.ref p) (upd H p (.lst vs)) := fun p hp => by
  have e := ownL_imm ds vs F hi o
  subst e
  refine s (.ref p) _ [p] (upd_new hp) (own_new (h := .lst) hp o upd_same) (by simp) fun a ha => ?_
  have : a = p := by simpa using ha
  subst this
  exact ⟨hp, _, upd_same, trivial⟩
theorem new_tup {ds : List D} {vs : List V} {F : List Addr} (s : SatF G W (.ok (.node .tup ds)) σ H Q) (hi : D.imms ds = true) (o : OwnL G H ds vs F) : ∀ p, H p = none → Q (.ref p) (upd H p (.tup vs)) := fun p hp => by
  have e := ownL_imm ds vs F hi o
  subst e
  exact s (.ref p) _ [] (upd_new hp) (own_new (h := .tup) hp o upd_same) List.nodup_nil fun a ha => by cases ha
end
section
variable {G : Gx} {H : Hp}
theorem own_lst {ds : List D} {v : V} {F : List Addr} (h : Own G H (.node .lst ds) v F) : ∃ a vs F1, v = .ref a ∧ H a = some (.lst vs) ∧ OwnL G H ds vs F1 ∧ F = a :: F1 := by
  obtain ⟨a, vs, F1, e, n, o, f⟩ := own_node.mp h
  exact ⟨a, vs, F1, e, n, o, f⟩
theorem own_tup {ds : List D} {v : V} {F : List Addr} (h : Own G H (.node .tup ds) v F) : ∃ a vs, v = .ref a ∧ H a = some (.tup vs) ∧ OwnL G H ds vs F := by
  obtain ⟨a, vs, F1, e, n, o, f⟩ := own_node.mp h
  have : F = F1 := f
  subst this
  exact ⟨a, vs, e, n, o⟩
theorem own_fls {ds : List D} {v : V} {F : List Addr} (h : Own G H (.node .fls ds) v F) : ∃ a vs, v = .ref a ∧ SqL G.K H a vs ∧ OwnL G H ds vs F := by
  obtain ⟨a, vs, F1, e, n, o, f⟩ := own_node.mp h
  have : F = F1 := f
  subst this
  refine ⟨a, vs, e, ?_, o⟩
  rcases n with ⟨q, n⟩ | n
  · exact .inl (.inr ⟨q, n⟩)
  · exact n H
/-- what is walked, indexed: a list or a tuple -/
def D.seq : D → Option (List D)
  | .node .lst xs => some xs
  | .node .fls xs => some xs
  | .node .tup xs => some xs
  | _ => none
theorem own_seq {d : D} {ds : List D} {v : V} {F : List Addr} (e : d.seq = some ds) (h : Own G H d v F) : ∃ a vs F1, v = .ref a ∧ (SqL G.K H a vs ∨ SqT G.K H a vs) ∧ OwnL G H ds vs F1 ∧ (∀ b ∈ F1, b ∈ F) := by
  cases d with
  | node hd xs =>
    cases hd with
    | lst =>
      cases e
      obtain ⟨a, vs, F1, e, n, o, f⟩ := own_lst h
      exact ⟨a, vs, F1, e, .inl (.inl (.inl n)), o, fun b hb => by rw [f]; exact List.mem_cons_of_mem _ hb⟩
    | fls =>
      cases e
      obtain ⟨a, vs, e, n, o⟩ := own_fls h
      exact ⟨a, vs, F, e, .inl n, o, fun b hb => hb⟩
    | tup =>
      cases e
      obtain ⟨a, vs, e, n, o⟩ := own_tup h
      exact ⟨a, vs, F, e, .inr (.inl (.inl n)), o, fun b hb => hb⟩
    | dK _ => cases e
    | dT _ => cases e
    | ins => cases e
  | non => cases e
  | bl _ => cases e
  | int _ => cases e
  | str _ => cases e
  | exc _ => cases e
end

/-! ### whole numbers -/
def gInt2 (f : Int → Int → D) : D → D → R D
  | .int i, .int j => .ok (f i j)
  | _, _ => .no
theorem opd_int0 {G : Gx} {f : Int → Int → Int} : OpD G (rI0 fun i j => .int (f i j)) (gInt2 fun i j => .int (f i j)) := by
  intro d1 d2 v1 v2 F1 F2 H Q o1 o2 s
  cases d1 with
  | int i =>
    cases d2 with
    | int j =>
      obtain ⟨rfl, _⟩ := own_int.mp o1
      obtain ⟨rfl, _⟩ := own_int.mp o2
      exact ⟨i, j, rfl, rfl, leaf_int s⟩
    | _ => exact s.elim
  | _ => exact s.elim
theorem opd_bool0 {G : Gx} {f : Int → Int → Bool} : OpD G (rI0 fun i j => .bl (f i j)) (gInt2 fun i j => .bl (f i j)) := by
  intro d1 d2 v1 v2 F1 F2 H Q o1 o2 s
  cases d1 with
  | int i =>
    cases d2 with
    | int j =>
      obtain ⟨rfl, _⟩ := own_int.mp o1
      obtain ⟨rfl, _⟩ := own_int.mp o2
      exact ⟨i, j, rfl, rfl, leaf_bl s⟩
    | _ => exact s.elim
  | _ => exact s.elim
def gIntC (c : Int → Int → Bool) (f : Int → Int → Int) : D → D → R D
  | .int i, .int j => if c i j = true then .ok (.int (f i j)) else .no
  | _, _ => .no
theorem opd_intC {G : Gx} {c : Int → Int → Bool} {C : Int → Int → Prop} {f g : Int → Int → Int} (hc : ∀ i j, c i j = true → C i j) (hf : ∀ i j, c i j = true → f i j = g i j) : OpD G (rI C fun i j => .int (g i j)) (gIntC c f) := by
  intro d1 d2 v1 v2 F1 F2 H Q o1 o2 s
  cases d1 with
  | int i =>
    cases d2 with
    | int j =>
      obtain ⟨rfl, _⟩ := own_int.mp o1
      obtain ⟨rfl, _⟩ := own_int.mp o2
      unfold gIntC at s
      by_cases h : c i j = true
      · simp only [if_pos h] at s
        refine ⟨i, j, rfl, rfl, hc i j h, ?_⟩
        show Q (.int (g i j)) H
        rw [← hf i j h]
        exact leaf_int s
      · simp only [if_neg h] at s
        exact s.elim
    | _ => exact s.elim
  | _ => exact s.elim
theorem OpD.or {G : Gx} {r r' : R2} {g g' : D → D → R D} {k : D → D → R D} (h : OpD G r g) (h' : OpD G r' g') (hk : ∀ x y, (∃ d, k x y = .ok d) → k x y = g x y ∨ k x y = g' x y) : OpD G (fun x y H Q => r x y H Q ∨ r' x y H Q) k := by
  intro d1 d2 v1 v2 F1 F2 H Q o1 o2 s
  cases e : k d1 d2 with
  | ok d =>
    rcases hk d1 d2 ⟨d, e⟩ with q | q
    · exact .inl (h d1 d2 v1 v2 F1 F2 H Q o1 o2 (by rw [← q]; exact s))
    · exact .inr (h' d1 d2 v1 v2 F1 F2 H Q o1 o2 (by rw [← q]; exact s))
  | exc c =>
    rw [e] at s
    exact (s H (Same.refl H)).elim
  | no => rw [e] at s; exact s.elim
/-- lists joined -/
def gCat : D → D → R D
  | .node .lst xs, .node .lst ys => if D.imms xs = true ∧ D.imms ys = true ∧ xs.length + ys.length ≤ 1000000 then .ok (.node .lst (xs ++ ys)) else .no
  | _, _ => .no
theorem imms_append {xs ys : List D} (h : D.imms xs = true) (h' : D.imms ys = true) : D.imms (xs ++ ys) = true := imms_iff.mpr fun d hd => by
  rcases List.mem_append.mp hd with q | q
  · exact imms_iff.mp h d q
  · exact imms_iff.mp h' d q
theorem lineM : 1000000 ≤ sizeLine := by rw [sizeLine_eq]; decide
theorem opd_cat {G : Gx} : OpD G rCat gCat := by
  intro d1 d2 v1 v2 F1 F2 H Q o1 o2 s
  unfold gCat at s
  split at s
  · rename_i xs ys
    obtain ⟨a, vs, G1, rfl, ha, l1, _⟩ := own_lst o1
    obtain ⟨b, ws, G2, rfl, hb, l2, _⟩ := own_lst o2
    split at s
    · rename_i hc
      refine ⟨a, b, vs, ws, rfl, rfl, ha, hb, ?_, new_lst s (imms_append hc.1 hc.2.1) (ownL_append l1 l2)⟩
      rw [ownL_len l1, ownL_len l2]
      exact Nat.le_trans hc.2.2 lineM
    · exact s.elim
  · exact s.elim
def gAdd : D → D → R D
  | .int i, .int j => .ok (.int (i + j))
  | .node .lst xs, .node .lst ys => if D.imms xs = true ∧ D.imms ys = true ∧ xs.length + ys.length ≤ 1000000 then .ok (.node .lst (xs ++ ys)) else .no
  | _, _ => .no
theorem opd_add {G : Gx} : OpD G (fun x y H Q => rI0 (fun i j => .int (i + j)) x y H Q ∨ rCat x y H Q) gAdd :=
  OpD.or (opd_int0 (f := fun i j => i + j)) opd_cat fun x y ⟨d, e⟩ => by
    unfold gAdd at e ⊢
    split at e
    · exact .inl rfl
    · exact .inr rfl
    · cases e
theorem op_addA {X : Cx} : OpR X (binaryOp .Add) (fun x y H Q => rI0 (fun i j => .int (i + j)) x y H Q ∨ rCat x y H Q) := OpR.or op_add op_cat
abbrev gSub : D → D → R D := gInt2 fun i j => .int (i - j)
def mulOk (i j : Int) : Bool := (decide (-(2 ^ 64) < i) && decide (i < 2 ^ 64)) || (decide (-(2 ^ 64) < j) && decide (j < 2 ^ 64))
abbrev gMul : D → D → R D := gIntC mulOk fun i j => i * j
theorem opd_mul {G : Gx} : OpD G (rI CMul fun i j => .int (i * j)) gMul := opd_intC (fun i j h => by
  unfold mulOk at h
  simp only [Bool.or_eq_true, Bool.and_eq_true, decide_eq_true_eq] at h
  exact h) fun _ _ _ => rfl
def divOk (_ j : Int) : Bool := decide (0 < j) && decide (j < 1073741824)
abbrev gDiv : D → D → R D := gIntC divOk fun i j => i / j
theorem opd_div {G : Gx} : OpD G (rI CDiv fun i j => .int (i / j)) gDiv := opd_intC (fun i j h => by
  unfold divOk at h
  simp only [Bool.and_eq_true, decide_eq_true_eq] at h
  exact h) fun _ _ _ => rfl
def modOk (_ j : Int) : Bool := decide (0 < j)
abbrev gMod : D → D → R D := gIntC modOk fun i j => i % j
theorem opd_mod {G : Gx} : OpD G (rI (fun _ j => 0 < j) fun i j => .int (i % j)) gMod := opd_intC (fun i j h => by
  unfold modOk at h
  simpa using h) fun _ _ _ => rfl
def powOk (i j : Int) : Bool := decide (0 ≤ j) && decide (j ≤ 1000) && decide (i.natAbs < 2 ^ 64)
abbrev gPow : D → D → R D := gIntC powOk fun i j => i ^ j.toNat
theorem opd_pow {G : Gx} : OpD G (rI CPow fun i j => .int (i ^ j.toNat)) gPow := opd_intC (fun i j h => by
  unfold powOk at h
  simp only [Bool.and_eq_true, decide_eq_true_eq] at h
  exact ⟨h.1.1, by omega, h.2⟩) fun _ _ _ => rfl
def gNeg : D → R D
  | .int i => .ok (.int (-i))
  | _ => .no
theorem und_neg {G : Gx} : UnD G (rU fun i => .int (-i)) gNeg := by
  intro d1 v1 F1 H Q o1 s
  cases d1 with
  | int i =>
    obtain ⟨rfl, _⟩ := own_int.mp o1
    exact ⟨i, rfl, leaf_int s⟩
  | _ => exact s.elim
/-- a list times a number -/
def gRep : D → D → R D
  | .node .lst xs, .int k => if D.imms xs = true ∧ xs.length ≤ 1000 ∧ 0 ≤ k ∧ k ≤ 1000 then .ok (.node .lst (List.replicate k.toNat xs).flatten) else .no
  | _, _ => .no
theorem ownL_rep {G : Gx} {H : Hp} {xs : List D} {vs : List V} (h : OwnL G H xs vs []) : ∀ k : Nat, OwnL G H (List.replicate k xs).flatten (List.replicate k vs).flatten []
  | 0 => by simp [OwnL]
  | k + 1 => by
    rw [List.replicate_succ, List.replicate_succ, List.flatten_cons, List.flatten_cons]
    exact ownL_append h (ownL_rep h k)
theorem imms_rep {xs : List D} (h : D.imms xs = true) (k : Nat) : D.imms (List.replicate k xs).flatten = true := imms_iff.mpr fun d hd => by
  obtain ⟨l, hl, hd⟩ := List.mem_flatten.mp hd
  rw [List.eq_of_mem_replicate hl] at hd
  exact imms_iff.mp h d hd
theorem opd_rep {G : Gx} : OpD G rRep gRep := by
  intro d1 d2 v1 v2 F1 F2 H Q o1 o2 s
  unfold gRep at s
  split at s
  · rename_i xs k
    obtain ⟨a, vs, G1, rfl, ha, l1, _⟩ := own_lst o1
    obtain ⟨rfl, _⟩ := own_int.mp o2
    split at s
    · rename_i hc
      have e := ownL_imm xs vs G1 hc.1 l1
      subst e
      refine ⟨a, k, vs, rfl, rfl, ha, by omega, by omega, ?_, new_lst s (imms_rep hc.1 _) (ownL_rep l1 _)⟩
      rw [ownL_len l1]
      have h1 : k.toNat ≤ 1000 := by omega
      exact Nat.le_trans (Nat.mul_le_mul hc.2.1 h1) (by rw [sizeLine_eq]; decide)
    · exact s.elim
  · exact s.elim

/-! ### equality -/
mutual
def toP : D → PyData
  | .non => .none
  | .bl b => .bool b
  | .int i => .int i
  | .str x => .str x
  | .exc _ => .none
  | .node .tup xs => .tuple (toPs xs)
  | .node .lst xs => .list (toPs xs)
  | .node .fls xs => .list (toPs xs)
  | .node _ _ => .none
def toPs : List D → List PyData
  | [] => []
  | d :: ds => toP d :: toPs ds
end
mutual
def okD : Nat → D → Bool
  | _, .non => true
  | _, .bl _ => true
  | _, .int _ => true
  | _, .str x => PyData.strOk x
  | _, .exc _ => false
  | n, .node .tup xs => decide (0 < n) && okDs (n - 1) xs
  | n, .node .lst xs => decide (0 < n) && okDs (n - 1) xs
  | n, .node .fls xs => decide (0 < n) && okDs (n - 1) xs
  | _, .node _ _ => false
def okDs : Nat → List D → Bool
  | _, [] => true
  | n, d :: ds => okD n d && okDs n ds
end
theorem okDs_iff {n : Nat} : ∀ {ds : List D}, okDs n ds = true ↔ ∀ d ∈ ds, okD n d = true
  | [] => by simp [okDs]
  | d :: ds => by simp [okDs, okDs_iff (ds := ds)]
theorem toPs_map : ∀ ds : List D, toPs ds = ds.map toP
  | [] => rfl
  | d :: ds => by simp [toPs, toPs_map ds]
mutual
theorem okD_depth : ∀ (n : Nat) (d : D), okD n d = true → (toP d).depth ≤ n ∧ (toP d).canLay0 = true
  | n, .non, _ => ⟨Nat.zero_le _, by simp [toP, PyData.canLay0]⟩
  | n, .bl _, _ => ⟨Nat.zero_le _, by simp [toP, PyData.canLay0]⟩
  | n, .int _, _ => ⟨Nat.zero_le _, by simp [toP, PyData.canLay0]⟩
  | n, .str _, h => ⟨Nat.zero_le _, by simpa [toP, PyData.canLay0, okD] using h⟩
  | n, .exc _, h => by simp [okD] at h
  | n, .node .tup xs, h => by
    simp only [okD, Bool.and_eq_true, decide_eq_true_eq] at h
    have q := okDs_depth (n - 1) xs h.2
    simp only [toP, PyData.depth, PyData.canLay0]
    exact ⟨by omega, q.2⟩
  | n, .node .lst xs, h => by
    simp only [okD, Bool.and_eq_true, decide_eq_true_eq] at h
    have q := okDs_depth (n - 1) xs h.2
    simp only [toP, PyData.depth, PyData.canLay0]
    exact ⟨by omega, q.2⟩
  | n, .node .fls xs, h => by
    simp only [okD, Bool.and_eq_true, decide_eq_true_eq] at h
    have q := okDs_depth (n - 1) xs h.2
    simp only [toP, PyData.depth, PyData.canLay0]
    exact ⟨by omega, q.2⟩
  | n, .node (.dK _) xs, h => by simp [okD] at h
  | n, .node (.dT _) xs, h => by simp [okD] at h
  | n, .node .ins xs, h => by simp [okD] at h
theorem okDs_depth : ∀ (n : Nat) (ds : List D), okDs n ds = true → PyData.depthAll (toPs ds) ≤ n ∧ PyData.canLayAll0 (toPs ds) = true
  | n, [], _ => ⟨Nat.zero_le _, by simp [toPs, PyData.canLayAll0]⟩
  | n, d :: ds, h => by
    simp only [okDs, Bool.and_eq_true] at h
    have q1 := okD_depth n d h.1
    have q2 := okDs_depth n ds h.2
    simp only [toPs, PyData.depthAll, PyData.canLayAll0, Bool.and_eq_true]
    exact ⟨by omega, q1.2, q2.2⟩
end
theorem okD_shaped {d : D} (h : okD 60 d = true) : SeqAt.shaped (toP d) = true := by
  have q := okD_depth 60 d h
  unfold SeqAt.shaped
  simp only [Bool.and_eq_true, decide_eq_true_eq]
  exact ⟨q.2, by omega⟩
mutual
theorem dp_of {G : Gx} {H : Hp} : ∀ (n : Nat) (d : D) (v : V) (F : List Addr), okD n d = true → Own G H d v F → Dp G.K H v (toP d)
  | n, .non, v, F, _, o => by obtain ⟨rfl, _⟩ := own_non.mp o; exact .non
  | n, .bl b, v, F, _, o => by obtain ⟨rfl, _⟩ := own_bl.mp o; exact .bl b
  | n, .int i, v, F, _, o => by obtain ⟨rfl, _⟩ := own_int.mp o; exact .int i
  | n, .str x, v, F, _, o => by obtain ⟨rfl, _⟩ := own_str.mp o; exact .str x
  | n, .exc _, v, F, h, _ => by simp [okD] at h
  | n, .node .tup xs, v, F, h, o => by
    simp only [okD, Bool.and_eq_true] at h
    obtain ⟨a, vs, rfl, q, l⟩ := own_tup o
    exact .tup (.inl (.inl q)) (dps_of (n - 1) xs vs F h.2 l)
  | n, .node .lst xs, v, F, h, o => by
    simp only [okD, Bool.and_eq_true] at h
    obtain ⟨a, vs, F1, rfl, q, l, _⟩ := own_lst o
    exact .lst (.inl (.inl q)) (dps_of (n - 1) xs vs F1 h.2 l)
  | n, .node .fls xs, v, F, h, o => by
    simp only [okD, Bool.and_eq_true] at h
    obtain ⟨a, vs, rfl, q, l⟩ := own_fls o
    exact .lst q (dps_of (n - 1) xs vs F h.2 l)
  | n, .node (.dK _) xs, v, F, h, _ => by simp [okD] at h
  | n, .node (.dT _) xs, v, F, h, _ => by simp [okD] at h
  | n, .node .ins xs, v, F, h, _ => by simp [okD] at h
theorem dps_of {G : Gx} {H : Hp} : ∀ (n : Nat) (ds : List D) (vs : List V) (F : List Addr), okDs n ds = true → OwnL G H ds vs F → DpAll G.K H vs (toPs ds)
  | n, [], vs, F, _, o => by obtain ⟨rfl, _⟩ := ownL_nil.mp o; exact .nil
  | n, d :: ds, vs, F, h, o => by
    simp only [okDs, Bool.and_eq_true] at h
    obtain ⟨v, vr, F1, F2, rfl, o1, o2, _⟩ := ownL_cons.mp o
    exact .cons (dp_of n d v F1 h.1 o1) (dps_of n ds vr F2 h.2 o2)
end
/-- == -/
def eqD (d e : D) : Bool := PyData.eqv (toP d) (toP e)
def gEq (d e : D) : R D := if okD 60 d = true ∧ okD 60 e = true then .ok (.bl (eqD d e)) else .no
def gNe (d e : D) : R D := if okD 60 d = true ∧ okD 60 e = true then .ok (.bl (!eqD d e)) else .no
theorem opd_eq {G : Gx} : OpD G (rEqD G.K) gEq := by
  intro d1 d2 v1 v2 F1 F2 H Q o1 o2 s
  unfold gEq at s
  split at s
  · rename_i h
    exact ⟨_, _, dp_of 60 d1 v1 F1 h.1 o1, dp_of 60 d2 v2 F2 h.2 o2, okD_shaped h.1, okD_shaped h.2, leaf_bl s⟩
  · exact s.elim
theorem opd_ne {G : Gx} : OpD G (rNeD G.K) gNe := by
  intro d1 d2 v1 v2 F1 F2 H Q o1 o2 s
  unfold gNe at s
  split at s
  · rename_i h
    exact ⟨_, _, dp_of 60 d1 v1 F1 h.1 o1, dp_of 60 d2 v2 F2 h.2 o2, okD_shaped h.1, okD_shaped h.2, leaf_bl s⟩
  · exact s.elim
/-- is None -/
def D.isN : D → Option Bool
  | .non => some true
  | .exc _ => none
  | _ => some false
theorem isN_v {G : Gx} {H : Hp} {d : D} {v : V} {F : List Addr} {b : Bool} (h : d.isN = some b) (o : Own G H d v F) : decide (v = .non) = b := by
  cases d with
  | non => cases h; obtain ⟨rfl, _⟩ := own_non.mp o; rfl
  | bl _ => cases h; obtain ⟨rfl, _⟩ := own_bl.mp o; rfl
  | int _ => cases h; obtain ⟨rfl, _⟩ := own_int.mp o; rfl
  | str _ => cases h; obtain ⟨rfl, _⟩ := own_str.mp o; rfl
  | exc _ => cases h
  | node _ _ => cases h; obtain ⟨a, vs, F1, rfl, _⟩ := own_node.mp o; rfl
def gIsN (d e : D) : R D := match e, d.isN with
  | .non, some b => .ok (.bl b)
  | _, _ => .no
def gIsNn (d e : D) : R D := match e, d.isN with
  | .non, some b => .ok (.bl (!b))
  | _, _ => .no
theorem opd_isN {G : Gx} : OpD G (fun x y H Q => y = .non ∧ Q (.bl (decide (x = .non))) H) gIsN := by
  intro d1 d2 v1 v2 F1 F2 H Q o1 o2 s
  unfold gIsN at s
  split at s
  · rename_i b h
    obtain ⟨rfl, _⟩ := own_non.mp o2
    exact ⟨rfl, by rw [isN_v h o1]; exact leaf_bl s⟩
  · exact s.elim
theorem opd_isNn {G : Gx} : OpD G (fun x y H Q => y = .non ∧ Q (.bl (!decide (x = .non))) H) gIsNn := by
  intro d1 d2 v1 v2 F1 F2 H Q o1 o2 s
  unfold gIsNn at s
  split at s
  · rename_i b h
    obtain ⟨rfl, _⟩ := own_non.mp o2
    exact ⟨rfl, by rw [isN_v h o1]; exact leaf_bl s⟩
  · exact s.elim
/-! ### in -/
def rDIn (neg : Bool) : R2 := fun y x H Q => ∃ a o, x = .ref a ∧ DGet H a y o ∧ Q (.bl (if neg then !o.isSome else o.isSome)) H
theorem op_din {X : Cx} (hu : X.A.units + 1 < cLine) : OpR X (compareOp .In) (rDIn false) := by
  intro pins s σ H x y v u Q I rx ry h
  obtain ⟨a, o, rfl, g, q⟩ := h
  obtain rfl : u = Value.ref a := ry
  exact d_in hu I g rx fun s' I' => ⟨.bl _, H, I', rfl, q⟩
theorem op_dnin {X : Cx} (hu : X.A.units + 1 < cLine) : OpR X (compareOp .NotIn) (rDIn true) := by
  intro pins s σ H x y v u Q I rx ry h
  obtain ⟨a, o, rfl, g, q⟩ := h
  obtain rfl : u = Value.ref a := ry
  exact d_notIn hu I g rx fun s' I' => ⟨.bl _, H, I', rfl, q⟩
end Rs

set_option maxRecDepth 100000
/-! Rs3: places, dicts read, built-in functions. -/
namespace Rs
open PySem PySem.Spec PyProof.Rows L2

/-! ### tables -/
section
variable {κ α β : Type} [DecidableEq κ]
def ixOf (ks : List κ) (k : κ) : Option Nat := ks.findIdx? fun x => decide (x = k)
def look (ks : List κ) (xs : List α) (k : κ) : Option α := (ixOf ks k).bind fun i => xs[i]?
theorem ixOf_nil {k : κ} : ixOf ([] : List κ) k = none := rfl
theorem ixOf_pos {ks : List κ} {k : κ} : ixOf (k :: ks) k = some 0 := by simp [ixOf, List.findIdx?_cons]
theorem ixOf_neg {ks : List κ} {k j : κ} (h : ¬ j = k) : ixOf (j :: ks) k = (ixOf ks k).map (· + 1) := by simp [ixOf, List.findIdx?_cons, h]
theorem look_nil {xs : List α} {k : κ} : look ([] : List κ) xs k = none := rfl
theorem look_pos {ks : List κ} {x : α} {xs : List α} {k : κ} : look (k :: ks) (x :: xs) k = some x := by simp [look, ixOf_pos]
theorem look_neg {ks : List κ} {x : α} {xs : List α} {k j : κ} (h : ¬ j = k) : look (j :: ks) (x :: xs) k = look ks xs k := by
  unfold look
  rw [ixOf_neg h]
  cases ixOf ks k <;> simp
/-- in its place (or places), or at the end -/
def putD (ks : List κ) (xs : List α) (k : κ) (x : α) : List κ × List α :=
  if k ∈ ks then (ks, List.zipWith (fun j y => if j = k then x else y) ks xs) else (ks ++ [k], xs ++ [x])
theorem valV_look {κ' : Type} [DecidableEq κ'] {g : κ → κ'} (hg : ∀ a b, g a = g b → a = b) : ∀ {kvs : List (κ' × V)} {ks : List κ} {vs : List V} (k : κ), kvs.map (·.1) = ks.map g → kvs.map (·.2) = vs → valV kvs (g k) = look ks vs k
  | [], [], vs, k, _, h2 => by subst h2; rfl
  | [], _ :: _, vs, k, h1, _ => by simp at h1
  | _ :: _, [], vs, k, h1, _ => by simp at h1
  | p :: r, j :: ks, vs, k, h1, h2 => by
    simp only [List.map_cons, List.cons.injEq] at h1
    subst h2
    rw [List.map_cons]
    by_cases e : j = k
    · subst e
      rw [look_pos, valV_pos h1.1]
    · rw [look_neg e, valV_neg (by rw [h1.1]; exact fun q => e (hg _ _ q))]
      exact valV_look hg k h1.2 rfl
theorem putK_put {κ' : Type} [DecidableEq κ'] {g : κ → κ'} (hg : ∀ a b, g a = g b → a = b) {kvs : List (κ' × V)} {ks : List κ} {vs : List V} (k : κ) (v : V) (h1 : kvs.map (·.1) = ks.map g) (h2 : kvs.map (·.2) = vs) :
    (putK kvs (g k) v).map (·.1) = (putD ks vs k v).1.map g ∧ (putK kvs (g k) v).map (·.2) = (putD ks vs k v).2 := by
  have hany : (kvs.any fun kv => decide (kv.1 = g k)) = true ↔ k ∈ ks := by
    rw [List.any_eq_true]
    constructor
    · rintro ⟨p, hp, e⟩
      have e' := of_decide_eq_true e
      have : g k ∈ ks.map g := by rw [← h1, ← e']; exact List.mem_map.mpr ⟨p, hp, rfl⟩
      obtain ⟨j, hj, ej⟩ := List.mem_map.mp this
      rw [← hg _ _ ej]; exact hj
    · intro hk
      have : g k ∈ kvs.map (·.1) := by rw [h1]; exact List.mem_map.mpr ⟨k, hk, rfl⟩
      obtain ⟨p, hp, ep⟩ := List.mem_map.mp this
      exact ⟨p, hp, decide_eq_true ep⟩
  unfold putK putD
  by_cases hk : k ∈ ks
  · rw [if_pos (hany.mpr hk), if_pos hk]
    clear hany hk
    subst h2
    induction kvs generalizing ks with
    | nil =>
      cases ks with
      | nil => exact ⟨rfl, rfl⟩
      | cons _ _ => simp at h1
    | cons p r ih =>
      cases ks with
      | nil => simp at h1
      | cons j ks =>
        simp only [List.map_cons, List.cons.injEq] at h1
        obtain ⟨q1, q2⟩ := ih h1.2
        by_cases e : j = k
        · subst e
          simp only [List.map_cons, List.zipWith_cons_cons, if_pos h1.1, if_true, q1, q2, h1.1, and_self]
        · have ne : ¬ p.1 = g k := by rw [h1.1]; exact fun q => e (hg _ _ q)
          have ne' : ¬ g j = g k := fun q => e (hg _ _ q)
          simp only [List.map_cons, List.zipWith_cons_cons, if_neg ne, if_neg e, if_neg ne', q1, q2, h1.1, and_self]
  · rw [if_neg (fun q => hk (hany.mp q)), if_neg hk]
    exact ⟨by simp [h1], by simp [h2]⟩
end
theorem inl_inj (a b : Int) (h : (Sum.inl a : Key) = Sum.inl b) : a = b := Sum.inl.inj h
section
variable {G : Gx} {H : Hp}
theorem look_own {κ : Type} [DecidableEq κ] {ks : List κ} {ds : List D} {vs : List V} {F : List Addr} {k : κ} (o : OwnL G H ds vs F) :
    (∀ d, look ks ds k = some d → ∃ v F1, look ks vs k = some v ∧ Own G H d v F1 ∧ ∀ b ∈ F1, b ∈ F) ∧ (look ks ds k = none → look ks vs k = none) := by
  unfold look
  cases ixOf ks k with
  | none => exact ⟨fun d h => (by cases h), fun _ => rfl⟩
  | some i =>
    refine ⟨fun d h => ownL_get o h, fun h => ?_⟩
    have h' : ds[i]? = none := h
    rw [List.getElem?_eq_none_iff] at h'
    show vs[i]? = none
    rw [List.getElem?_eq_none_iff, ownL_len o]
    exact h'
theorem own_dK {ks : List Int} {ds : List D} {v : V} {F : List Addr} (h : Own G H (.node (.dK ks) ds) v F) : ∃ a kvs F1, v = .ref a ∧ Rd H a (.dK kvs) ∧ kvs.map (·.1) = ks.map (Sum.inl : Int → Key) ∧ OwnL G H ds (kvs.map (·.2)) F1 ∧ F = a :: F1 := by
  obtain ⟨a, vs, F1, e, ⟨kvs, n, h1, h2⟩, o, f⟩ := own_node.mp h
  subst h2
  exact ⟨a, kvs, F1, e, n, h1, o, f⟩
theorem own_dT {ks : List (Int × Int)} {ds : List D} {v : V} {F : List Addr} (h : Own G H (.node (.dT ks) ds) v F) : ∃ a kvs F1, v = .ref a ∧ Rd H a (.dT kvs) ∧ kvs.map (·.1) = ks.map kp ∧ OwnL G H ds (kvs.map (·.2)) F1 ∧ F = a :: F1 := by
  obtain ⟨a, vs, F1, e, ⟨kvs, n, h1, h2⟩, o, f⟩ := own_node.mp h
  subst h2
  exact ⟨a, kvs, F1, e, n, h1, o, f⟩
/-- a key: a number, a pair of numbers -/
def pairD (p : Int × Int) : D := .node .tup [.int p.1, .int p.2]
def D.pair : D → Option (Int × Int)
  | .node .tup [.int i, .int j] => some (i, j)
  | _ => none
theorem D.pair_eq {d : D} {p : Int × Int} (h : d.pair = some p) : d = pairD p := by
  unfold D.pair at h
  split at h
  · cases h; rfl
  · cases h
theorem own_pair {p : Int × Int} {v : V} {F : List Addr} (h : Own G H (pairD p) v F) : ∃ b, v = .ref b ∧ H b = some (.tup ((kp p).map kV)) := by
  obtain ⟨a, vs, rfl, e, o⟩ := own_tup h
  obtain ⟨v1, r1, F1, F2, rfl, o1, o2, _⟩ := ownL_cons.mp o
  obtain ⟨v2, r2, F3, F4, rfl, o3, o4, _⟩ := ownL_cons.mp o2
  obtain ⟨rfl, _⟩ := ownL_nil.mp o4
  obtain ⟨rfl, _⟩ := own_int.mp o1
  obtain ⟨rfl, _⟩ := own_int.mp o3
  exact ⟨a, rfl, e⟩
/-- what d[k] finds -/
def dlook (d k : D) : Option (Option D) := match d with
  | .node (.dK ks) ds => match k with
    | .int i => some (look ks ds i)
    | _ => none
  | .node (.dT ks) ds => match k.pair with
    | some p => some (look ks ds p)
    | none => none
  | _ => none
theorem dget_of {d k : D} {o : Option D} {v1 v2 : V} {F1 F2 : List Addr} (h : dlook d k = some o) (o1 : Own G H d v1 F1) (o2 : Own G H k v2 F2) :
    ∃ a r, v1 = .ref a ∧ DGet H a v2 r ∧ (∀ d', o = some d' → ∃ v F, r = some v ∧ Own G H d' v F ∧ ∀ b ∈ F, b ∈ F1) ∧ (o = none → r = none) := by
  unfold dlook at h
  split at h
  · rename_i ks ds
    split at h
    · rename_i i
      cases h
      obtain ⟨a, kvs, F', rfl, rd, hk, ol, ef⟩ := own_dK o1
      obtain ⟨rfl, _⟩ := own_int.mp o2
      refine ⟨a, valV kvs (.inl i), rfl, .inl ⟨kvs, .inl i, rd, rfl, rfl⟩, ?_⟩
      rw [valV_look inl_inj i hk rfl]
      have q := look_own (ks := ks) (k := i) ol
      exact ⟨fun d' e => let ⟨v, F, a1, a2, a3⟩ := q.1 d' e; ⟨v, F, a1, a2, fun b hb => by rw [ef]; exact List.mem_cons_of_mem _ (a3 b hb)⟩, q.2⟩
    · cases h
  · rename_i ks ds
    split at h
    · rename_i p hp
      cases h
      obtain ⟨a, kvs, F', rfl, rd, hk, ol, ef⟩ := own_dT o1
      rw [D.pair_eq hp] at o2
      obtain ⟨b, rfl, hb⟩ := own_pair o2
      refine ⟨a, valV kvs (kp p), rfl, .inr ⟨kvs, kp p, b, rd, rfl, hb, rfl⟩, ?_⟩
      rw [valV_look (fun _ _ => kp_inj) p hk rfl]
      have q := look_own (ks := ks) (k := p) ol
      exact ⟨fun d' e => let ⟨v, F, a1, a2, a3⟩ := q.1 d' e; ⟨v, F, a1, a2, fun b hb => by rw [ef]; exact List.mem_cons_of_mem _ (a3 b hb)⟩, q.2⟩
    · cases h
  · cases h
end
/-! ### x in c -/
def gInB (x c : D) : Option Bool := match dlook c x with
  | some o => some o.isSome
  | none => match c with
    | .node .lst ys => if okD 58 x = true ∧ okDs 57 ys = true then some (ys.any fun y => eqD y x) else none
    | .node .tup ys => match x with
      | .str s => if (ys.all fun y => match y with | .str _ => true | _ => false) = true then some (ys.any fun y => match y with | .str t => decide (t = s) | _ => false) else none
      | _ => none
    | _ => none
def gIn (x c : D) : R D := match gInB x c with
  | some b => .ok (.bl b)
  | none => .no
def gNotIn (x c : D) : R D := match gInB x c with
  | some b => .ok (.bl (!b))
  | none => .no
def rInA (K : PySem.W.Frag) : R2 := fun x y H Q => rDIn false x y H Q ∨ rInD K x y H Q ∨ rIn K false x y H Q
def rNotInA (K : PySem.W.Frag) : R2 := fun x y H Q => rDIn true x y H Q ∨ rNotInD K x y H Q ∨ rIn K true x y H Q
theorem op_inA {X : Cx} (hu : X.A.units + 100 < cLine) : OpR X (compareOp .In) (rInA X.K) := OpR.or (op_din (by omega)) (OpR.or (op_inD (by omega)) op_in_seq)
theorem op_notInA {X : Cx} (hu : X.A.units + 100 < cLine) : OpR X (compareOp .NotIn) (rNotInA X.K) := OpR.or (op_dnin (by omega)) (OpR.or (op_notInD (by omega)) op_notIn_seq)
theorem any_toPs (x : D) : ∀ ys : List D, ((toPs ys).any fun z => PyData.eqv z (toP x)) = ys.any fun y => eqD y x
  | [] => rfl
  | y :: ys => by simp only [toPs, List.any_cons, any_toPs x ys]; rfl
theorem strs_own {G : Gx} {H : Hp} {s : Str} : ∀ {ys : List D} {vs : List V} {F : List Addr}, (ys.all fun y => match y with | .str _ => true | _ => false) = true → OwnL G H ys vs F → vs.all flatV = true ∧ inV (.str s) vs = ys.any fun y => match y with | .str t => decide (t = s) | _ => false
  | [], vs, F, _, o => by obtain ⟨rfl, _⟩ := ownL_nil.mp o; exact ⟨rfl, rfl⟩
  | y :: ys, vs, F, h, o => by
    obtain ⟨v, vr, F1, F2, rfl, o1, o2, _⟩ := ownL_cons.mp o
    simp only [List.all_cons, Bool.and_eq_true] at h
    obtain ⟨q1, q2⟩ := strs_own (s := s) h.2 o2
    cases y with
    | str t =>
      obtain ⟨rfl, _⟩ := own_str.mp o1
      refine ⟨by simp [flatV, q1], ?_⟩
      unfold inV at q2 ⊢
      rw [List.any_cons, q2, List.any_cons]
      simp [eqV, Bool.beq_eq_decide_eq]
    | _ => exact absurd h.1 (by simp)
theorem opd_inB {G : Gx} {neg : Bool} {r : R2} {g : D → D → R D} (hr : r = if neg then rNotInA G.K else rInA G.K) (hg : ∀ x c, g x c = match gInB x c with | some b => .ok (.bl (if neg then !b else b)) | none => .no) : OpD G r g := by
  intro d1 d2 v1 v2 F1 F2 H Q o1 o2 s
  rw [hg] at s
  subst hr
  have mk : ∀ {A B C : Prop}, (neg = true → A) → (neg = false → B) → (if neg = true then A else B) := fun a b => by cases neg <;> simp_all
  cases e : gInB d1 d2 with
  | none => rw [e] at s; exact s.elim
  | some b =>
    rw [e] at s
    unfold gInB at e
    cases e1 : dlook d2 d1 with
    | some o =>
      rw [e1] at e
      cases e
      obtain ⟨a, r, rfl, dg, h1, h2⟩ := dget_of e1 o2 o1
      have er : r.isSome = o.isSome := by
        cases o with
        | none => rw [h2 rfl]; rfl
        | some d' => obtain ⟨v, F, e', _⟩ := h1 d' rfl; rw [e']; rfl
      have q : rDIn neg v1 (.ref a) H Q := ⟨a, r, rfl, dg, by rw [er]; exact leaf_bl s⟩
      cases neg with
      | true => exact .inl q
      | false => exact .inl q
    | none =>
      rw [e1] at e
      dsimp only at e
      split at e
      · rename_i ys
        split at e
        · rename_i hok
          cases e
          have hs : okD 58 (.node .lst ys) = true := by simp [okD, hok.2]
          have sh : ∀ {d : D}, okD 58 d = true → SeqAt.shaped (toP d) = true := fun {d} h => by
            have q := okD_depth 58 d h
            unfold SeqAt.shaped
            simp only [Bool.and_eq_true, decide_eq_true_eq]
            exact ⟨q.2, by omega⟩
          have h1 := dp_of 58 d1 v1 F1 hok.1 o1
          have h2 := dp_of 58 (.node .lst ys) v2 F2 hs o2
          cases neg with
          | true => exact .inr (.inl ⟨_, toPs ys, h1, h2, sh hok.1, sh hs, by rw [any_toPs]; exact leaf_bl s⟩)
          | false => exact .inr (.inl ⟨_, toPs ys, h1, h2, sh hok.1, sh hs, by rw [any_toPs]; exact leaf_bl s⟩)
        · cases e
      · rename_i ys
        split at e
        · rename_i x
          split at e
          · rename_i hall
            cases e
            obtain ⟨rfl, _⟩ := own_str.mp o1
            obtain ⟨a, vs, rfl, ht, ol⟩ := own_tup o2
            obtain ⟨q1, q2⟩ := strs_own (s := x) hall ol
            cases neg with
            | true => exact .inr (.inr ⟨a, vs, rfl, .inr (.inl (.inl ht)), rfl, q1, by rw [q2]; exact leaf_bl s⟩)
            | false => exact .inr (.inr ⟨a, vs, rfl, .inr (.inl (.inl ht)), rfl, q1, by rw [q2]; exact leaf_bl s⟩)
          · cases e
        · cases e
      · cases e
theorem opd_in {G : Gx} : OpD G (rInA G.K) gIn := opd_inB (neg := false) rfl fun x c => by
  unfold gIn
  cases gInB x c <;> rfl
theorem opd_notIn {G : Gx} : OpD G (rNotInA G.K) gNotIn := opd_inB (neg := true) rfl fun x c => by
  unfold gNotIn
  cases gInB x c <;> rfl
end Rs

set_option maxRecDepth 100000
/-! Rs4: subscripts, slices, built-in functions. -/
namespace Rs
open PySem PySem.Spec PyProof.Rows L2

section
variable {G : Gx} {X : Cx} {W : WX} {e a b : Expr} {pos : Pos} {m ma mb : Evn → R D}
theorem PE.or {X : Cx} {e : Expr} {t t' : TE} (h : PE X e t) (h' : PE X e t') : PE X e fun σ H Q => t σ H Q ∨ t' σ H Q :=
  ⟨fun pins s σ H Q I q => q.elim (h.run pins s σ H Q I) (h'.run pins s σ H Q I)⟩
theorem PT.or {X : Cx} {e : Expr} {t t' : TT} (h : PT X e t) (h' : PT X e t') : PT X e fun σ H Q => t σ H Q ∨ t' σ H Q :=
  ⟨fun pins s σ H Q I q => q.elim (h.run pins s σ H Q I) (h'.run pins s σ H Q I)⟩
/-! ### a[b] -/
def mBinE (g : D → D → R D) (a b : Evn → R D) : Evn → R D := fun ρ => (a ρ).bind fun x => (b ρ).bind fun y => match g x y with
  | .ok d => .ok d
  | _ => .no
def gIx (d k : D) : R D := match d.seq with
  | some xs => match k with
    | .int i => match atI xs i with
      | some x => .ok x
      | none => .no
    | _ => .no
  | none => match dlook d k with
    | some (some x) => .ok x
    | _ => .no
theorem atI_own {H : Hp} {ds : List D} {vs : List V} {F : List Addr} {i : Int} {d : D} (h : atI ds i = some d) (o : OwnL G H ds vs F) : ∃ v F1, atI vs i = some v ∧ Own G H d v F1 ∧ ∀ b ∈ F1, b ∈ F := by
  unfold atI at h ⊢
  rw [ownL_len o]
  cases e : ixN ds.length i with
  | none => rw [e] at h; cases h
  | some j =>
    rw [e] at h
    exact ownL_get o h
theorem se_ix (hK : X.K = G.K) (hu : X.A.units + 100 < cLine) (ha : SE G X W ma a) (hb : SE G X W mb b) (hs : PlainIx b := by exact fun _ _ => rfl) : SE G X W (mBinE gIx ma mb) (.Subscript a b pos) := by
  refine PE.imp (PE.or (pe_ix (ix_list.or ix_tup) ha hb hs) (pe_dget (by omega) ha hb hs)) fun σ H Q ⟨ρ, E, s⟩ => ?_
  have left : (∀ d1, ma ρ = .ok d1 → ∃ xs, d1.seq = some xs) → tOp (fun x y H Q => rIxL X.K x y H Q ∨ rIxT X.K x y H Q) (tE G W ma) (tE G W mb) σ H Q := fun hd => by
    refine ⟨ρ, E, (SatG.bind s).imp fun d1 e1 ⟨_, p⟩ v1 H1 F1 sm1 o1 => ⟨ρ, E.same sm1, ?_⟩⟩
    refine ((SatG.bind p).imp fun d2 _ ⟨_, q⟩ v2 H2 F2 sm2 o2 => ?_).later sm1
    obtain ⟨xs, hx⟩ := hd d1 e1
    unfold gIx at q
    rw [hx] at q
    cases d2 with
    | int i =>
      dsimp only at q
      cases e3 : atI xs i with
      | none => rw [e3] at q; exact q.elim
      | some x =>
        rw [e3] at q
        obtain ⟨rfl, _⟩ := own_int.mp o2
        obtain ⟨p', vs, F', rfl, hsq, ol, _⟩ := own_seq hx (own_same sm2 o1)
        obtain ⟨v, F3, e4, o3, _⟩ := atI_own e3 ol
        have fin := q v H2 F3 (sm1.trans sm2) o3
        rw [hK]
        rcases hsq with hsq | hsq
        · exact .inl ⟨p', vs, i, v, rfl, rfl, hsq, e4, fin⟩
        · exact .inr ⟨p', vs, i, v, rfl, rfl, hsq, e4, fin⟩
    | _ => exact q.elim
  cases e1 : ma ρ with
  | ok d1 =>
    cases hx : d1.seq with
    | some xs => exact .inl (left fun d h => by rw [e1] at h; cases h; exact ⟨xs, hx⟩)
    | none =>
      refine .inr ⟨ρ, E, (SatG.bind s).imp fun d1' e1' ⟨_, p⟩ v1 H1 F1 sm1 o1 => ⟨ρ, E.same sm1, ?_⟩⟩
      rw [e1] at e1'
      cases e1'
      refine ((SatG.bind p).imp fun d2 _ ⟨_, q⟩ v2 H2 F2 sm2 o2 => ?_).later sm1
      unfold gIx at q
      rw [hx] at q
      dsimp only at q
      cases e3 : dlook d1 d2 with
      | none => rw [e3] at q; exact q.elim
      | some o =>
        rw [e3] at q
        cases o with
        | none => exact q.elim
        | some x =>
          obtain ⟨a', r, rfl, dg, h1, _⟩ := dget_of e3 (own_same sm2 o1) o2
          obtain ⟨v, F, er, o3, _⟩ := h1 x rfl
          subst er
          exact ⟨a', v, rfl, dg, q v H2 F (sm1.trans sm2) o3⟩
  | exc c => exact .inl (left fun d h => by rw [e1] at h; cases h)
  | no => exact .inl (left fun d h => by rw [e1] at h; cases h)

/-! ### a[lo:hi] -/
def mPart (m : Evn → R D) : Evn → R (Option Int) := fun ρ => (m ρ).bind fun d => match d with
  | .int i => .ok (some i)
  | _ => .no
def mNoPart : Evn → R (Option Int) := fun _ => .ok none
def tO (G : Gx) (W : WX) (m : Evn → R (Option Int)) : TO := fun σ H Q => ∃ ρ, EnvP G H σ ρ ∧ SatG G W (fun o => ∀ H', Same H H' → Q o H') σ H (m ρ)
theorem PO.imp {e : Option Expr} {t t' : TO} (h : PO X e t) (i : ∀ σ H Q, t' σ H Q → t σ H Q) : PO X e t' := ⟨fun pins s σ H Q I q => h.run pins s σ H Q I (i _ _ _ q)⟩
theorem so_none : PO X none (tO G W mNoPart) := PO.imp po_none fun σ H Q ⟨ρ, E, s⟩ => s H (Same.refl H)
theorem so_some (h : SE G X W m e) : PO X (some e) (tO G W (mPart m)) := PO.imp (po_some h) fun σ H Q ⟨ρ, E, s⟩ => ⟨ρ, E, (SatG.bind s).imp fun d _ ⟨_, p⟩ v H1 F sm o => by
  cases d with
  | int i =>
    obtain ⟨rfl, _⟩ := own_int.mp o
    exact ⟨i, rfl, p H1 sm⟩
  | _ => exact p.elim⟩
def cutD {α : Type} (xs : List α) (lo hi : Option Int) : List α := (xs.drop (HT.sIx xs.length 0 lo)).take (HT.sIx xs.length xs.length hi - HT.sIx xs.length 0 lo)
def gSl (d : D) (lo hi : Option Int) : R D := match d with
  | .node .tup xs => if ¬ (HT.sIx xs.length 0 lo = 0 ∧ HT.sIx xs.length xs.length hi = xs.length) ∧ D.imms xs = true then .ok (.node .tup (cutD xs lo hi)) else .no
  | .node .lst xs => if D.imms xs = true then .ok (.node .lst (cutD xs lo hi)) else .no
  | .node .fls xs => if D.imms xs = true then .ok (.node .lst (cutD xs lo hi)) else .no
  | _ => .no
def mSl (m : Evn → R D) (lo hi : Evn → R (Option Int)) : Evn → R D := fun ρ => (m ρ).bind fun d => (lo ρ).bind fun l => (hi ρ).bind fun h => match gSl d l h with
  | .ok d => .ok d
  | _ => .no
theorem imms_sub {xs ys : List D} (h : D.imms xs = true) (hs : ys.Sublist xs) : D.imms ys = true := imms_iff.mpr fun d hd => imms_iff.mp h d (hs.subset hd)
theorem cut_sub {α : Type} (xs : List α) (lo hi : Option Int) : (cutD xs lo hi).Sublist xs := (List.take_sublist _ _).trans (List.drop_sublist _ _)
theorem cut_own {H : Hp} {xs : List D} {vs : List V} (o : OwnL G H xs vs []) (lo hi : Option Int) : OwnL G H (cutD xs lo hi) (cutV vs lo hi) [] := by
  unfold cutD cutV
  rw [ownL_len o]
  obtain ⟨F1, o1, s1⟩ := ownL_drop (n := HT.sIx xs.length 0 lo) o
  obtain ⟨F2, o2, s2⟩ := ownL_take (n := HT.sIx xs.length xs.length hi - HT.sIx xs.length 0 lo) o1
  have e1 := List.sublist_nil.mp s1
  subst e1
  have e2 := List.sublist_nil.mp s2
  subst e2
  exact o2
theorem sl_of {K : PySem.W.Frag} (hK : K = G.K) {d : D} {l h : Option Int} {v : V} {F : List Addr} {H : Hp} {Q : VK} (o : Own G H d v F) (s : SatF G W0 (gSl d l h) [] H Q) : rSlL K v l h H Q ∨ rSlT K v l h H Q := by
  subst hK
  unfold gSl at s
  split at s
  · rename_i xs
    split at s
    · rename_i hc
      obtain ⟨a', vs, rfl, ht, ol⟩ := own_tup o
      have ef := ownL_imm xs vs F hc.2 ol
      subst ef
      refine .inr ⟨a', vs, rfl, .inl (.inl ht), ?_, new_tup s (imms_sub hc.2 (cut_sub _ _ _)) (cut_own ol l h)⟩
      rw [ownL_len ol]
      exact hc.1
    · exact s.elim
  · rename_i xs
    split at s
    · rename_i hc
      obtain ⟨a', vs, F1, rfl, ht, ol, _⟩ := own_lst o
      have ef := ownL_imm xs vs F1 hc ol
      subst ef
      exact .inl ⟨a', vs, rfl, .inl (.inl ht), new_lst s (imms_sub hc (cut_sub _ _ _)) (cut_own ol l h)⟩
    · exact s.elim
  · rename_i xs
    split at s
    · rename_i hc
      obtain ⟨a', vs, rfl, ht, ol⟩ := own_fls o
      have ef := ownL_imm xs vs F hc ol
      subst ef
      exact .inl ⟨a', vs, rfl, ht, new_lst s (imms_sub hc (cut_sub _ _ _)) (cut_own ol l h)⟩
    · exact s.elim
  · exact s.elim
variable {lo hi : Option Expr} {ml mh : Evn → R (Option Int)} {p2 : Pos}
theorem sf_slice (hK : X.K = G.K) (ha : SE G X W m e) (hl : PO X lo (tO G W ml)) (hh : PO X hi (tO G W mh)) : SF G X W (mSl m ml mh) (.Subscript e (.Slice lo hi none p2) pos) := by
  refine PE.imp (pe_slice (sl_list.or sl_tup) ha hl hh) fun σ H Q ⟨ρ, E, s⟩ => ⟨ρ, E, ?_⟩
  refine (SatG.bind s).imp fun d _ ⟨_, q1⟩ v H1 F sm o => ⟨ρ, E.same sm, ?_⟩
  refine ((SatG.bind q1).imp fun l _ ⟨_, q2⟩ H2 sm2 => ⟨ρ, (E.same sm).same sm2, ?_⟩).later sm
  refine ((SatG.bind q2).imp fun h _ ⟨_, q3⟩ H3 sm3 => ?_).later (sm.trans sm2)
  refine sl_of hK (own_same (sm2.trans sm3) o) ?_
  cases hg : gSl d l h with
  | ok d' =>
    rw [hg] at q3
    intro v' H' F' sm' o' nd fr
    exact q3 v' H' F' (((sm.trans sm2).trans sm3).trans sm') o' nd fun x hx => ⟨sm.free (sm2.free (sm3.free (fr x hx).1)), (fr x hx).2⟩
  | exc c => rw [hg] at q3; exact q3.elim
  | no => rw [hg] at q3; exact q3.elim

/-! ### calls of built-in functions -/
def OpL (G : Gx) (r : List V → Hp → VK → Prop) (g : List D → R D) : Prop := ∀ (ds : List D) (vs : List V) (F : List Addr) (H : Hp) (Q : VK), OwnL G H ds vs F → SatF G W0 (g ds) [] H Q → r vs H Q
def mCall (g : List D → R D) (ms : Evn → R (List D)) : Evn → R D := fun ρ => (ms ρ).bind fun ds => match g ds with
  | .ok d => .ok d
  | _ => .no
variable {es : List Expr} {ms : Evn → R (List D)} {r : List V → Hp → VK → Prop} {g : List D → R D} {x : Str} {id T : String} {p : Pos}
theorem cb_of (hd : OpL G r g) {σ : St} {H : Hp} {Q : VK} {ρ : Evn} (E : EnvP G H σ ρ) (s : SatF G W (mCall g ms ρ) σ H Q) : tCB r (tA G W ms) σ H Q := by
  refine ⟨ρ, E, (SatG.bind s).imp fun ds _ ⟨_, p⟩ vs H1 F sm o => ?_⟩
  refine hd ds vs F H1 Q o ?_
  cases hg : g ds with
  | ok d =>
    rw [hg] at p
    intro v' H' F' sm' o' nd fr
    exact p v' H' F' (sm.trans sm') o' nd fun x hx => ⟨sm.free (fr x hx).1, (fr x hx).2⟩
  | exc c => rw [hg] at p; exact p.elim
  | no => rw [hg] at p; exact p.elim
theorem sf_callB (hc : CallR X (.builtin id) r) (hd : OpL G r g) (hg : Gl X x) (hm : X.mg x = none) (hv : bootBuiltins x = some (.builtin id)) (ha : SA G X W ms (e :: es)) (hn : x ≠ "__name__" := by decide) (hdb : (x == ("__debug__" : Str)) = false := by decide)
    (he : starEach (e :: es) X.env = (false, eval e X.env) :: starEach es X.env := by rfl) (hpl : (backTo pos (starEach es X.env)).any (·.1) = false := by rfl) : SF G X W (mCall g ms) (.Call (.Name x p) (e :: es) [] pos) :=
  PE.imp (pe_callB hc hg hm hv ha hn hdb he hpl) fun σ H Q ⟨ρ, E, s⟩ => cb_of hd E s
theorem sf_callTy (hc : CallR X (.type T) r) (hd : OpL G r g) (hg : Gl X x) (hm : X.mg x = none) (hv : bootBuiltins x = some (.type T)) (ha : SA G X W ms (e :: es)) (hn : x ≠ "__name__" := by decide) (hdb : (x == ("__debug__" : Str)) = false := by decide)
    (he : starEach (e :: es) X.env = (false, eval e X.env) :: starEach es X.env := by rfl) (hpl : (backTo pos (starEach es X.env)).any (·.1) = false := by rfl) : SF G X W (mCall g ms) (.Call (.Name x p) (e :: es) [] pos) :=
  PE.imp (pe_callTy hc hg hm hv ha hn hdb he hpl) fun σ H Q ⟨ρ, E, s⟩ => cb_of hd E s
theorem own1 {H : Hp} {d : D} {vs : List V} {F : List Addr} (o : OwnL G H [d] vs F) : ∃ v F1, vs = [v] ∧ Own G H d v F1 := by
  obtain ⟨v1, r1, F1, F2, rfl, o1, o2, _⟩ := ownL_cons.mp o
  obtain ⟨rfl, _⟩ := ownL_nil.mp o2
  exact ⟨v1, F1, rfl, o1⟩
theorem own2 {H : Hp} {d e : D} {vs : List V} {F : List Addr} (o : OwnL G H [d, e] vs F) : ∃ v w F1 F2, vs = [v, w] ∧ Own G H d v F1 ∧ Own G H e w F2 := by
  obtain ⟨v1, r1, F1, F2, rfl, o1, o2, _⟩ := ownL_cons.mp o
  obtain ⟨v2, F3, rfl, o3⟩ := own1 o2
  exact ⟨v1, v2, F1, F3, rfl, o1, o3⟩
/-- intsL of a list -/
def intsL : List D → Option (List Int)
  | [] => some []
  | .int i :: ds => (intsL ds).map (i :: ·)
  | _ => none
theorem ints_own {H : Hp} : ∀ {ds : List D} {ns : List Int} {vs : List V} {F : List Addr}, intsL ds = some ns → OwnL G H ds vs F → vs = ns.map V.int
  | [], ns, vs, F, h, o => by cases h; exact (ownL_nil.mp o).1
  | d :: ds, ns, vs, F, h, o => by
    obtain ⟨v1, r1, F1, F2, rfl, o1, o2, _⟩ := ownL_cons.mp o
    cases d with
    | int i =>
      simp only [intsL] at h
      cases e : intsL ds with
      | none => rw [e] at h; cases h
      | some ms =>
        rw [e] at h
        cases h
        obtain ⟨rfl, _⟩ := own_int.mp o1
        rw [ints_own e o2]; rfl
    | _ => cases h
theorem ints_map : ∀ ns : List Int, intsL (ns.map D.int) = some ns
  | [] => rfl
  | n :: ns => by simp [intsL, ints_map ns]
/-- len -/
def gLen : List D → R D
  | [d] => match d.seq with
    | some xs => .ok (.int xs.length)
    | none => match d with
      | .node (.dK ks) _ => .ok (.int ks.length)
      | .node (.dT ks) _ => .ok (.int ks.length)
      | _ => .no
  | _ => .no
def rLenA (K : PySem.W.Frag) : List V → Hp → VK → Prop := fun xs H Q => ∃ p, xs = [.ref p] ∧ ((∃ ys, (SqL K H p ys ∨ SqT K H p ys) ∧ Q (.int ys.length) H) ∨ (∃ kvs, Rd H p (.dK kvs) ∧ Q (.int kvs.length) H) ∨ ∃ kvs, Rd H p (.dT kvs) ∧ Q (.int kvs.length) H)
theorem call_lenA : CallR X (.builtin "len") (rLenA X.K) := by
  intro pins s σ H xs us Q I r h
  obtain ⟨p, rfl, h⟩ := h
  rcases h with ⟨ys, hs, q⟩ | ⟨kvs, hr, q⟩ | ⟨kvs, hr, q⟩
  · exact call_len_seq pins s σ H _ us Q I r ⟨p, ys, rfl, hs, q⟩
  · obtain ⟨u, rfl, rx⟩ := vals1 r
    obtain rfl : u = .ref p := rx
    exact d_len I hr fun t s' I' => ⟨.int kvs.length, H, I', ⟨t, rfl⟩, q⟩
  · obtain ⟨u, rfl, rx⟩ := vals1 r
    obtain rfl : u = .ref p := rx
    obtain ⟨z, hd, ys, rel, dd⟩ := dt_rd I.hok hr
    have hl : kvs.length = ys.length := Paired.length rel
    refine call_len_dictH hd dd (by rw [← hl]; rw [sizeLine_eq] at z; omega) ?_
    rw [← hl]
    exact ⟨.int ((kvs.length : Nat) : Int), H, I.tok _, ⟨_, rfl⟩, q⟩
theorem opl_len : OpL G (rLenA G.K) gLen := by
  intro ds vs F H Q o s
  unfold gLen at s
  split at s
  · rename_i d
    obtain ⟨v, F1, rfl, o1⟩ := own1 o
    cases hx : d.seq with
    | some xs =>
      rw [hx] at s
      obtain ⟨a', ws, F', rfl, hsq, ol, _⟩ := own_seq hx o1
      exact ⟨a', rfl, .inl ⟨ws, hsq, by rw [ownL_len ol]; exact leaf_int s⟩⟩
    | none =>
      rw [hx] at s
      dsimp only at s
      split at s
      · rename_i ks ds
        obtain ⟨a', kvs, F', rfl, rd, hk, ol, _⟩ := own_dK o1
        have e : kvs.length = ks.length := by have := congrArg List.length hk; simpa using this
        exact ⟨a', rfl, .inr (.inl ⟨kvs, rd, by rw [e]; exact leaf_int s⟩)⟩
      · rename_i ks ds
        obtain ⟨a', kvs, F', rfl, rd, hk, ol, _⟩ := own_dT o1
        have e : kvs.length = ks.length := by have := congrArg List.length hk; simpa using this
        exact ⟨a', rfl, .inr (.inr ⟨kvs, rd, by rw [e]; exact leaf_int s⟩)⟩
      · exact s.elim
  · exact s.elim
/-- min, max of two -/
def gMin2 : List D → R D
  | [.int i, .int j] => .ok (.int (if j < i then j else i))
  | _ => .no
def gMax2 : List D → R D
  | [.int i, .int j] => .ok (.int (if j > i then j else i))
  | _ => .no
theorem opl_min2 : OpL G (fun xs H Q => ∃ i j, xs = [.int i, .int j] ∧ Q (.int (if j < i then j else i)) H) gMin2 := by
  intro ds vs F H Q o s
  unfold gMin2 at s
  split at s
  · obtain ⟨v, w, F1, F2, rfl, o1, o2⟩ := own2 o
    obtain ⟨rfl, _⟩ := own_int.mp o1
    obtain ⟨rfl, _⟩ := own_int.mp o2
    exact ⟨_, _, rfl, leaf_int s⟩
  · exact s.elim
theorem opl_max2 : OpL G (fun xs H Q => ∃ i j, xs = [.int i, .int j] ∧ Q (.int (if j > i then j else i)) H) gMax2 := by
  intro ds vs F H Q o s
  unfold gMax2 at s
  split at s
  · obtain ⟨v, w, F1, F2, rfl, o1, o2⟩ := own2 o
    obtain ⟨rfl, _⟩ := own_int.mp o1
    obtain ⟨rfl, _⟩ := own_int.mp o2
    exact ⟨_, _, rfl, leaf_int s⟩
  · exact s.elim
/-- sum, min, max of a list -/
def gSum : List D → R D
  | [.node .lst xs] => match intsL xs with
    | some ns => .ok (.int ns.sum)
    | none => .no
  | _ => .no
theorem opl_sum : OpL G (rSum G.K) gSum := by
  intro ds vs F H Q o s
  unfold gSum at s
  split at s
  · rename_i xs
    obtain ⟨v, F1, rfl, o1⟩ := own1 o
    obtain ⟨a', ws, F', rfl, ht, ol, _⟩ := own_lst o1
    cases e : intsL xs with
    | none => rw [e] at s; exact s.elim
    | some ns =>
      rw [e] at s
      have ew := ints_own e ol
      subst ew
      exact ⟨a', ns, rfl, .inl (.inl ht), leaf_int s⟩
  · exact s.elim
def maxL : List Int → Int
  | [] => 0
  | [n] => n
  | n :: ns => max n (maxL ns)
def minL : List Int → Int
  | [] => 0
  | [n] => n
  | n :: ns => min n (minL ns)
theorem maxL_spec : ∀ {ns : List Int}, ns ≠ [] → maxL ns ∈ ns ∧ ∀ y ∈ ns, y ≤ maxL ns
  | [n], _ => by simp [maxL]
  | n :: m :: r, _ => by
    obtain ⟨h1, h2⟩ := maxL_spec (ns := m :: r) (by simp)
    show max n (maxL (m :: r)) ∈ n :: m :: r ∧ ∀ y ∈ n :: m :: r, y ≤ max n (maxL (m :: r))
    refine ⟨?_, fun y hy => ?_⟩
    · by_cases h : n ≤ maxL (m :: r)
      · rw [Int.max_eq_right h]; exact List.mem_cons_of_mem _ h1
      · rw [Int.max_eq_left (by omega)]; exact List.mem_cons_self
    · rcases List.mem_cons.mp hy with e | hy
      · subst e; exact Int.le_max_left _ _
      · exact Int.le_trans (h2 y hy) (Int.le_max_right _ _)
theorem minL_spec : ∀ {ns : List Int}, ns ≠ [] → minL ns ∈ ns ∧ ∀ y ∈ ns, minL ns ≤ y
  | [n], _ => by simp [minL]
  | n :: m :: r, _ => by
    obtain ⟨h1, h2⟩ := minL_spec (ns := m :: r) (by simp)
    show min n (minL (m :: r)) ∈ n :: m :: r ∧ ∀ y ∈ n :: m :: r, min n (minL (m :: r)) ≤ y
    refine ⟨?_, fun y hy => ?_⟩
    · by_cases h : n ≤ minL (m :: r)
      · rw [Int.min_eq_left h]; exact List.mem_cons_self
      · rw [Int.min_eq_right (by omega)]; exact List.mem_cons_of_mem _ h1
    · rcases List.mem_cons.mp hy with e | hy
      · subst e; exact Int.min_le_left _ _
      · exact Int.le_trans (Int.min_le_right _ _) (h2 y hy)
theorem maxL_uniq {ns : List Int} {m : Int} (h1 : m ∈ ns) (h2 : ∀ y ∈ ns, y ≤ m) : m = maxL ns := by
  have hne : ns ≠ [] := fun e => by rw [e] at h1; cases h1
  obtain ⟨q1, q2⟩ := maxL_spec hne
  exact Int.le_antisymm (q2 m h1) (h2 _ q1)
theorem minL_uniq {ns : List Int} {m : Int} (h1 : m ∈ ns) (h2 : ∀ y ∈ ns, m ≤ y) : m = minL ns := by
  have hne : ns ≠ [] := fun e => by rw [e] at h1; cases h1
  obtain ⟨q1, q2⟩ := minL_spec hne
  exact Int.le_antisymm (h2 _ q1) (q2 m h1)
def gMax1 : List D → R D
  | [.node .lst xs] => match intsL xs with
    | some ns => if ns ≠ [] then .ok (.int (maxL ns)) else .no
    | none => .no
  | _ => .no
def gMin1 : List D → R D
  | [.node .lst xs] => match intsL xs with
    | some ns => if ns ≠ [] then .ok (.int (minL ns)) else .no
    | none => .no
  | _ => .no
theorem opl_max1 : OpL G (rMax G.K) gMax1 := by
  intro ds vs F H Q o s
  unfold gMax1 at s
  split at s
  · rename_i xs
    obtain ⟨v, F1, rfl, o1⟩ := own1 o
    obtain ⟨a', ws, F', rfl, ht, ol, _⟩ := own_lst o1
    cases e : intsL xs with
    | none => rw [e] at s; exact s.elim
    | some ns =>
      rw [e] at s
      have ew := ints_own e ol
      subst ew
      by_cases hn : ns ≠ []
      · simp only [if_pos hn] at s
        exact ⟨a', ns, rfl, .inl (.inl ht), List.length_pos_iff.mpr hn, fun m h1 h2 => by rw [maxL_uniq h1 h2]; exact leaf_int s⟩
      · simp only [if_neg hn] at s
        exact s.elim
  · exact s.elim
theorem opl_min1 : OpL G (rMin G.K) gMin1 := by
  intro ds vs F H Q o s
  unfold gMin1 at s
  split at s
  · rename_i xs
    obtain ⟨v, F1, rfl, o1⟩ := own1 o
    obtain ⟨a', ws, F', rfl, ht, ol, _⟩ := own_lst o1
    cases e : intsL xs with
    | none => rw [e] at s; exact s.elim
    | some ns =>
      rw [e] at s
      have ew := ints_own e ol
      subst ew
      by_cases hn : ns ≠ []
      · simp only [if_pos hn] at s
        exact ⟨a', ns, rfl, .inl (.inl ht), List.length_pos_iff.mpr hn, fun m h1 h2 => by rw [minL_uniq h1 h2]; exact leaf_int s⟩
      · simp only [if_neg hn] at s
        exact s.elim
  · exact s.elim
def gMaxA (ds : List D) : R D := match ds with
  | [_] => gMax1 ds
  | _ => gMax2 ds
def gMinA (ds : List D) : R D := match ds with
  | [_] => gMin1 ds
  | _ => gMin2 ds
/-- int of a bool -/
def gInt : List D → R D
  | [.int i] => .ok (.int i)
  | [.bl k] => .ok (.int (if k then 1 else 0))
  | _ => .no
theorem opl_int : OpL G (fun xs H Q => (∃ i, xs = [.int i] ∧ Q (.int i) H) ∨ ∃ k, xs = [.bl k] ∧ Q (.int (if k then 1 else 0)) H) gInt := by
  intro ds vs F H Q o s
  unfold gInt at s
  split at s
  · obtain ⟨v, F1, rfl, o1⟩ := own1 o
    obtain ⟨rfl, _⟩ := own_int.mp o1
    exact .inl ⟨_, rfl, leaf_int s⟩
  · obtain ⟨v, F1, rfl, o1⟩ := own1 o
    obtain ⟨rfl, _⟩ := own_bl.mp o1
    exact .inr ⟨_, rfl, leaf_int s⟩
  · exact s.elim
/-- list(x) -/
def gList : List D → R D
  | [d] => match d.seq with
    | some xs => if D.imms xs = true then .ok (.node .lst xs) else .no
    | none => match d with
      | .node (.dT ks) _ => .ok (.node .lst (ks.map pairD))
      | _ => .no
  | _ => .no
def rListA (K : PySem.W.Frag) : List V → Hp → VK → Prop := fun xs H Q => (∃ p ys, xs = [.ref p] ∧ (SqL K H p ys ∨ SqT K H p ys) ∧ ∀ l, H l = none → Q (.ref l) (upd H l (.lst ys))) ∨
  ∃ d kvs, xs = [V.ref d] ∧ Rd H d (.dT kvs) ∧ ∀ p bs, H p = none → IsKeys H kvs bs → Q (.ref p) (upd H p (.lst (bs.map V.ref)))
theorem call_listA (hc : X.calm = true) : CallR X (.type "list") (rListA X.K) := CallR.or call_list_of (call_list_dT hc)
theorem keys_own {H : Hp} : ∀ {ks : List (Int × Int)} {kvs : List (List Key × V)} {bs : List Addr}, kvs.map (·.1) = ks.map kp → IsKeys H kvs bs → OwnL G H (ks.map pairD) (bs.map V.ref) []
  | [], kvs, bs, h, k => by
    have : kvs = [] := by simpa using h
    subst this
    cases k
    exact ownL_nil.mpr ⟨rfl, rfl⟩
  | p :: ks, kvs, bs, h, k => by
    cases k with
    | nil => simp at h
    | @cons q b kvs' bs' hb hr =>
      simp only [List.map_cons, List.cons.injEq] at h
      rw [List.map_cons, List.map_cons]
      refine ownL_cons.mpr ⟨_, _, [], [], rfl, ?_, keys_own h.2 hr, rfl⟩
      rw [h.1] at hb
      refine own_node.mpr ⟨b, _, [], rfl, hb, ?_, rfl⟩
      exact ownL_cons.mpr ⟨_, _, [], [], rfl, own_int.mpr ⟨rfl, rfl⟩, ownL_cons.mpr ⟨_, _, [], [], rfl, own_int.mpr ⟨rfl, rfl⟩, ownL_nil.mpr ⟨rfl, rfl⟩, rfl⟩, rfl⟩
theorem imms_pairs (ks : List (Int × Int)) : D.imms (ks.map pairD) = true := imms_iff.mpr fun d hd => by
  obtain ⟨p, _, rfl⟩ := List.mem_map.mp hd
  rfl
theorem opl_list : OpL G (rListA G.K) gList := by
  intro ds vs F H Q o s
  unfold gList at s
  split at s
  · rename_i d
    obtain ⟨v, F1, rfl, o1⟩ := own1 o
    cases hx : d.seq with
    | some xs =>
      rw [hx] at s
      dsimp only at s
      split at s
      · rename_i hi
        obtain ⟨a', ws, F', rfl, hsq, ol, _⟩ := own_seq hx o1
        exact .inl ⟨a', ws, rfl, hsq, new_lst s hi ol⟩
      · exact s.elim
    | none =>
      rw [hx] at s
      dsimp only at s
      split at s
      · rename_i ks ds
        obtain ⟨a', kvs, F', rfl, rd, hk, ol, _⟩ := own_dT o1
        exact .inr ⟨a', kvs, rfl, rd, fun p bs hp hb => new_lst s (imms_pairs ks) (keys_own hk hb) p hp⟩
      · exact s.elim
  · exact s.elim
/-- tuple(a list) -/
def gTuple : List D → R D
  | [.node .lst xs] => if D.imms xs = true then .ok (.node .tup xs) else .no
  | _ => .no
theorem opl_tuple : OpL G (fun xs H Q => ∃ p ys, xs = [.ref p] ∧ ((SqL G.K H p ys ∧ ∀ l, H l = none → Q (.ref l) (upd H l (.tup ys))) ∨ (SqT G.K H p ys ∧ Q (.ref p) H))) gTuple := by
  intro ds vs F H Q o s
  unfold gTuple at s
  split at s
  · rename_i xs
    obtain ⟨v, F1, rfl, o1⟩ := own1 o
    split at s
    · rename_i hi
      obtain ⟨a', ws, F', rfl, ht, ol, _⟩ := own_lst o1
      exact ⟨a', ws, rfl, .inl ⟨.inl (.inl ht), new_tup s hi ol⟩⟩
    · exact s.elim
  · exact s.elim
/-- sorted of pairs -/
def pairsOf : List D → Option (List (Int × Int))
  | [] => some []
  | d :: ds => match d.pair, pairsOf ds with
    | some p, some ps => some (p :: ps)
    | _, _ => none
theorem pairsOf_map : ∀ ps : List (Int × Int), pairsOf (ps.map pairD) = some ps
  | [] => rfl
  | p :: ps => by simp [pairsOf, pairsOf_map ps, D.pair, pairD]
def leP (p q : Int × Int) : Bool := decide (p.1 < q.1) || (decide (p.1 = q.1) && decide (p.2 ≤ q.2))
def sortP (ps : List (Int × Int)) : List (Int × Int) := ps.mergeSort leP
def gSorted : List D → R D
  | [.node .lst xs] => match pairsOf xs with
    | some ps => .ok (.node .lst ((sortP ps).map pairD))
    | none => .no
  | _ => .no
theorem leP_trans (a b c : Int × Int) (h1 : leP a b = true) (h2 : leP b c = true) : leP a c = true := by
  unfold leP at *
  simp only [Bool.or_eq_true, Bool.and_eq_true, decide_eq_true_eq] at *
  omega
theorem leP_total (a b : Int × Int) : (leP a b || leP b a) = true := by
  unfold leP
  simp only [Bool.or_eq_true, Bool.and_eq_true, decide_eq_true_eq]
  omega
theorem leP_anti {a b : Int × Int} (h1 : leP a b = true) (h2 : leP b a = true) : a = b := by
  unfold leP at *
  simp only [Bool.or_eq_true, Bool.and_eq_true, decide_eq_true_eq] at *
  apply Prod.ext <;> omega
theorem sorted_uniq : ∀ {l m : List (Int × Int)}, l.Perm m → l.Pairwise (fun x y => leP x y = true) → m.Pairwise (fun x y => leP x y = true) → l = m
  | [], m, h, _, _ => (List.Perm.eq_nil h.symm).symm
  | x :: l, [], h, _, _ => absurd h.length_eq (by simp)
  | x :: l, y :: m, h, hl, hm => by
    have e : x = y := by
      have hx : x ∈ y :: m := h.mem_iff.mp List.mem_cons_self
      have hy : y ∈ x :: l := h.mem_iff.mpr List.mem_cons_self
      rcases List.mem_cons.mp hx with e | hx
      · exact e
      · rcases List.mem_cons.mp hy with e | hy
        · exact e.symm
        · exact leP_anti ((List.pairwise_cons.mp hl).1 y hy) ((List.pairwise_cons.mp hm).1 x hx)
    subst e
    rw [sorted_uniq (List.perm_cons x |>.mp h) (List.pairwise_cons.mp hl).2 (List.pairwise_cons.mp hm).2]
theorem sortP_perm (ps : List (Int × Int)) : (sortP ps).Perm ps := List.mergeSort_perm ps leP
theorem sortP_up (ps : List (Int × Int)) : (sortP ps).Pairwise (fun x y => leP x y = true) := List.pairwise_mergeSort leP_trans leP_total ps
end
end Rs

set_option maxRecDepth 100000
/-! Rs5: statements. -/
namespace Rs
open PySem PySem.Spec PyProof.Rows L2

inductive RS where
  | nx (ρ : Evn) | rt (d : D) (ρ : Evn) | bk (ρ : Evn) | ct (ρ : Evn) | exc (c : Nat) (ρ : Evn) | no
def SatS (G : Gx) (W : WX) (T : List Nat) (D : Ends) (σ : St) (H : Hp) (f : Nat → List Addr) : RS → Prop
  | .nx ρ' => ∀ σ' H' f', EnvR G H' σ' ρ' f' → Lk T f σ H f' σ' H' → D.nx σ' H'
  | .bk ρ' => ∀ σ' H' f', EnvR G H' σ' ρ' f' → Lk T f σ H f' σ' H' → D.bk σ' H'
  | .ct ρ' => ∀ σ' H' f', EnvR G H' σ' ρ' f' → Lk T f σ H f' σ' H' → D.ct σ' H'
  | .rt d ρ' => ∀ v σ' H' f' F, EnvR G H' σ' ρ' f' → Lk T f σ H f' σ' H' → Own G H' d v F → F.Nodup → (∀ a ∈ F, (Fm f a ∨ H a = none) ∧ ¬ Fm f' a ∧ ∃ o, H' a = some o ∧ MutO o) → D.rt v H'
  | .exc c ρ' => ∀ σ' H' f', EnvR G H' σ' ρ' f' → Lk T f σ H f' σ' H' → W (.ref (G.cls c)) none σ' H'
  | .no => False
def tS (G : Gx) (W : WX) (T : List Nat) (m : Evn → RS) : TS := fun D σ H => ∃ ρ f, EnvR G H σ ρ f ∧ SatS G W T D σ H f (m ρ)
abbrev SS (G : Gx) (X : Cx) (W : WX) (T : List Nat) (m : Evn → RS) (s : Stmt) : Prop := PS X s (tS G W T m)
abbrev SSs (G : Gx) (X : Cx) (W : WX) (T : List Nat) (m : Evn → RS) (s : List Stmt) : Prop := PSs X s (tS G W T m)
def tN (G : Gx) (W : WX) (m : Evn → R D) : TE := fun σ H Q => ∃ ρ f, EnvR G H σ ρ f ∧ SatG G W (fun d => ∀ v H' F, Same H H' → Own G H' d v F → (∀ a ∈ F, ¬ Fm f a) → Q v H') σ H (m ρ)
abbrev SN (G : Gx) (X : Cx) (W : WX) (m : Evn → R D) (e : Expr) : Prop := PE X e (tN G W m)

section
variable {G : Gx} {W : WX} {σ σ1 : St} {H H1 H' : Hp} {f f1 : Nat → List Addr} {T T' : List Nat} {D : Ends} {r : RS} {ρ : Evn}
theorem Lk.tr {f2 : Nat → List Addr} {σ2 : St} {H2 : Hp} (a : Lk T f σ H f1 σ1 H1) (b : Lk T f1 σ1 H1 f2 σ2 H2) : Lk T f σ H f2 σ2 H2 := (a.trans b).mono fun j h => (List.mem_append.mp h).elim id id
theorem SatS.later (s : SatS G W T D σ H f r) (l : Lk T f σ H f1 σ1 H1) : SatS G W T D σ1 H1 f1 r := by
  cases r with
  | nx ρ' => exact fun σ' H' f' E k => s σ' H' f' E (l.tr k)
  | bk ρ' => exact fun σ' H' f' E k => s σ' H' f' E (l.tr k)
  | ct ρ' => exact fun σ' H' f' E k => s σ' H' f' E (l.tr k)
  | exc c ρ' => exact fun σ' H' f' E k => s σ' H' f' E (l.tr k)
  | no => exact s
  | rt d ρ' => exact fun v σ' H' f' F E k o nd q => s v σ' H' f' F E (l.tr k) o nd fun a ha => ⟨by
      rcases (q a ha).1 with z | z
      · exact l.new a z
      · exact l.free z, (q a ha).2⟩
theorem SatS.less (s : SatS G W T D σ H f r) (h : ∀ j ∈ T', j ∈ T) : SatS G W T' D σ H f r := by
  cases r with
  | nx ρ' => exact fun σ' H' f' E k => s σ' H' f' E (k.mono h)
  | bk ρ' => exact fun σ' H' f' E k => s σ' H' f' E (k.mono h)
  | ct ρ' => exact fun σ' H' f' E k => s σ' H' f' E (k.mono h)
  | exc c ρ' => exact fun σ' H' f' E k => s σ' H' f' E (k.mono h)
  | no => exact s
  | rt d ρ' => exact fun v σ' H' f' F E k o nd q => s v σ' H' f' F E (k.mono h) o nd q
/-- a pure thing ahead -/
theorem SatS.exc0 {c : Nat} (s : SatS G W T D σ H f (.exc c ρ)) (E : EnvR G H σ ρ f) : ∀ H', Same H H' → W (.ref (G.cls c)) none σ H' := fun H' sm => s σ H' f (E.same sm) (Lk.same sm)
theorem not_fm (E : EnvR G H σ ρ f) {F : List Addr} (h : ∀ a ∈ F, H a = none) : ∀ a ∈ F, ¬ Fm f a := fun a ha ⟨i, hi⟩ => by
  obtain ⟨o, e, _⟩ := E.un i a hi
  rw [h a ha] at e; cases e
/-- a slot gets a fresh thing -/
theorem EnvR.setOw (E : EnvR G H σ ρ f) (sm : Same H H') {i : Nat} {d : Rs.D} {v : V} {F : List Addr} (o : Own G H' d v F) (nd : F.Nodup) (fr : ∀ a ∈ F, H a = none ∧ ∃ o, H' a = some o ∧ MutO o) :
    ∃ f', EnvR G H' (σ.set i (some v)) (ρ.set i (.ow d)) f' ∧ Lk [i] f σ H f' (σ.set i (some v)) H' := by
  by_cases hi : i < ρ.length
  · have hσ : i < σ.length := by rw [E.len]; exact hi
    have nf := not_fm E fun a ha => (fr a ha).1
    refine ⟨fun j => if j = i then F else f j, ⟨by simp [E.len], fun j d' h => ?_, fun j d' h => ?_, fun j h => ?_, fun j => ?_, fun j k a h1 h2 => ?_, fun j a h => ?_⟩, ⟨Step.same sm, fun a ⟨j, h⟩ => ?_, fun j hj => ?_⟩⟩
    · by_cases e : j = i
      · subst e
        rw [List.getElem?_set_self hi] at h
        cases h
        exact ⟨v, List.getElem?_set_self hσ, by simpa using o⟩
      · rw [List.getElem?_set_ne (Ne.symm e)] at h
        obtain ⟨v', e1, o1⟩ := E.ow j d' h
        exact ⟨v', by rw [List.getElem?_set_ne (Ne.symm e)]; exact e1, by simpa [e] using own_same sm o1⟩
    · by_cases e : j = i
      · subst e
        rw [List.getElem?_set_self hi] at h
        cases h
      · rw [List.getElem?_set_ne (Ne.symm e)] at h
        obtain ⟨v', F', e1, o1, q⟩ := E.ro j d' h
        refine ⟨v', F', by rw [List.getElem?_set_ne (Ne.symm e)]; exact e1, own_same sm o1, fun a ha k => ?_⟩
        by_cases ek : k = i
        · simp only [ek, if_true]
          intro hF
          obtain ⟨o', e'⟩ := own_there d' v' F' o1 a ha
          rw [(fr a hF).1] at e'; cases e'
        · simp only [ek, if_false]
          exact q a ha k
    · by_cases e : j = i
      · subst e
        exact absurd (List.getElem?_set_self hi) (h d)
      · simp only [e, if_false]
        exact E.nil j fun d' q => h d' (by rw [List.getElem?_set_ne (Ne.symm e)]; exact q)
    · by_cases e : j = i
      · simp only [e, if_true]; exact nd
      · simp only [e, if_false]; exact E.nd j
    · by_cases ej : j = i
      · by_cases ek : k = i
        · rw [ej, ek]
        · simp only [ej, if_true] at h1
          simp only [ek, if_false] at h2
          exact absurd ⟨k, h2⟩ (nf a h1)
      · by_cases ek : k = i
        · simp only [ek, if_true] at h2
          simp only [ej, if_false] at h1
          exact absurd ⟨j, h1⟩ (nf a h2)
        · simp only [ej, if_false] at h1
          simp only [ek, if_false] at h2
          exact E.dj j k a h1 h2
    · by_cases ej : j = i
      · simp only [ej, if_true] at h
        exact (fr a h).2
      · simp only [ej, if_false] at h
        obtain ⟨o', e', m⟩ := E.un j a h
        exact ⟨o', sm _ _ e', m⟩
    · by_cases ej : j = i
      · simp only [ej, if_true] at h
        exact .inr (fr a h).1
      · simp only [ej, if_false] at h
        exact .inl ⟨j, h⟩
    · exact List.getElem?_set_ne (fun e => hj (by simp [e]))
  · have hσ : ¬ i < σ.length := by rw [E.len]; exact hi
    rw [List.set_eq_of_length_le (Nat.not_lt.mp hi), List.set_eq_of_length_le (Nat.not_lt.mp hσ)]
    exact ⟨f, E.same sm, Lk.same sm⟩
/-- a slot is read only, or forgotten, from now on -/
theorem EnvR.setRo (E : EnvR G H σ ρ f) {i : Nat} {d : Rs.D} {v : V} {F : List Addr} (o : Own G H d v F) (fr : ∀ a ∈ F, ¬ Fm f a) :
    ∃ f', EnvR G H (σ.set i (some v)) (ρ.set i (.ro d)) f' ∧ Lk [i] f σ H f' (σ.set i (some v)) H ∧ ∀ a, Fm f' a → Fm f a := by
  by_cases hi : i < ρ.length
  · have hσ : i < σ.length := by rw [E.len]; exact hi
    have sub : ∀ a, Fm (fun j => if j = i then [] else f j) a → Fm f a := fun a ⟨j, h⟩ => by
      by_cases ej : j = i
      · simp only [ej, if_true] at h; cases h
      · simp only [ej, if_false] at h; exact ⟨j, h⟩
    refine ⟨fun j => if j = i then [] else f j, ⟨by simp [E.len], fun j d' h => ?_, fun j d' h => ?_, fun j h => ?_, fun j => ?_, fun j k a h1 h2 => ?_, fun j a h => ?_⟩, ⟨fun a o e _ => e, fun a h => .inl (sub a h), fun j hj => ?_⟩, sub⟩
    · by_cases e : j = i
      · subst e
        rw [List.getElem?_set_self hi] at h
        cases h
      · rw [List.getElem?_set_ne (Ne.symm e)] at h
        obtain ⟨v', e1, o1⟩ := E.ow j d' h
        exact ⟨v', by rw [List.getElem?_set_ne (Ne.symm e)]; exact e1, by simpa [e] using o1⟩
    · by_cases e : j = i
      · subst e
        rw [List.getElem?_set_self hi] at h
        cases h
        exact ⟨v, F, List.getElem?_set_self hσ, o, fun a ha k hk => fr a ha (sub a ⟨k, hk⟩)⟩
      · rw [List.getElem?_set_ne (Ne.symm e)] at h
        obtain ⟨v', F', e1, o1, q⟩ := E.ro j d' h
        exact ⟨v', F', by rw [List.getElem?_set_ne (Ne.symm e)]; exact e1, o1, fun a ha k hk => by
          obtain ⟨k', hk'⟩ := sub a ⟨k, hk⟩
          exact q a ha k' hk'⟩
    · by_cases e : j = i
      · simp [e]
      · simp only [e, if_false]
        exact E.nil j fun d' q => h d' (by rw [List.getElem?_set_ne (Ne.symm e)]; exact q)
    · by_cases e : j = i
      · simp only [e, if_true]; exact List.nodup_nil
      · simp only [e, if_false]; exact E.nd j
    · by_cases ej : j = i
      · simp only [ej, if_true] at h1; cases h1
      · by_cases ek : k = i
        · simp only [ek, if_true] at h2; cases h2
        · simp only [ej, if_false] at h1
          simp only [ek, if_false] at h2
          exact E.dj j k a h1 h2
    · by_cases ej : j = i
      · simp only [ej, if_true] at h; cases h
      · simp only [ej, if_false] at h
        exact E.un j a h
    · exact List.getElem?_set_ne (fun e => hj (by simp [e]))
  · have hσ : ¬ i < σ.length := by rw [E.len]; exact hi
    rw [List.set_eq_of_length_le (Nat.not_lt.mp hi), List.set_eq_of_length_le (Nat.not_lt.mp hσ)]
    exact ⟨f, E, Lk.refl, fun a h => h⟩
/-- a slot is forgotten (its value stays in the frame) -/
theorem EnvR.setUn (E : EnvR G H σ ρ f) (i : Nat) : EnvR G H σ (ρ.set i .un) (fun j => if j = i ∧ i < ρ.length then [] else f j) := by
  by_cases hi : i < ρ.length
  · have sub : ∀ j a, a ∈ (if j = i ∧ i < ρ.length then [] else f j) → a ∈ f j ∧ j ≠ i := fun j a h => by
      by_cases ej : j = i
      · rw [if_pos ⟨ej, hi⟩] at h; cases h
      · rw [if_neg (fun q => ej q.1)] at h; exact ⟨h, ej⟩
    refine ⟨by simp [E.len], fun j d' h => ?_, fun j d' h => ?_, fun j h => ?_, fun j => ?_, fun j k a h1 h2 => E.dj j k a (sub j a h1).1 (sub k a h2).1, fun j a h => E.un j a (sub j a h).1⟩
    · by_cases e : j = i
      · subst e
        rw [List.getElem?_set_self hi] at h
        cases h
      · rw [List.getElem?_set_ne (Ne.symm e)] at h
        obtain ⟨v', e1, o1⟩ := E.ow j d' h
        exact ⟨v', e1, by rw [if_neg (fun q => e q.1)]; exact o1⟩
    · by_cases e : j = i
      · subst e
        rw [List.getElem?_set_self hi] at h
        cases h
      · rw [List.getElem?_set_ne (Ne.symm e)] at h
        obtain ⟨v', F', e1, o1, q⟩ := E.ro j d' h
        exact ⟨v', F', e1, o1, fun a ha k hk => q a ha k (sub k a hk).1⟩
    · by_cases e : j = i
      · rw [if_pos ⟨e, hi⟩]
      · rw [if_neg (fun q => e q.1)]
        exact E.nil j fun d' q => h d' (by rw [List.getElem?_set_ne (Ne.symm e)]; exact q)
    · by_cases e : j = i
      · rw [if_pos ⟨e, hi⟩]; exact List.nodup_nil
      · rw [if_neg (fun q => e q.1)]; exact E.nd j
  · rw [List.set_eq_of_length_le (Nat.not_lt.mp hi)]
    have : (fun j => if j = i ∧ i < ρ.length then [] else f j) = f := funext fun j => if_neg (fun q => hi q.2)
    rw [this]
    exact E
end

section
variable {G : Gx} {X : Cx} {W : WX} {T T' : List Nat} {e a b : Expr} {st : Stmt} {rest : List Stmt} {pos : Pos} {m : Evn → R D} {ms mt : Evn → RS}
theorem SS.more (h : SS G X W T ms st) (i : ∀ j ∈ T, j ∈ T') : SS G X W T' ms st := PS.imp h fun D σ H ⟨ρ, f, E, s⟩ => ⟨ρ, f, E, s.less i⟩
theorem SSs.more (h : SSs G X W T ms rest) (i : ∀ j ∈ T, j ∈ T') : SSs G X W T' ms rest := PSs.imp h fun D σ H ⟨ρ, f, E, s⟩ => ⟨ρ, f, E, s.less i⟩
def mNx : Evn → RS := fun ρ => .nx ρ
def mSeq (m1 m2 : Evn → RS) : Evn → RS := fun ρ => match m1 ρ with
  | .nx ρ' => m2 ρ'
  | r => r
theorem ss_nil : SSs G X W [] mNx [] := PSs.imp pss_nil fun D σ H ⟨ρ, f, E, s⟩ => s σ H f E Lk.refl
theorem ss_pass : SS G X W [] mNx (.Pass pos) := PS.imp ps_pass fun D σ H ⟨ρ, f, E, s⟩ => s σ H f E Lk.refl
theorem ss_one (h : SS G X W T ms st) : SSs G X W T ms [st] := pss_one h
theorem ss_cons (h : SS G X W T ms st) (hr : SSs G X W T' mt rest) : SSs G X W (T ++ T') (mSeq ms mt) (st :: rest) := PSs.imp (pss_cons h hr) fun D σ H ⟨ρ, f, E, s⟩ => ⟨ρ, f, E, by
  unfold mSeq at s
  have up : ∀ j ∈ T, j ∈ T ++ T' := fun j h => List.mem_append_left _ h
  have up' : ∀ j ∈ T', j ∈ T ++ T' := fun j h => List.mem_append_right _ h
  cases e : ms ρ with
  | nx ρ' =>
    rw [e] at s
    intro σ' H' f' E' l
    exact ⟨ρ', f', E', (SatS.later s (l.mono up)).less up'⟩
  | rt d ρ' => rw [e] at s; exact SatS.less (r := .rt d ρ') s up
  | bk ρ' => rw [e] at s; exact SatS.less (r := .bk ρ') s up
  | ct ρ' => rw [e] at s; exact SatS.less (r := .ct ρ') s up
  | exc c ρ' => rw [e] at s; exact SatS.less (r := .exc c ρ') s up
  | no => rw [e] at s; exact s⟩
def mSet (i : Nat) (m : Evn → R D) : Evn → RS := fun ρ => match m ρ with
  | .ok d => .nx (ρ.set i (.ow d))
  | .exc c => .exc c ρ
  | .no => .no
theorem satF_of {σ : St} {H : Hp} {Q : VK} {r : R D} {P : Prop} (h1 : ∀ d, r = .ok d → ∀ v H' F, Same H H' → Own G H' d v F → F.Nodup → (∀ a ∈ F, H a = none ∧ ∃ o, H' a = some o ∧ MutO o) → Q v H') (h2 : ∀ c, r = .exc c → ∀ H', Same H H' → W (.ref (G.cls c)) none σ H') (h3 : r = .no → False) : SatF G W r σ H Q := by
  cases r with
  | ok d => exact h1 d rfl
  | exc c => exact h2 c rfl
  | no => exact h3 rfl
theorem ss_set (i : Nat) {x : Str} {pos' : Pos} (hN : X.N.Nodup) (he : SF G X W m e) (hi : X.N[i]? = some x := by rfl) (hx : Loc X.env.scope x := by first | exact Or.inl rfl | exact Or.inr rfl) (hs : swapsWith e (some (.Name x pos')) pos.line X.env = pure false := by rfl) (hf : X.fn x = true ∨ X.env.scope.names.lookup x = some .local := by first | exact .inl rfl | exact .inr rfl | assumption) :
    SS G X W [i] (mSet i m) (.Assign [.Name x pos'] e pos) := PS.imp (ps_set hN hi hx he hs hf) fun D σ H ⟨ρ, f, E, s⟩ => ⟨ρ, E.p, by
  unfold mSet at s
  cases e1 : m ρ with
  | ok d =>
    rw [e1] at s
    intro v H' F sm o nd fr
    obtain ⟨f', E', l⟩ := E.setOw sm (i := i) o nd fr
    exact s _ _ _ E' l
  | exc c => rw [e1] at s; exact s.exc0 E
  | no => rw [e1] at s; exact s⟩
/-- a value is dropped -/
def mDrop (m : Evn → R D) : Evn → RS := fun ρ => match m ρ with
  | .ok _ => .nx ρ
  | .exc c => .exc c ρ
  | .no => .no
theorem ss_expr (he : SE G X W m e) (hs : swapsWith e none pos.line X.env = pure false := by rfl) : SS G X W [] (mDrop m) (.Expr e pos) := PS.imp (ps_expr he hs) fun D σ H ⟨ρ, f, E, s⟩ => ⟨ρ, E.p, by
  unfold mDrop at s
  cases e1 : m ρ with
  | ok d => rw [e1] at s; exact fun v H' F sm o => s σ H' f (E.same sm) (Lk.same sm)
  | exc c => rw [e1] at s; exact s.exc0 E
  | no => rw [e1] at s; exact s⟩
def mRet (m : Evn → R D) : Evn → RS := fun ρ => match m ρ with
  | .ok d => .rt d ρ
  | .exc c => .exc c ρ
  | .no => .no
theorem ss_ret (he : SF G X W m e) : SS G X W [] (mRet m) (.Return (some e) pos) := PS.imp (ps_ret he) fun D σ H ⟨ρ, f, E, s⟩ => ⟨ρ, E.p, by
  unfold mRet at s
  cases e1 : m ρ with
  | ok d => rw [e1] at s; exact fun v H' F sm o nd fr => s v σ H' f F (E.same sm) (Lk.same sm) o nd fun a ha => ⟨.inr (fr a ha).1, not_fm E (fun a ha => (fr a ha).1) a ha, (fr a ha).2⟩
  | exc c => rw [e1] at s; exact s.exc0 E
  | no => rw [e1] at s; exact s⟩
/-- a name's value goes out -/
def mRetV (i : Nat) : Evn → RS := fun ρ => match ρ[i]? with
  | some (.ow d) => .rt d (ρ.set i .un)
  | some (.ro d) => if d.imm = true then .rt d ρ else .no
  | _ => .no
theorem ss_retV (i : Nat) {x : Str} {pos' : Pos} (hN : X.N[i]? = some x := by rfl) (hv : Vis X.env.scope x := by first | exact Or.inl rfl | exact Or.inr (Or.inl rfl) | exact Or.inr (Or.inr rfl))
    (hd : (x == ("__debug__" : Str)) = false := by decide) (hcd : (x == ("__classdict__" : Str)) = false := by decide) : SS G X W [] (mRetV i) (.Return (some (.Name x pos')) pos) := PS.imp (ps_ret (pe_var hN hv hd hcd)) fun D σ H ⟨ρ, f, E, s⟩ => by
  unfold mRetV at s
  split at s
  · rename_i d h
    obtain ⟨v, e1, o⟩ := E.ow i d h
    refine ⟨v, e1, s v σ H _ (f i) (E.setUn i) ⟨fun a o e _ => e, fun a ⟨j, hj⟩ => ?_, fun _ _ => rfl⟩ o (E.nd i) fun a ha => ⟨.inl ⟨i, ha⟩, ?_, E.un i a ha⟩⟩
    · dsimp only at hj
      split at hj
      · cases hj
      · exact .inl ⟨j, hj⟩
    · rintro ⟨j, hj⟩
      dsimp only at hj
      split at hj
      · cases hj
      · rename_i hn
        have := E.dj i j a ha hj
        subst this
        exact hn ⟨rfl, (List.getElem?_eq_some_iff.mp h).1⟩
  · rename_i d h
    split at s
    · rename_i hi
      obtain ⟨v, F, e1, o, _⟩ := E.ro i d h
      have ef := own_imm d v F hi o
      subst ef
      exact ⟨v, e1, s v σ H f [] E Lk.refl o List.nodup_nil fun a ha => by cases ha⟩
    · exact s.elim
  · exact s.elim
theorem ss_retN : SS G X W [] (fun ρ => .rt .non ρ) (.Return none pos) := PS.imp ps_retN fun D σ H ⟨ρ, f, E, s⟩ => s .non σ H f [] E Lk.refl (own_non.mpr ⟨rfl, rfl⟩) List.nodup_nil fun a ha => by cases ha
def mIf (c : Evn → R Bool) (m1 m2 : Evn → RS) : Evn → RS := fun ρ => match c ρ with
  | .ok b => if b = true then m1 ρ else m2 ρ
  | .exc c => .exc c ρ
  | .no => .no
variable {c : Expr} {cm : Evn → R Bool} {s1 s2 : List Stmt}
theorem ss_if (hc : ST G X W cm c) (h1 : SSs G X W T ms s1) (h2 : SSs G X W T' mt s2) : SS G X W (T ++ T') (mIf cm ms mt) (.If c s1 s2 pos) := PS.imp (ps_if hc h1 h2) fun D σ H ⟨ρ, f, E, s⟩ => ⟨ρ, E.p, by
  unfold mIf at s
  cases e1 : cm ρ with
  | ok b =>
    rw [e1] at s
    intro H' sm
    cases b with
    | true => exact ⟨ρ, f, E.same sm, (SatS.later s (Lk.same sm)).less fun j h => List.mem_append_left _ h⟩
    | false => exact ⟨ρ, f, E.same sm, (SatS.later s (Lk.same sm)).less fun j h => List.mem_append_right _ h⟩
  | exc c => rw [e1] at s; exact s.exc0 E
  | no => rw [e1] at s; exact s⟩
/-! ### while -/
def whileL (c : Evn → R Bool) (b : Evn → RS) : Nat → Evn → RS
  | 0, _ => .no
  | n + 1, ρ => match c ρ with
    | .ok k => if k = true then (match b ρ with
      | .nx ρ' => whileL c b n ρ'
      | .ct ρ' => whileL c b n ρ'
      | .bk ρ' => .nx ρ'
      | r => r) else .nx ρ
    | .exc e => .exc e ρ
    | .no => .no
theorem ss_while (n : Nat) (hp : PassesOwn (model X.prog X.w) X.A X.env X.xe) (hc : ST G X W cm c) (hb : SSs G X W T ms s1) : SS G X W T (whileL cm ms n) (.While c s1 [] pos) := PS.imp (ps_while hp hc hb) fun D σ H ⟨ρ, f, E, s⟩ => by
  refine ⟨fun n σ H => ∃ ρ f, EnvR G H σ ρ f ∧ SatS G W T D σ H f (whileL cm ms n ρ), ⟨n, ρ, f, E, s⟩, ?_⟩
  rintro n σ H ⟨ρ, f, E, s⟩
  cases n with
  | zero => exact s.elim
  | succ n =>
    refine ⟨ρ, E.p, ?_⟩
    unfold whileL at s
    cases e1 : cm ρ with
    | exc c => rw [e1] at s; exact s.exc0 E
    | no => rw [e1] at s; exact s
    | ok k =>
      rw [e1] at s
      intro H' sm
      cases k with
      | false => exact s σ H' f (E.same sm) (Lk.same sm)
      | true =>
        rw [if_pos rfl]
        refine ⟨fun σ' H' => ∃ ρ f, EnvR G H' σ' ρ f ∧ SatS G W T D σ' H' f (whileL cm ms n ρ), fun σ' H' h => ⟨n, Nat.lt_succ_self n, h⟩, ρ, f, E.same sm, ?_⟩
        have s' : SatS G W T D σ H f (match ms ρ with
          | .nx ρ' => whileL cm ms n ρ'
          | .ct ρ' => whileL cm ms n ρ'
          | .bk ρ' => .nx ρ'
          | r => r) := s
        cases e2 : ms ρ with
        | nx ρ' => rw [e2] at s'; exact fun σ2 H2 f2 E2 l => ⟨ρ', f2, E2, SatS.later s' ((Lk.same sm).tr l)⟩
        | ct ρ' => rw [e2] at s'; exact fun σ2 H2 f2 E2 l => ⟨ρ', f2, E2, SatS.later s' ((Lk.same sm).tr l)⟩
        | bk ρ' => rw [e2] at s'; exact fun σ2 H2 f2 E2 l => s' σ2 H2 f2 E2 ((Lk.same sm).tr l)
        | rt d ρ' => rw [e2] at s'; exact SatS.later (r := .rt d ρ') (D := { D with nx := _, ct := _, bk := D.nx }) s' (Lk.same sm)
        | exc c ρ' => rw [e2] at s'; exact SatS.later (r := .exc c ρ') (D := { D with nx := _, ct := _, bk := D.nx }) s' (Lk.same sm)
        | no => rw [e2] at s'; exact s'
/-! ### for -/
def forL (i : Nat) (body : Evn → RS) : List D → Evn → RS
  | [], ρ => .nx ρ
  | x :: xs, ρ => match body (ρ.set i (.ro x)) with
    | .nx ρ' => forL i body xs ρ'
    | .ct ρ' => forL i body xs ρ'
    | .bk ρ' => .nx ρ'
    | r => r
/-- the heart of a for's turn -/
theorem for_turn {D : Ends} {i : Nat} {x : Rs.D} {xs : List Rs.D} {ρ : Evn} {f : Nat → List Addr} {σ : St} {H : Hp} {v : V} {F : List Addr} {P : St → Hp → Prop} (E : EnvR G H σ ρ f) (o : Own G H x v F) (fr : ∀ a ∈ F, ¬ Fm f a) (s : SatS G W (i :: T) D σ H f (forL i ms (x :: xs) ρ))
    (next : ∀ ρ' f' σ' H', EnvR G H' σ' ρ' f' → Lk (i :: T) f σ H f' σ' H' → SatS G W (i :: T) D σ' H' f' (forL i ms xs ρ') → P σ' H') :
    tS G W T ms { D with nx := P, ct := P, bk := D.nx } (σ.set i (some v)) H := by
  obtain ⟨f', E', l, _⟩ := E.setRo (i := i) o fr
  refine ⟨ρ.set i (.ro x), f', E', ?_⟩
  have l1 : Lk (i :: T) f σ H f' (σ.set i (some v)) H := l.mono fun j h => by
    have : j = i := by simpa using h
    subst this
    exact List.mem_cons_self
  have up : ∀ j ∈ T, j ∈ i :: T := fun j h => List.mem_cons_of_mem _ h
  unfold forL at s
  cases e2 : ms (ρ.set i (.ro x)) with
  | nx ρ' => rw [e2] at s; exact fun σ2 H2 f2 E2 l2 => next ρ' f2 σ2 H2 E2 (l1.tr (l2.mono up)) (SatS.later s (l1.tr (l2.mono up)))
  | ct ρ' => rw [e2] at s; exact fun σ2 H2 f2 E2 l2 => next ρ' f2 σ2 H2 E2 (l1.tr (l2.mono up)) (SatS.later s (l1.tr (l2.mono up)))
  | bk ρ' => rw [e2] at s; exact fun σ2 H2 f2 E2 l2 => s σ2 H2 f2 E2 (l1.tr (l2.mono up))
  | rt d ρ' => rw [e2] at s; exact (SatS.later (r := .rt d ρ') (D := { D with nx := P, ct := P, bk := D.nx }) s l1).less up
  | exc c ρ' => rw [e2] at s; exact (SatS.later (r := .exc c ρ') (D := { D with nx := P, ct := P, bk := D.nx }) s l1).less up
  | no => rw [e2] at s; exact s
def mFor (i : Nat) (it : Evn → R D) (body : Evn → RS) : Evn → RS := fun ρ => match it ρ with
  | .ok d => match d.seq with
    | some xs => forL i body xs ρ
    | none => .no
  | .exc c => .exc c ρ
  | .no => .no
theorem PS.or {X : Cx} {s : Stmt} {t t' : TS} (h : PS X s t) (h' : PS X s t') : PS X s fun D σ H => t D σ H ∨ t' D σ H :=
  ⟨fun pins s σ H D I q => q.elim (h.run pins s σ H D I) (h'.run pins s σ H D I)⟩
theorem Step.node {M : Addr → Prop} {H H' : Hp} {h : Hd} {a : Addr} {vs : List V} (s : Step M H H') (n : NodeAt G H h a vs) (hm : h.mu = true → ¬ M a) : NodeAt G H' h a vs := by
  cases e : h.mu with
  | true => exact nodeAt_keep (Kp.of fun o' e' => s _ _ e' fun m => absurd m (hm e)) n
  | false => exact nodeAt_imm e (fun b o e im => Kp.of fun o' e' => s _ _ e' fun _ => by rw [e] at e'; cases e'; exact im) n
theorem ss_for (i : Nat) {x : Str} {p : Pos} {iter : Expr} {it : Evn → R D} (hK : X.K = G.K) (hN : X.N.Nodup) (hp : PassesOwn (model X.prog X.w) X.A X.env X.xe) (hcalm : X.calm = true) (hi : SN G X W it iter) (hb : SSs G X W T ms s1)
    (hx : X.N[i]? = some x := by rfl) (hl : Loc X.env.scope x := by first | exact Or.inl rfl | exact Or.inr rfl) (hf : X.fn x = true ∨ X.env.scope.names.lookup x = some .local := by first | exact .inl rfl | exact .inr rfl | assumption)
    (hs : ∀ y, foldedSetIterable iter X.env y = pure y := by intro _; rfl) : SS G X W (i :: T) (mFor i it ms) (.For (.Name x p) iter s1 [] pos) := by
  refine PS.imp (PS.or (ps_for hp hcalm (pi_list hi) (pg_name hN hx hl hf) hb hs) (ps_for hp hcalm (pi_tup hi) (pg_name hN hx hl hf) hb hs)) fun D σ H ⟨ρ, f, E, s⟩ => ?_
  unfold mFor at s
  cases e1 : it ρ with
  | exc c => rw [e1] at s; exact .inl ⟨ρ, f, E, by rw [e1]; exact s.exc0 E⟩
  | no => rw [e1] at s; exact s.elim
  | ok d =>
    rw [e1] at s
    dsimp only at s
    cases hx : d.seq with
    | none => rw [hx] at s; exact s.elim
    | some xs =>
      rw [hx] at s
      dsimp only at s
      -- the head and the items stand through the loop
      obtain ⟨hd, rfl⟩ : ∃ hd, d = .node hd xs := by
        unfold Rs.D.seq at hx
        split at hx <;> first | (cases hx; exact ⟨_, rfl⟩) | cases hx
      have main : ∀ (a : Addr) (vs : List V) (F1 : List Addr) (H1 : Hp), Same H H1 → NodeAt G H1 hd a vs → OwnL G H1 xs vs F1 → (∀ b ∈ F1, ¬ Fm f b) → (hd.mu = true → ¬ Fm f a) →
          ∃ Pv : Nat → St → Hp → Prop, Pv 0 σ H1 ∧ (∀ k σ' H', Pv k σ' H' → NodeAt G H' hd a vs) ∧
            (∀ k y σ' H', vs[k]? = some y → Pv k σ' H' → gName i y σ' H' fun σ2 H2 => tS G W T ms { D with nx := Pv (k + 1), ct := Pv (k + 1), bk := D.nx } σ2 H2) ∧ ∀ σ' H', Pv vs.length σ' H' → D.nx σ' H' := by
        intro a vs F1 H1 sm n ol fF fa
        refine ⟨fun k σ' H' => ∃ ρ' f', EnvR G H' σ' ρ' f' ∧ NodeAt G H' hd a vs ∧ OwnL G H' xs vs F1 ∧ (∀ b ∈ F1, ¬ Fm f' b) ∧ (hd.mu = true → ¬ Fm f' a) ∧ SatS G W (i :: T) D σ' H' f' (forL i ms (xs.drop k) ρ'),
          ⟨ρ, f, E.same sm, n, ol, fF, fa, by simpa using SatS.later s (Lk.same sm)⟩, fun k σ' H' ⟨ρ', f', _, n', _⟩ => n', fun k y σ' H' hy ⟨ρ', f', E', n', ol', fF', fa', s'⟩ => ?_, fun σ' H' ⟨ρ', f', E', n', ol', fF', fa', s'⟩ => ?_⟩
        · have hk : k < xs.length := by
            have := (List.getElem?_eq_some_iff.mp hy).1
            rw [ownL_len ol'] at this; exact this
          obtain ⟨v, Fi, e3, o3, sub⟩ := ownL_get ol' (List.getElem?_eq_getElem hk)
          rw [hy] at e3; cases e3
          rw [List.drop_eq_getElem_cons hk] at s'
          refine for_turn E' o3 (fun b hb => fF' b (sub b hb)) s' fun ρ2 f2 σ2 H2 E2 l2 s2 => ⟨ρ2, f2, E2, l2.step.node n' fa', l2.step.ownL (fun b hb => fF' b hb) ol', fun b hb hm => ?_, fun hm hq => ?_, s2⟩
          · rcases l2.new b hm with z | z
            · exact fF' b hb z
            · obtain ⟨o', e'⟩ := ownL_there xs vs F1 ol' b hb
              rw [z] at e'; cases e'
          · rcases l2.new a hq with z | z
            · exact fa' hm z
            · obtain ⟨o', e'⟩ := nodeAt_there hm n'
              rw [z] at e'; cases e'
        · rw [ownL_len ol', List.drop_length] at s'
          exact s' σ' H' f' E' Lk.refl
      have start : ∀ (Q : V → Hp → Prop), (∀ a vs F1 H1, Same H H1 → NodeAt G H1 hd a vs → OwnL G H1 xs vs F1 → (∀ b ∈ F1, ¬ Fm f b) → (hd.mu = true → ¬ Fm f a) → Q (.ref a) H1) → tN G W it σ H Q := fun Q q => by
        refine ⟨ρ, f, E, ?_⟩
        rw [e1]
        intro v H1 F sm o fr
        obtain ⟨a, vs, F1, rfl, n, ol, ef⟩ := own_node.mp o
        refine q a vs F1 H1 sm n ol (fun b hb => fr b ?_) fun hm => fr a ?_
        · rw [ef]; cases hd.mu <;> simp [hb]
        · rw [ef, hm]; simp
      cases hd with
      | lst =>
        refine .inl (start _ fun a vs F1 H1 sm n ol fF fa => ?_)
        obtain ⟨Pv, p0, pn, pt, pe⟩ := main a vs F1 H1 sm n ol fF fa
        exact ⟨a, rfl, ⟨vs, .inl (.inl n)⟩, for_list Pv p0 (fun k σ' H' _ q => .inl (.inl (pn k σ' H' q))) pt pe⟩
      | fls =>
        have sq : ∀ {H' : Hp} {a : Addr} {vs : List V}, NodeAt G H' .fls a vs → SqL X.K H' a vs := fun {H' a vs} n => by
          rw [hK]
          rcases n with ⟨q, n⟩ | n
          · exact .inl (.inr ⟨q, n⟩)
          · exact n H'
        refine .inl (start _ fun a vs F1 H1 sm n ol fF fa => ?_)
        obtain ⟨Pv, p0, pn, pt, pe⟩ := main a vs F1 H1 sm n ol fF fa
        exact ⟨a, rfl, ⟨vs, sq n⟩, for_list Pv p0 (fun k σ' H' _ q => sq (pn k σ' H' q)) pt pe⟩
      | tup =>
        refine .inr (start _ fun a vs F1 H1 sm n ol fF fa => ?_)
        obtain ⟨Pv, p0, pn, pt, pe⟩ := main a vs F1 H1 sm n ol fF fa
        exact ⟨a, rfl, ⟨vs, .inl (.inl n)⟩, for_tup Pv p0 (fun k σ' H' _ q => .inl (.inl (pn k σ' H' q))) pt pe⟩
      | dK _ => cases hx
      | dT _ => cases hx
      | ins => cases hx
/-! ### what may be walked -/
theorem sn_sf (h : SF G X W m e) : SN G X W m e := PE.imp h fun σ H Q ⟨ρ, f, E, s⟩ => ⟨ρ, E.p, SatG.imp s fun d _ p v H' F sm o nd fr => p v H' F sm o (not_fm E fun a ha => (fr a ha).1)⟩
def mRo (i : Nat) : Evn → R D := fun ρ => match ρ[i]? with
  | some (.ro d) => .ok d
  | some (.ow d) => if d.imm = true then .ok d else .no
  | _ => .no
theorem sn_var (i : Nat) {x : Str} (hN : X.N[i]? = some x := by rfl) (hv : Vis X.env.scope x := by first | exact Or.inl rfl | exact Or.inr (Or.inl rfl) | exact Or.inr (Or.inr rfl))
    (hd : (x == ("__debug__" : Str)) = false := by decide) (hcd : (x == ("__classdict__" : Str)) = false := by decide) : SN G X W (mRo i) (.Name x pos) := PE.imp (pe_var hN hv hd hcd) fun σ H Q ⟨ρ, f, E, s⟩ => by
  unfold mRo at s
  split at s
  · rename_i d h
    obtain ⟨v, F, e1, o, q⟩ := E.ro i d h
    exact ⟨v, e1, s v H F (Same.refl H) o fun a ha ⟨j, hj⟩ => q a ha j hj⟩
  · rename_i d h
    split at s
    · rename_i hi
      obtain ⟨v, e1, o⟩ := E.ow i d h
      have ef := own_imm d v _ hi o
      exact ⟨v, e1, s v H _ (Same.refl H) o fun a ha => by rw [ef] at ha; cases ha⟩
    · exact s.elim
  · exact s.elim
end
end Rs

set_option maxRecDepth 100000
/-! Rs6: ranges of any size, dicts walked, frozen slots. -/
namespace Rs
open PySem PySem.Spec PyProof.Rows L2

theorem turn_long {P : Program} {w : World} {K : PySem.W.Frag} {tg : Expr} (it : Addr) (lo : Int) (n : Nat) : Turn P w K tg (Itr lo n) [it] it (fun i h => IsLongIter h it (lo + (i : Nat) * 1) ((n : Int) - (i : Nat)) 1) where
  mem := by simp
  obj := fun i h st b hb => by
    have e : b = it := by simpa using hb
    subst e
    exact ⟨_, st, fun v z => by
      have z' : Data.fields _ = Data.cell v := z
      cases z'⟩
  keep := fun i h h' st k => k it (by simp) _ st
  item := by
    intro X hP hw hK hc i pins s σ H E I hf st hg
    subst hP hw hK
    obtain ⟨f0, f1, f2, f3, f4, f5⟩ := hf it (by simp)
    have W := Walks.longrange (prog := X.prog) (w := X.w) (I.ok.hd hc) it lo 1 n
    refine W.item i s _ _ hg st fun v h' tk hv st' kk => ?_
    obtain ⟨t, rfl⟩ := hv
    have I1 : Inv X pins σ H { s with heap := h', toks := tk } := I.turned (fun b o hb e => kk b o (by simpa using hb) e) f0 f1 f3 f4 f5
    refine ⟨_, rfl, go_of (s := { s with heap := h', toks := tk }) (n := "longrange_iterator") st' rfl rfl (by decide) ⟨.int (lo + i), H, I1, ⟨t, ?_⟩, ⟨rfl, rfl⟩, st', fun b hb => (hf b hb).1⟩⟩
    rw [Int.mul_one]
  done := by
    intro X hP hw hK hc i pins s σ H E I hf st hg
    subst hP hw hK
    obtain ⟨f0, f1, f2, f3, f4, f5⟩ := hf it (by simp)
    exact wpAny_pyNext_long_end (I.ok.hd hc) st (by have : n ≤ i := hg; omega) fun h' eb => ⟨rfl, I.turned (t' := s.toks) (fun b o hb e => eb b o hb e) f0 f1 f3 f4 f5⟩
  self := fun _ _ _ _ _ st h => wpAny_pyIter_longiter st h
section
variable {X : Cx} {tg : Expr}
theorem range_itA {pins : List (Addr × Obj)} {σ : St} {H : Hp} {s : Shared} {R : It → Hp → Prop} {E : Value → Shared → Prop} {lo hi : Int} {t u v : Tok} {tk : Nat} (I : Inv X pins σ H s)
    (q : R (Itr lo (hi - lo).toNat) H) : wpAny (model X.prog X.w) X.A (pyIter (.ref s.heap.objs.size)) (PIE X pins σ tg R) E { s with heap := s.heap.push { cls := .type "range", data := .fields #[.int lo t, .int hi u, .int 1 v] }, toks := tk } := by
  have I1 : Inv X pins σ H { s with heap := s.heap.push { cls := .type "range", data := .fields #[.int lo t, .int hi u, .int 1 v] }, toks := tk } := I.kept fun b o e => Heap.get?_push_of_some _ e
  have e1 : lo + ((0 : Nat) : Int) * 1 = lo := by simp
  have e2 : (((hi - lo).toNat : Nat) : Int) - ((0 : Nat) : Int) = Builtin.Range.rangeSize lo hi 1 := by rw [rangeSize_one]; split <;> omega
  have fin : ∀ b ∈ [(s.heap.push { cls := .type "range", data := .fields #[.int lo t, .int hi u, .int 1 v] }).objs.size], FpOk X pins H b := fun b hb => by
    have e : b = (s.heap.push { cls := .type "range", data := .fields #[.int lo t, .int hi u, .int 1 v] }).objs.size := by simpa using hb
    subst e
    exact I1.fpOk (Nat.le_refl _) (I1.hok.fresh (Nat.le_refl _))
  cases hs : Builtin.Range.small lo hi 1 with
  | true =>
    refine wpAny_pyIter_range (IsRange.new ..) hs ?_
    refine ⟨(s.heap.push { cls := .type "range", data := .fields #[.int lo t, .int hi u, .int 1 v] }).objs.size, [(s.heap.push { cls := .type "range", data := .fields #[.int lo t, .int hi u, .int 1 v] }).objs.size], _, _, H, rfl,
      I1.kept (t' := tk) fun b o e => Heap.get?_push_of_some _ e, turn_range _ lo (hi - lo).toNat, ?_, fin, q⟩
    show IsRangeIter _ _ (lo + ((0 : Nat) : Int) * 1) ((((hi - lo).toNat : Nat) : Int) - ((0 : Nat) : Int)) 1
    rw [e1, e2]
    exact Heap.get?_push_size _ rfl
  | false =>
    refine wpAny_pyIter_longrange (IsRange.new ..) hs ?_
    refine ⟨(s.heap.push { cls := .type "range", data := .fields #[.int lo t, .int hi u, .int 1 v] }).objs.size, [(s.heap.push { cls := .type "range", data := .fields #[.int lo t, .int hi u, .int 1 v] }).objs.size], _, _, H, rfl,
      I1.kept (t' := tk) fun b o e => Heap.get?_push_of_some _ e, turn_long _ lo (hi - lo).toNat, ?_, fin, q⟩
    show IsLongIter _ _ (lo + ((0 : Nat) : Int) * 1) ((((hi - lo).toNat : Nat) : Int) - ((0 : Nat) : Int)) 1
    rw [e1, e2]
    exact Heap.get?_push_size _ rfl
def iRg1 (ta : TA) : TI := fun σ H R => ta σ H fun vs H1 => ∃ j : Int, vs = [.int j] ∧ R (Itr 0 j.toNat) H1
def iRg2 (ta : TA) : TI := fun σ H R => ta σ H fun vs H1 => ∃ i j : Int, vs = [.int i, .int j] ∧ R (Itr i (j - i).toNat) H1
theorem pi_rg1 {a : Expr} {ta : TA} {p pos : Pos} (hg : Gl X "range") (hm : X.mg "range" = none) (ha : PA X [a] ta) (hs : starEach [a] X.env = [(false, eval a X.env)] := by rfl) : PI X tg (.Call (.Name "range" p) [a] [] pos) (iRg1 ta) := by
  refine ⟨fun pins s σ H R I h => ?_⟩
  refine Call_ (ld_blt I hg hm boot_range (PyProof.Rows.callWith_type1 (thn (ha.run pos pins s σ H _ I h) fun us s1 ⟨vs, H1, I1, r1, q1⟩ => ?_) hs rfl))
  obtain ⟨j, e, q⟩ := q1
  subst e
  cases r1 with
  | cons r rr =>
    cases rr
    obtain ⟨t, rfl⟩ := r
    exact call_range_1 (range_itA I1 (by simpa using q))
theorem pi_rg2 {a b : Expr} {ta : TA} {p pos : Pos} (hg : Gl X "range") (hm : X.mg "range" = none) (ha : PA X [a, b] ta) (hs : starEach [a, b] X.env = [(false, eval a X.env), (false, eval b X.env)] := by rfl) (hs2 : starEach [b] X.env = [(false, eval b X.env)] := by rfl) :
    PI X tg (.Call (.Name "range" p) [a, b] [] pos) (iRg2 ta) := by
  refine ⟨fun pins s σ H R I h => ?_⟩
  refine Call_ (ld_blt I hg hm boot_range (PyProof.Rows.callWith_type1 (thn (ha.run pos pins s σ H _ I h) fun us s1 ⟨vs, H1, I1, r1, q1⟩ => ?_) (by rw [hs, hs2]) (by rw [hs2]; rfl)))
  obtain ⟨i, j, e, q⟩ := q1
  subst e
  cases r1 with
  | cons r rr =>
    cases rr with
    | cons r' rr =>
      cases rr
      obtain ⟨t, rfl⟩ := r
      obtain ⟨t', rfl⟩ := r'
      exact call_range_2 (range_itA I1 q)
end
/-- the numbers of a range -/
def rangeD (lo : Int) (n : Nat) : List D := (List.range n).map fun (k : Nat) => D.int (lo + (k : Nat))
theorem rangeD_drop {lo : Int} {n k : Nat} (h : k < n) : (rangeD lo n).drop k = D.int (lo + (k : Nat)) :: (rangeD lo n).drop (k + 1) := by
  have hl : (rangeD lo n).length = n := by simp [rangeD]
  rw [List.drop_eq_getElem_cons (by rw [hl]; exact h)]
  congr 1
  simp [rangeD]
theorem rangeD_end {lo : Int} {n : Nat} : (rangeD lo n).drop n = [] := by
  have hl : (rangeD lo n).length = n := by simp [rangeD]
  rw [List.drop_eq_nil_of_le (by omega)]
/-- what a range(..) walks -/
def rngOf : List D → Option (Int × Nat)
  | [.int j] => some (0, j.toNat)
  | [.int i, .int j] => some (i, (j - i).toNat)
  | _ => none
def mForR (i : Nat) (it : Evn → R (List D)) (body : Evn → RS) : Evn → RS := fun ρ => match it ρ with
  | .ok ds => match rngOf ds with
    | some (lo, n) => forL i body (rangeD lo n) ρ
    | none => .no
  | .exc c => .exc c ρ
  | .no => .no
/-- a walk of numbers -/
def iRgA (G : Gx) (W : WX) (it : Evn → R (List D)) : TI := fun σ H R => ∃ ρ, EnvP G H σ ρ ∧ SatG G W (fun ds => ∃ lo n, rngOf ds = some (lo, n) ∧ ∀ H', Same H H' → R (Itr lo n) H') σ H (it ρ)
theorem PI.imp {X : Cx} {tg e : Expr} {t t' : TI} (h : PI X tg e t) (i : ∀ σ H R, t' σ H R → t σ H R) : PI X tg e t' := ⟨fun pins s σ H R I q => h.run pins s σ H R I (i _ _ _ q)⟩
section
variable {G : Gx} {X : Cx} {W : WX} {T T' : List Nat} {e a b tg : Expr} {pos p : Pos} {it : Evn → R (List D)} {ms mt : Evn → RS} {s1 : List Stmt}
theorem rng1 {ds : List D} {H : Hp} {vs : List V} {F : List Addr} {lo : Int} {n : Nat} (h : rngOf ds = some (lo, n)) (o : OwnL G H ds vs F) : (∃ j, vs = [.int j] ∧ lo = 0 ∧ n = j.toNat) ∨ ∃ j, vs = [.int lo, .int j] ∧ n = (j - lo).toNat := by
  unfold rngOf at h
  split at h
  · cases h
    obtain ⟨v, F1, rfl, o1⟩ := own1 o
    obtain ⟨rfl, _⟩ := own_int.mp o1
    exact .inl ⟨_, rfl, rfl, rfl⟩
  · cases h
    obtain ⟨v, w, F1, F2, rfl, o1, o2⟩ := own2 o
    obtain ⟨rfl, _⟩ := own_int.mp o1
    obtain ⟨rfl, _⟩ := own_int.mp o2
    exact .inr ⟨_, rfl, rfl⟩
  · cases h
theorem sr_1 (hg : Gl X "range") (hm : X.mg "range" = none) (ha : SA G X W it [a]) (hs : starEach [a] X.env = [(false, eval a X.env)] := by rfl) (h1 : ∀ ρ ds, it ρ = .ok ds → ds.length = 1) : PI X tg (.Call (.Name "range" p) [a] [] pos) (iRgA G W it) :=
  PI.imp (pi_rg1 hg hm ha hs) fun σ H R ⟨ρ, E, s⟩ => ⟨ρ, E, SatG.imp s fun ds ed ⟨lo, n, h, q⟩ vs H1 F sm o => by
    rcases rng1 h o with ⟨j, rfl, rfl, rfl⟩ | ⟨j, rfl, rfl⟩
    · exact ⟨j, rfl, q H1 sm⟩
    · have := ownL_len o
      rw [h1 ρ ds ed] at this
      cases this⟩
theorem sr_2 (hg : Gl X "range") (hm : X.mg "range" = none) (ha : SA G X W it [a, b]) (hs : starEach [a, b] X.env = [(false, eval a X.env), (false, eval b X.env)] := by rfl) (hs2 : starEach [b] X.env = [(false, eval b X.env)] := by rfl)
    (h1 : ∀ ρ ds, it ρ = .ok ds → ds.length = 2) : PI X tg (.Call (.Name "range" p) [a, b] [] pos) (iRgA G W it) :=
  PI.imp (pi_rg2 hg hm ha hs hs2) fun σ H R ⟨ρ, E, s⟩ => ⟨ρ, E, SatG.imp s fun ds ed ⟨lo, n, h, q⟩ vs H1 F sm o => by
    rcases rng1 h o with ⟨j, rfl, rfl, rfl⟩ | ⟨j, rfl, rfl⟩
    · have := ownL_len o
      rw [h1 ρ ds ed] at this
      cases this
    · exact ⟨lo, j, rfl, q H1 sm⟩⟩
theorem len_cons1 {m : Evn → R D} : ∀ ρ ds, mCons m mNil ρ = .ok ds → ds.length = 1 := fun ρ ds h => by
  unfold mCons mNil at h
  cases e : m ρ with
  | ok d => rw [e] at h; cases h; rfl
  | exc c => rw [e] at h; cases h
  | no => rw [e] at h; cases h
theorem len_cons2 {m m' : Evn → R D} : ∀ ρ ds, mCons m (mCons m' mNil) ρ = .ok ds → ds.length = 2 := fun ρ ds h => by
  unfold mCons mNil at h
  cases e : m ρ with
  | ok d =>
    rw [e] at h
    cases e' : m' ρ with
    | ok d' => rw [e'] at h; cases h; rfl
    | exc c => rw [e'] at h; cases h
    | no => rw [e'] at h; cases h
  | exc c => rw [e] at h; cases h
  | no => rw [e] at h; cases h
theorem ss_forR (i : Nat) {x : Str} {p : Pos} {iter : Expr} (hN : X.N.Nodup) (hp : PassesOwn (model X.prog X.w) X.A X.env X.xe) (hcalm : X.calm = true) (hi : PI X (.Name x p) iter (iRgA G W it)) (hb : SSs G X W T ms s1)
    (hx : X.N[i]? = some x := by rfl) (hl : Loc X.env.scope x := by first | exact Or.inl rfl | exact Or.inr rfl) (hf : X.fn x = true ∨ X.env.scope.names.lookup x = some .local := by first | exact .inl rfl | exact .inr rfl | assumption)
    (hs : ∀ y, foldedSetIterable iter X.env y = pure y := by intro _; rfl) : SS G X W (i :: T) (mForR i it ms) (.For (.Name x p) iter s1 [] pos) := by
  refine PS.imp (ps_for hp hcalm hi (pg_name hN hx hl hf) hb hs) fun D σ H ⟨ρ, f, E, s⟩ => ⟨ρ, E.p, ?_⟩
  unfold mForR at s
  cases e1 : it ρ with
  | exc c => rw [e1] at s; exact s.exc0 E
  | no => rw [e1] at s; exact s.elim
  | ok ds =>
    rw [e1] at s
    dsimp only at s
    cases hr : rngOf ds with
    | none => rw [hr] at s; exact s.elim
    | some p =>
      obtain ⟨lo, n⟩ := p
      rw [hr] at s
      refine ⟨lo, n, hr, fun H' sm => ?_⟩
      refine for_range (lo := lo) (n := n) (fun k σ' H' => ∃ ρ' f', EnvR G H' σ' ρ' f' ∧ SatS G W (i :: T) D σ' H' f' (forL i ms ((rangeD lo n).drop k) ρ')) ⟨ρ, f, E.same sm, SatS.later s (Lk.same sm)⟩ ?_ ?_
      · rintro k σ' H' hk ⟨ρ', f', E', s'⟩
        rw [rangeD_drop hk] at s'
        exact for_turn E' (own_int.mpr ⟨rfl, rfl⟩) (fun a ha => by cases ha) s' fun ρ2 f2 σ2 H2 E2 l2 s2 => ⟨ρ2, f2, E2, s2⟩
      · rintro σ' H' ⟨ρ', f', E', s'⟩
        rw [rangeD_end] at s'
        exact s' σ' H' f' E' Lk.refl
end
end Rs

set_option maxRecDepth 100000
/-! Rs7: dicts walked under a lock; a slot frozen for a while. -/
namespace Rs
open PySem PySem.Spec PyProof.Rows L2

section
variable {G : Gx} {W : WX} {σ σ' : St} {H H' : Hp} {f f' : Nat → List Addr} {T : List Nat} {ρ ρ' : Evn} {a : Addr} {u : HO} {od : Obj}
theorem kp_lock (e : H a = some u) (hu : DicO u) (b : Addr) : Kp H (upd H a (.frz od u)) b := by
  by_cases hb : b = a
  · subst hb
    refine ⟨fun u' _ r => ?_, fun u' x e' => ?_⟩
    · rcases r with r | ⟨o, r⟩
      · rw [e] at r; cases r; exact .inr ⟨od, upd_same⟩
      · rw [e] at r; cases r; exact hu.elim
    · rw [e] at e'; cases e'
      cases u <;> first | exact hu.elim | exact x.elim
  · exact Kp.of fun o q => by rw [upd_ne hb]; exact q
theorem kp_unlock (e : H a = some (.frz od u)) (hu : DicO u) (b : Addr) : Kp H (upd H a u) b := by
  by_cases hb : b = a
  · subst hb
    refine ⟨fun u' du r => ?_, fun u' x e' => ?_⟩
    · rcases r with r | ⟨o, r⟩
      · rw [e] at r; cases r; exact du.elim
      · rw [e] at r; cases r; exact .inl upd_same
    · rw [e] at e'; cases e'
      cases u <;> first | exact hu.elim | exact x.elim
  · exact Kp.of fun o q => by rw [upd_ne hb]; exact q
theorem own_kp {d : D} {v : V} {F : List Addr} (k : ∀ b, Kp H H' b) (h : Own G H d v F) : Own G H' d v F := own_keep (fun b _ _ _ => k b) d v F (fun b _ => k b) h
theorem EnvR.kp (E : EnvR G H σ ρ f) (k : ∀ b, Kp H H' b) (un : ∀ b o, Fm f b → H b = some o → H' b = some o) : EnvR G H' σ ρ f :=
  ⟨E.len, fun i d h => let ⟨v, e, o⟩ := E.ow i d h; ⟨v, e, own_kp k o⟩, fun i d h => let ⟨v, F, e, o, q⟩ := E.ro i d h; ⟨v, F, e, own_kp k o, q⟩, E.nil, E.nd, E.dj,
    fun i b h => let ⟨o, e, m⟩ := E.un i b h; ⟨o, un b o ⟨i, h⟩ e, m⟩⟩
theorem EnvP.kp (E : EnvP G H σ ρ) (k : ∀ b, Kp H H' b) : EnvP G H' σ ρ := ⟨E.len, fun i d h => let ⟨v, F, e, o⟩ := E.rd i d h; ⟨v, F, e, own_kp k o⟩⟩
theorem EnvR.lock (E : EnvR G H σ ρ f) (e : H a = some u) (hu : DicO u) (hf : ¬ Fm f a) : EnvR G (upd H a (.frz od u)) σ ρ f :=
  E.kp (kp_lock e hu) fun b o hb q => by rw [upd_ne (fun z => hf (by rw [← z]; exact hb))]; exact q
theorem nofm_frz (E : EnvR G H σ ρ f) (e : H a = some (.frz od u)) : ¬ Fm f a := fun ⟨i, hi⟩ => by
  obtain ⟨o, e', m⟩ := E.un i a hi
  rw [e] at e'; cases e'
  exact m
theorem EnvR.unlock (E : EnvR G H σ ρ f) (e : H a = some (.frz od u)) (hu : DicO u) : EnvR G (upd H a u) σ ρ f :=
  E.kp (kp_unlock e hu) fun b o hb q => by rw [upd_ne (fun z => nofm_frz E e (by rw [← z]; exact hb))]; exact q
theorem Lk.frz (e : H a = some u) (hf : ¬ Fm f a) (l : Lk T f σ (upd H a (.frz od u)) f' σ' H') : H' a = some (.frz od u) := l.step a _ upd_same fun m => absurd m hf
theorem Lk.unlock (e : H a = some u) (hf : ¬ Fm f a) (l : Lk T f σ (upd H a (.frz od u)) f' σ' H') : Lk T f σ H f' σ' (upd H' a u) := by
  refine ⟨fun b o eb m => ?_, fun b h => ?_, l.keep⟩
  · by_cases hb : b = a
    · subst hb
      rw [e] at eb; cases eb
      exact upd_same
    · rw [upd_ne hb]
      exact l.step b o (by rw [upd_ne hb]; exact eb) m
  · rcases l.new b h with z | z
    · exact .inl z
    · by_cases hb : b = a
      · subst hb; rw [upd_same] at z; cases z
      · rw [upd_ne hb] at z; exact .inr z
/-- the wishes behind a locked stretch -/
def lockD (D : Ends) (a : Addr) (od : Obj) (u : HO) : Ends := ⟨fun σ' H' => H' a = some (.frz od u) ∧ D.nx σ' (upd H' a u), fun v H' => H' a = some (.frz od u) ∧ D.rt v (upd H' a u), fun σ' H' => H' a = some (.frz od u) ∧ D.bk σ' (upd H' a u), fun σ' H' => H' a = some (.frz od u) ∧ D.ct σ' (upd H' a u)⟩
theorem SatS.lock {D : Ends} {r : RS} (s : SatS G W T D σ H f r) (e : H a = some u) (hu : DicO u) (hf : ¬ Fm f a) (hx : ∀ c ρ', r ≠ .exc c ρ') : SatS G W T (lockD D a od u) σ (upd H a (.frz od u)) f r := by
  cases r with
  | nx ρ' => exact fun σ' H' f' E l => ⟨l.frz e hf, s σ' _ f' (E.unlock (l.frz e hf) hu) (l.unlock e hf)⟩
  | bk ρ' => exact fun σ' H' f' E l => ⟨l.frz e hf, s σ' _ f' (E.unlock (l.frz e hf) hu) (l.unlock e hf)⟩
  | ct ρ' => exact fun σ' H' f' E l => ⟨l.frz e hf, s σ' _ f' (E.unlock (l.frz e hf) hu) (l.unlock e hf)⟩
  | exc c ρ' => exact absurd rfl (hx c ρ')
  | no => exact s
  | rt d ρ' => exact fun v σ' H' f' F E l o nd q => ⟨l.frz e hf, s v σ' _ f' F (E.unlock (l.frz e hf) hu) (l.unlock e hf) (own_kp (kp_unlock (l.frz e hf) hu) o) nd fun b hb => by
      have hba : b ≠ a := fun z => by
        obtain ⟨o', e', m⟩ := (q b hb).2.2
        rw [z, l.frz e hf] at e'; cases e'
        exact m
      refine ⟨?_, (q b hb).2.1, ?_⟩
      · rcases (q b hb).1 with z | z
        · exact .inl z
        · rw [upd_ne hba] at z; exact .inr z
      · rw [upd_ne hba]; exact (q b hb).2.2⟩
end
/-- over the keys of a locked dict of tuple keys -/
theorem for_keysT {d : Addr} {o : Obj} {kvs : List (List Key × V)} {g : TG} {tb : TS} {D : Ends} {σ : St} {H : Hp} (Pv : Nat → St → Hp → Prop) (h0 : Pv 0 σ H) (hl : ∀ i σ H, Pv i σ H → H d = some (.frz o (.dT kvs)))
    (hs : ∀ i k v q σ H, kvs[i]? = some (k, v) → H q = some (.tup (k.map kV)) → Pv i σ H → g (.ref q) σ H fun σ2 H2 => tb { D with nx := Pv (i + 1), ct := Pv (i + 1), bk := D.nx } σ2 H2) (hd : ∀ σ H, Pv kvs.length σ H → D.nx σ H) :
    ∃ W : Nat → Nat → St → Hp → Prop, (∃ m, W 0 m σ H) ∧ ∀ i m σ H, W i m σ H →
      ((Itkt d o kvs).stop i H ∧ D.nx σ H) ∨ ((Itkt d o kvs).go i H ∧ ∃ N : St → Hp → Prop, (∀ σ' H', N σ' H' → ∃ m', m' < m ∧ W (i + 1) m' σ' H') ∧ ∀ x H', (Itkt d o kvs).yld i H x H' → g x σ H' fun σ2 H2 => tb { D with nx := N, ct := N, bk := D.nx } σ2 H2) := by
  refine ⟨fun i m σ H => m = kvs.length - i ∧ i ≤ kvs.length ∧ Pv i σ H, ⟨kvs.length, by simp, Nat.zero_le _, h0⟩, ?_⟩
  rintro i m σ H ⟨rfl, hi, p⟩
  have q := hl i σ H p
  by_cases hlt : i < kvs.length
  · refine .inr ⟨⟨q, hlt⟩, Pv (i + 1), fun σ' H' p' => ⟨kvs.length - (i + 1), by omega, rfl, hlt, p'⟩, fun x H' y => ?_⟩
    obtain ⟨e, k, v, b, e1, e2, e3⟩ := y
    subst e e2
    exact hs i k v b σ _ e1 e3 p
  · have e : i = kvs.length := by omega
    subst e
    exact .inl ⟨⟨q, Nat.le_refl _⟩, hd σ H p⟩
section
variable {G : Gx} {X : Cx} {W : WX} {T T' : List Nat} {pos : Pos} {ms mt : Evn → RS} {s1 : List Stmt} {st : Stmt}
def noExc (r : RS) : RS := match r with
  | .exc _ _ => .no
  | r => r
def mForK (i r : Nat) (body : Evn → RS) : Evn → RS := fun ρ => match ρ[r]? with
  | some (.ro (.node (.dT ks) _)) => noExc (forL i body (ks.map pairD) ρ)
  | _ => .no
theorem keyD_own {H : Hp} {k : Int × Int} {q : Addr} (e : H q = some (.tup ((kp k).map kV))) : Own G H (pairD k) (.ref q) [] :=
  own_node.mpr ⟨q, _, [], rfl, e, ownL_cons.mpr ⟨_, _, [], [], rfl, own_int.mpr ⟨rfl, rfl⟩, ownL_cons.mpr ⟨_, _, [], [], rfl, own_int.mpr ⟨rfl, rfl⟩, ownL_nil.mpr ⟨rfl, rfl⟩, rfl⟩, rfl⟩, rfl⟩
theorem ss_forK (i r : Nat) {x y : Str} {p p' : Pos} (hN : X.N.Nodup) (hp : PassesOwn (model X.prog X.w) X.A X.env X.xe) (hcalm : X.calm = true) (hb : SSs G X W T ms s1)
    (hy : X.N[r]? = some y := by rfl) (hv : Vis X.env.scope y := by first | exact Or.inl rfl | exact Or.inr (Or.inl rfl) | exact Or.inr (Or.inr rfl))
    (hx : X.N[i]? = some x := by rfl) (hl : Loc X.env.scope x := by first | exact Or.inl rfl | exact Or.inr rfl) (hf : X.fn x = true ∨ X.env.scope.names.lookup x = some .local := by first | exact .inl rfl | exact .inr rfl | assumption)
    (hs : ∀ z, foldedSetIterable (.Name y p') X.env z = pure z := by intro _; rfl) (hd : (y == ("__debug__" : Str)) = false := by decide) (hcd : (y == ("__classdict__" : Str)) = false := by decide) : SS G X W (i :: T) (mForK i r ms) (.For (.Name x p) (.Name y p') s1 [] pos) := by
  have base := ps_for (pos := pos) hp hcalm (pi_keys (tg := .Name x p) (pe_var (pos := p') hy hv hd hcd)) (pg_name hN hx hl hf) hb hs
  refine PS.imp (PS.or (ps_lock base) base) fun D σ H ⟨ρ, f, E, s⟩ => ?_
  unfold mForK at s
  split at s
  · rename_i ks ds h
    obtain ⟨v, F, e1, o, q⟩ := E.ro r _ h
    obtain ⟨a, kvs, F1, rfl, rd, hk, ol, ef⟩ := own_dT o
    have hfa : ¬ Fm f a := fun ⟨j, hj⟩ => q a (by rw [ef]; exact List.mem_cons_self) j hj
    have hkl : kvs.length = ks.length := by have := congrArg List.length hk; simpa using this
    -- the loop over the locked dict
    have loop : ∀ (D : Ends) (H : Hp) (od : Obj), H a = some (.frz od (.dT kvs)) → EnvR G H σ ρ f → SatS G W (i :: T) D σ H f (forL i ms (ks.map pairD) ρ) → tFor (iKeys (tVar r)) (gName i) (tS G W T ms) D σ H := fun D H od hl E s => by
      refine ⟨.ref a, e1, a, od, rfl, .inr ⟨kvs, hl, ?_⟩⟩
      refine for_keysT (fun k σ' H' => H' a = some (.frz od (.dT kvs)) ∧ ∃ ρ' f', EnvR G H' σ' ρ' f' ∧ SatS G W (i :: T) D σ' H' f' (forL i ms ((ks.map pairD).drop k) ρ')) ⟨hl, ρ, f, E, s⟩ (fun k σ' H' q => q.1) ?_ ?_
      · rintro k key v b σ' H' hkv hb ⟨hl', ρ', f', E', s'⟩
        have hlt : k < ks.length := by
          have := (List.getElem?_eq_some_iff.mp hkv).1
          rw [← hkl]; exact this
        have ek : key = kp ks[k] := by
          have h1 : (kvs.map (·.1))[k]? = some key := by rw [List.getElem?_map, hkv]; rfl
          rw [hk, List.getElem?_map, List.getElem?_eq_getElem hlt] at h1
          exact (Option.some.inj h1).symm
        subst ek
        have hd : (ks.map pairD).drop k = pairD ks[k] :: (ks.map pairD).drop (k + 1) := by
          rw [List.drop_eq_getElem_cons (by simpa using hlt)]
          simp
        rw [hd] at s'
        exact for_turn E' (keyD_own hb) (fun c hc => by cases hc) s' fun ρ2 f2 σ2 H2 E2 l2 s2 => ⟨l2.step a _ hl' fun m => absurd m (nofm_frz E' hl'), ρ2, f2, E2, s2⟩
      · rintro σ' H' ⟨hl', ρ', f', E', s'⟩
        rw [hkl, ← List.length_map (f := pairD), List.drop_length] at s'
        exact s' σ' H' f' E' Lk.refl
    have hx : ∀ c ρ', forL i ms (ks.map pairD) ρ ≠ .exc c ρ' := fun c ρ' hr => by rw [hr] at s; exact s.elim
    have s' : SatS G W (i :: T) D σ H f (forL i ms (ks.map pairD) ρ) := by
      cases hr : forL i ms (ks.map pairD) ρ with
      | exc c ρ' => exact absurd hr (hx c ρ')
      | nx ρ' => rw [hr] at s; exact s
      | rt d ρ' => rw [hr] at s; exact s
      | bk ρ' => rw [hr] at s; exact s
      | ct ρ' => rw [hr] at s; exact s
      | no => rw [hr] at s; exact s
    rcases rd with rd | ⟨od, rd⟩
    · refine .inl ⟨a, .dT kvs, rd, trivial, fun od => ?_⟩
      exact loop (lockD D a od (.dT kvs)) _ od upd_same (E.lock rd trivial hfa) (s'.lock rd trivial hfa hx)
    · exact .inr (loop D H od rd E s')
  · exact s.elim

/-! ### frozen for a while -/
def dropRo : Slot → Slot
  | .ro d => if d.imm = true then .ro d else .un
  | s => s
/-- behind the stretch: the frozen slot is owned again, slots that the stretch does not store are as they were -/
def thaw (T : List Nat) (r : Nat) : Nat → Evn → Evn → Evn
  | k, s :: ρ, s' :: ρ' => (if k = r then s else match s with
    | .ro d => if k ∈ T then dropRo s' else .ro d
    | _ => dropRo s') :: thaw T r (k + 1) ρ ρ'
  | _, _, ρ' => ρ'.map dropRo
def thawR (g : Evn → Evn) : RS → RS
  | .nx ρ => .nx (g ρ)
  | .bk ρ => .bk (g ρ)
  | .ct ρ => .ct (g ρ)
  | .rt d ρ => .rt d (g ρ)
  | .exc c ρ => .exc c (g ρ)
  | .no => .no
def mFrz (T : List Nat) (r : Nat) (m : Evn → RS) : Evn → RS := fun ρ => match ρ[r]? with
  | some (.ow d) => thawR (thaw T r 0 ρ) (m (ρ.set r (.ro d)))
  | _ => m ρ
theorem thaw_get {T : List Nat} {r : Nat} : ∀ (ρ ρ' : Evn) (k j : Nat), (thaw T r k ρ ρ')[j]? = match ρ[j]?, ρ'[j]? with
    | some s, some s' => some (if k + j = r then s else match s with
      | .ro d => if k + j ∈ T then dropRo s' else .ro d
      | _ => dropRo s')
    | none, some s' => some (dropRo s')
    | _, none => none
  | [], ρ', k, j => by
    simp only [thaw, List.getElem?_map, List.getElem?_nil]
    cases ρ'[j]? <;> rfl
  | s :: ρ, [], k, j => by
    simp only [thaw, List.map_nil, List.getElem?_nil]
  | s :: ρ, s' :: ρ', k, j => by
    cases j with
    | zero => simp [thaw]
    | succ j =>
      simp only [thaw, List.getElem?_cons_succ]
      rw [thaw_get ρ ρ' (k + 1) j]
      have e : k + 1 + j = k + (j + 1) := by omega
      rw [e]
theorem thaw_len {T : List Nat} {r : Nat} : ∀ (ρ ρ' : Evn) (k : Nat), (thaw T r k ρ ρ').length = ρ'.length
  | [], ρ', k => by simp [thaw]
  | s :: ρ, [], k => by simp [thaw]
  | s :: ρ, s' :: ρ', k => by simp [thaw, thaw_len ρ ρ' (k + 1)]
theorem dropRo_ow {s : Slot} {d : D} (h : dropRo s = .ow d) : s = .ow d := by
  unfold dropRo at h
  split at h
  · split at h <;> cases h
  · exact h
theorem dropRo_ro {s : Slot} {d : D} (h : dropRo s = .ro d) : s = .ro d ∧ d.imm = true := by
  unfold dropRo at h
  split at h
  · split at h
    · rename_i hi
      cases h
      exact ⟨rfl, hi⟩
    · cases h
  · rename_i hn
    exact absurd h (hn d)
theorem thaw_ow {T : List Nat} {r : Nat} {ρ ρ' : Evn} {j : Nat} {d : D} (hj : j ≠ r) (h : (thaw T r 0 ρ ρ')[j]? = some (Slot.ow d)) : ρ'[j]? = some (Slot.ow d) := by
  rw [thaw_get] at h
  split at h
  · rename_i s s' h1 h2
    rw [if_neg (by omega)] at h
    have h := Option.some.inj h
    rw [h2]
    split at h
    · split at h
      · rw [dropRo_ow h]
      · cases h
    · rw [dropRo_ow h]
  · rename_i s' h1 h2
    rw [h2, dropRo_ow (Option.some.inj h)]
  · cases h
theorem thaw_ro {T : List Nat} {r : Nat} {ρ ρ' : Evn} {j : Nat} {d : D} (hj : j ≠ r) (h : (thaw T r 0 ρ ρ')[j]? = some (Slot.ro d)) : (ρ[j]? = some (Slot.ro d) ∧ j ∉ T) ∨ (ρ'[j]? = some (Slot.ro d) ∧ d.imm = true) := by
  rw [thaw_get] at h
  split at h
  · rename_i s s' h1 h2
    rw [if_neg (by omega)] at h
    have h := Option.some.inj h
    split at h
    · rename_i d0
      split at h
      · obtain ⟨e, i⟩ := dropRo_ro h
        exact .inr ⟨by rw [h2, e], i⟩
      · rename_i hT
        exact .inl ⟨by rw [h1, h], fun z => hT (by simpa using z)⟩
    · obtain ⟨e, i⟩ := dropRo_ro h
      exact .inr ⟨by rw [h2, e], i⟩
  · rename_i s' h1 h2
    obtain ⟨e, i⟩ := dropRo_ro (Option.some.inj h)
    exact .inr ⟨by rw [h2, e], i⟩
  · cases h
theorem thaw_at {T : List Nat} {r : Nat} {ρ ρ' : Evn} {d : D} {s : Slot} (hr : ρ[r]? = some (Slot.ow d)) (h : (thaw T r 0 ρ ρ')[r]? = some s) : s = Slot.ow d := by
  rw [thaw_get, hr] at h
  split at h
  · rename_i s1 s2 h1 h2
    cases h1
    rw [if_pos (by omega)] at h
    exact (Option.some.inj h).symm
  · rename_i h1 h2; cases h1
  · cases h
def isOw : Option Slot → Bool
  | some (.ow _) => true
  | _ => false
theorem thaw_env {D : Ends} {r : Nat} {d : Rs.D} {ρ ρ1 ρ' : Evn} {σ σ' : St} {H H' : Hp} {f f' g : Nat → List Addr} (E : EnvR G H σ ρ f) (hr : ρ[r]? = some (Slot.ow d)) (hT : r ∉ T) (sub : ∀ a, Fm f' a → Fm f a ∧ a ∉ f r)
    (E' : EnvR G H' σ' ρ' g) (l : Lk T f' σ H g σ' H') : ∃ f'', EnvR G H' σ' (thaw T r 0 ρ ρ') f'' ∧ Lk T f σ H f'' σ' H' ∧ ∀ a, Fm f'' a → Fm g a ∨ a ∈ f r := by
  obtain ⟨v, e1, o⟩ := E.ow r d hr
  have stay : ∀ a o, ¬ Fm f' a → H a = some o → H' a = some o := fun a o n e => l.step a o e fun m => absurd m n
  have nr : ∀ a, a ∈ f r → ¬ Fm f' a := fun a ha m => (sub a m).2 ha
  have there : ∀ a, a ∈ f r → H a ≠ none := fun a ha z => by
    obtain ⟨o', e', _⟩ := E.un r a ha
    rw [z] at e'; cases e'
  have ng : ∀ a, a ∈ f r → ¬ Fm g a := fun a ha m => (l.new a m).elim (nr a ha) (there a ha)
  refine ⟨fun j => if isOw (thaw T r 0 ρ ρ')[j]? = true then (if j = r then f r else g j) else [], ?_, ?_, ?_⟩
  · refine ⟨by rw [thaw_len]; exact E'.len, fun j d' h => ?_, fun j d' h => ?_, fun j h => ?_, fun j => ?_, fun j k a h1 h2 => ?_, fun j a h => ?_⟩
    · simp only [h, isOw, if_true]
      by_cases ej : j = r
      · subst ej
        have := thaw_at hr h
        cases this
        rw [if_pos rfl]
        exact ⟨v, by rw [l.keep j hT]; exact e1, own_keep (fun b o' e' im => Kp.of fun o2 e2 => l.step b o2 e2 fun _ => by rw [e'] at e2; cases e2; exact im) d v _ (fun b hb => Kp.of fun o2 e2 => stay b o2 (nr b hb) e2) o⟩
      · rw [if_neg ej]
        exact E'.ow j d' (thaw_ow ej h)
    · by_cases ej : j = r
      · subst ej
        cases thaw_at hr h
      · rcases thaw_ro ej h with ⟨h1, h2⟩ | ⟨h1, h2⟩
        · obtain ⟨v0, F0, e0, o0, q0⟩ := E.ro j d' h1
          have nf' : ∀ a ∈ F0, ¬ Fm f' a := fun a ha m => by
            obtain ⟨⟨i, hi⟩, _⟩ := sub a m
            exact q0 a ha i hi
          refine ⟨v0, F0, by rw [l.keep j h2]; exact e0, l.step.own nf' o0, fun a ha k hk => ?_⟩
          split at hk
          · split at hk
            · exact q0 a ha r hk
            · rcases l.new a ⟨k, hk⟩ with z | z
              · exact nf' a ha z
              · obtain ⟨o', e'⟩ := own_there d' v0 F0 o0 a ha
                rw [z] at e'; cases e'
          · cases hk
        · obtain ⟨v0, F0, e0, o0, q0⟩ := E'.ro j d' h1
          have := own_imm d' v0 F0 h2 o0
          subst this
          exact ⟨v0, [], e0, o0, fun a ha => by cases ha⟩
    · have : isOw (thaw T r 0 ρ ρ')[j]? = false := by
        unfold isOw
        split
        · rename_i d' hd
          exact absurd hd (h d')
        · rfl
      simp [this]
    · split
      · split
        · exact E.nd r
        · exact E'.nd j
      · exact List.nodup_nil
    · split at h1
      · split at h2
        · split at h1
          · split at h2
            · omega
            · exact absurd ⟨k, h2⟩ (ng a h1)
          · split at h2
            · exact absurd ⟨j, h1⟩ (ng a h2)
            · exact E'.dj j k a h1 h2
        · cases h2
      · cases h1
    · split at h
      · split at h
        · obtain ⟨o', e', m⟩ := E.un r a h
          exact ⟨o', stay a o' (nr a h) e', m⟩
        · exact E'.un j a h
      · cases h
  · refine ⟨fun a o e m => l.step a o e fun z => m (sub a z).1, fun a ⟨j, hj⟩ => ?_, l.keep⟩
    dsimp only at hj
    split at hj
    · split at hj
      · exact .inl ⟨r, hj⟩
      · rcases l.new a ⟨j, hj⟩ with z | z
        · exact .inl (sub a z).1
        · exact .inr z
    · cases hj
  · rintro a ⟨j, hj⟩
    dsimp only at hj
    split at hj
    · split at hj
      · exact .inr hj
      · exact .inl ⟨j, hj⟩
    · cases hj
theorem ss_frz (r : Nat) (h : SS G X W T ms st) (hT : r ∉ T) : SS G X W T (mFrz T r ms) st := PS.imp h fun D σ H ⟨ρ, f, E, s⟩ => by
  unfold mFrz at s
  split at s
  · rename_i d hr
    obtain ⟨v, e1, o⟩ := E.ow r d hr
    have hlt := (List.getElem?_eq_some_iff.mp hr).1
    have E1 := E.setUn r
    have nf : ∀ a ∈ f r, ¬ Fm (fun j => if j = r ∧ r < ρ.length then [] else f j) a := fun a ha ⟨j, hj⟩ => by
      dsimp only at hj
      split at hj
      · cases hj
      · rename_i hn
        have := E.dj r j a ha hj
        subst this
        exact hn ⟨rfl, hlt⟩
    obtain ⟨f', E2, _, sub⟩ := E1.setRo (i := r) o nf
    rw [List.set_set] at E2
    have eσ : σ.set r (some v) = σ := by
      obtain ⟨h1, h2⟩ := List.getElem?_eq_some_iff.mp e1
      rw [← h2]
      exact List.set_getElem_self h1
    rw [eσ] at E2
    have sub2 : ∀ a, Fm f' a → Fm f a ∧ a ∉ f r := fun a m => by
      have m1 := sub a m
      refine ⟨?_, fun hr' => nf a hr' m1⟩
      obtain ⟨j, hj⟩ := m1
      dsimp only at hj
      split at hj
      · cases hj
      · exact ⟨j, hj⟩
    refine ⟨ρ.set r (.ro d), f', E2, ?_⟩
    cases e2 : ms (ρ.set r (.ro d)) with
    | nx ρ' =>
      rw [e2] at s
      intro σ' H' g E' l
      obtain ⟨f'', E'', l', _⟩ := thaw_env (D := D) (ρ1 := ρ) E hr hT sub2 E' l
      exact s σ' H' f'' E'' l'
    | bk ρ' =>
      rw [e2] at s
      intro σ' H' g E' l
      obtain ⟨f'', E'', l', _⟩ := thaw_env (D := D) (ρ1 := ρ) E hr hT sub2 E' l
      exact s σ' H' f'' E'' l'
    | ct ρ' =>
      rw [e2] at s
      intro σ' H' g E' l
      obtain ⟨f'', E'', l', _⟩ := thaw_env (D := D) (ρ1 := ρ) E hr hT sub2 E' l
      exact s σ' H' f'' E'' l'
    | exc c ρ' =>
      rw [e2] at s
      intro σ' H' g E' l
      obtain ⟨f'', E'', l', _⟩ := thaw_env (D := D) (ρ1 := ρ) E hr hT sub2 E' l
      exact s σ' H' f'' E'' l'
    | no => rw [e2] at s; exact s
    | rt d2 ρ' =>
      rw [e2] at s
      intro v2 σ' H' g F E' l o2 nd q
      obtain ⟨f'', E'', l', q''⟩ := thaw_env (D := D) (ρ1 := ρ) E hr hT sub2 E' l
      refine s v2 σ' H' f'' F E'' l' o2 nd fun a ha => ⟨?_, fun m => ?_, (q a ha).2.2⟩
      · rcases (q a ha).1 with z | z
        · exact .inl (sub2 a z).1
        · exact .inr z
      · rcases q'' a m with z | z
        · exact (q a ha).2.1 z
        · rcases (q a ha).1 with y | y
          · exact (sub2 a y).2 z
          · obtain ⟨o', e', _⟩ := E.un r a z
            rw [y] at e'; cases e'
  · exact ⟨ρ, f, E, s⟩
end
end Rs

set_option maxRecDepth 100000
/-! Rs8: what changes an owned thing. -/
namespace Rs
open PySem PySem.Spec PyProof.Rows L2

/-! ### places within a thing -/
def atP (d : D) : Option Nat → Option D
  | none => some d
  | some i => match d with
    | .node h xs => if h.mu = true then xs[i]? else none
    | _ => none
def setP (d : D) (p : Option Nat) (x : D) : D := match p with
  | none => x
  | some i => match d with
    | .node h xs => .node h (xs.set i x)
    | d => d
/-- the value that stands there -/
def AtV (G : Gx) (H : Hp) (d : D) (v : V) (w : V) : Option Nat → Prop
  | none => w = v
  | some i => ∃ h xs a vs F, d = .node h xs ∧ h.mu = true ∧ v = .ref a ∧ NodeAt G H h a vs ∧ OwnL G H xs vs F ∧ vs[i]? = some w
theorem drop_set_eq {α : Type} {l : List α} {i : Nat} {x y : α} (h : l[i]? = some x) (e : l = l.take i ++ (y :: l.drop (i + 1))) : x = y := by
  have hl := (List.getElem?_eq_some_iff.mp h).1
  rw [e] at h
  rw [List.getElem?_append_right (by simp; omega)] at h
  simp [Nat.min_eq_left (Nat.le_of_lt hl)] at h
  exact h.symm
section
variable {G : Gx} {H : Hp}
theorem own_child {d dn : D} {v : V} {F : List Addr} {p : Option Nat} (o : Own G H d v F) (nd : F.Nodup) (h : atP d p = some dn) :
    ∃ w Fn, AtV G H d v w p ∧ Own G H dn w Fn ∧ (∀ x ∈ Fn, x ∈ F) ∧ Fn.Nodup ∧ ∀ (H' : Hp) (dn' : D) (Fn' : List Addr), (∀ b o, H b = some o → b ∉ Fn → H' b = some o) → (∀ b o, H b = some o → ImmO o → H' b = some o) → Own G H' dn' w Fn' → Fn'.Nodup → (∀ x ∈ Fn', x ∈ Fn ∨ x ∉ F) →
      ∃ F', Own G H' (setP d p dn') v F' ∧ F'.Nodup ∧ ∀ x ∈ F', x ∈ Fn' ∨ (x ∈ F ∧ x ∉ Fn) := by
  cases p with
  | none =>
    cases h
    exact ⟨v, F, rfl, o, fun x h => h, nd, fun H' dn' Fn' _ _ o' nd' _ => ⟨Fn', o', nd', fun x hx => .inl hx⟩⟩
  | some i =>
    cases d with
    | node hd xs =>
      have h : (if hd.mu = true then xs[i]? else none) = some dn := h
      have hmu : hd.mu = true := by
        cases e : hd.mu with
        | true => rfl
        | false => rw [e] at h; cases h
      rw [if_pos hmu] at h
      obtain ⟨a, vs, F1, rfl, n, ol, ef⟩ := own_node.mp o
      obtain ⟨w, A, B, C, hw, eF, oA, oB, oC⟩ := ownL_split ol h
      have hi : i < vs.length := (List.getElem?_eq_some_iff.mp hw).1
      have ndF1 : F1.Nodup := by
        rw [ef] at nd
        cases hm : hd.mu with
        | true => rw [hm] at nd; exact (List.nodup_cons.mp (by simpa using nd)).2
        | false => rw [hm] at nd; simpa using nd
      have sub1 : ∀ x ∈ F1, x ∈ F := fun x hx => by subst ef; cases hd.mu <;> simp [hx]
      have ha : hd.mu = true → a ∉ F1 := fun hm z => by subst ef; rw [hm] at nd; simp at nd; exact nd.1 z
      subst eF
      obtain ⟨ndA, ndBC, dABC⟩ := List.nodup_append.mp ndF1
      obtain ⟨ndB, ndC, dBC⟩ := List.nodup_append.mp ndBC
      refine ⟨w, B, ⟨hd, xs, a, vs, _, rfl, hmu, rfl, n, ol, hw⟩, oB, fun x hx => sub1 x (by simp [hx]), ndB, fun H' dn' Fn' st im o' nd' nw => ?_⟩
      have keep : ∀ {ds : List D} {us : List V} {K : List Addr}, (∀ x ∈ K, x ∉ B) → OwnL G H ds us K → OwnL G H' ds us K := fun {ds us K} hK q =>
        ownL_keep (fun b o1 e1 i1 => Kp.of fun o2 e2 => im b o2 e2 (by rw [e1] at e2; cases e2; exact i1)) ds us K (fun b hb => Kp.of fun o2 e2 => st b o2 e2 (hK b hb)) q
      have nA : ∀ x ∈ A, x ∉ B := fun x hx hb => dABC x hx x (by simp [hb]) rfl
      have nC : ∀ x ∈ C, x ∉ B := fun x hx hb => dBC x hb x hx rfl
      have eset : vs.set i w = vs := by
        obtain ⟨h1, h2⟩ := List.getElem?_eq_some_iff.mp hw
        rw [← h2]; exact List.set_getElem_self h1
      have hix : i < xs.length := (List.getElem?_eq_some_iff.mp h).1
      have ol' : OwnL G H' (xs.set i dn') vs (A ++ (Fn' ++ C)) := by
        rw [← eset, set_cut hix, set_cut hi]
        exact ownL_append (keep nA oA) (ownL_append (ownL_one o') (keep nC oC))
      have n' : NodeAt G H' hd a vs := by
        cases hm : hd.mu with
        | true => exact nodeAt_keep (Kp.of fun o2 e2 => st a o2 e2 fun z => ha hm (by simp [z])) n
        | false => exact nodeAt_imm hm (fun b o1 e1 i1 => Kp.of fun o2 e2 => im b o2 e2 (by rw [e1] at e2; cases e2; exact i1)) n
      have ndN : (A ++ (Fn' ++ C)).Nodup := by
        have dis : ∀ {K : List Addr}, (∀ x ∈ K, x ∉ B) → (∀ x ∈ K, x ∈ F) → ∀ x ∈ Fn', x ∉ K := fun {K} h1 h2 x hx hk => by
          rcases nw x hx with z | z
          · exact h1 x hk z
          · exact z (h2 x hk)
        refine List.nodup_append.mpr ⟨ndA, List.nodup_append.mpr ⟨nd', ndC, fun x hx y hy e => ?_⟩, fun x hx y hy e => ?_⟩
        · subst e; exact dis nC (fun x hx => sub1 x (by simp [hx])) x hx hy
        · subst e
          rcases List.mem_append.mp hy with hy | hy
          · exact dis nA (fun x hx => sub1 x (by simp [hx])) x hy hx
          · exact dABC x hx x (by simp [hy]) rfl
      have src : ∀ x ∈ A ++ (Fn' ++ C), x ∈ Fn' ∨ (x ∈ F ∧ x ∉ B) := fun x hx => by
        rcases List.mem_append.mp hx with hx | hx
        · exact .inr ⟨sub1 x (by simp [hx]), nA x hx⟩
        · rcases List.mem_append.mp hx with hx | hx
          · exact .inl hx
          · exact .inr ⟨sub1 x (by simp [hx]), nC x hx⟩
      refine ⟨_, own_node.mpr ⟨a, vs, _, rfl, n', ol', rfl⟩, ?_, ?_⟩
      · cases hm : hd.mu with
        | false => simpa using ndN
        | true =>
          simp only [if_true]
          refine List.nodup_cons.mpr ⟨fun z => ?_, ndN⟩
          rcases src a z with q | q
          · rcases nw a q with y | y
            · exact ha hm (by simp [y])
            · exact y (by rw [ef, hm]; simp)
          · rcases List.mem_append.mp z with y | y
            · exact ha hm (by simp [y])
            · rcases List.mem_append.mp y with y | y
              · rcases nw a y with y | y
                · exact ha hm (by simp [y])
                · exact y (by rw [ef, hm]; simp)
              · exact ha hm (by simp [y])
      · cases hm : hd.mu with
        | false => simpa using src
        | true =>
          simp only [if_true]
          intro x hx
          rcases List.mem_cons.mp hx with e | hx
          · subst e
            exact .inr ⟨by rw [ef, hm]; simp, fun z => ha hm (by simp [z])⟩
          · exact src x hx
    | non => cases h
    | bl _ => cases h
    | int _ => cases h
    | str _ => cases h
    | exc _ => cases h
/-- an owned slot has changed -/
theorem EnvR.mut {σ : St} {ρ : Evn} {f : Nat → List Addr} {H' : Hp} {r : Nat} {d d' : D} {v : V} {F' : List Addr} (E : EnvR G H σ ρ f) (hr : ρ[r]? = some (Slot.ow d)) (hv : σ[r]? = some (some v)) (o : Own G H' d' v F') (nd : F'.Nodup)
    (nw : ∀ a ∈ F', a ∈ f r ∨ H a = none) (mo : ∀ a ∈ F', ∃ o, H' a = some o ∧ MutO o) (st : ∀ b o, H b = some o → b ∉ f r → H' b = some o) :
    ∃ f', EnvR G H' σ (ρ.set r (.ow d')) f' ∧ Lk [] f σ H f' σ H' ∧ (∀ a, Fm f' a → a ∈ F' ∨ (Fm f a ∧ a ∉ f r)) ∧ f' r = F' := by
  have hlt := (List.getElem?_eq_some_iff.mp hr).1
  have imm : ∀ b o, H b = some o → ImmO o → H' b = some o := fun b o e i => st b o e fun z => by
    obtain ⟨o', e', m⟩ := E.un r b z
    rw [e] at e'; cases e'
    cases o <;> first | exact i.elim | exact m.elim
  have keep : ∀ {d : D} {v : V} {K : List Addr}, (∀ x ∈ K, x ∉ f r) → Own G H d v K → Own G H' d v K := fun {d v K} hK q =>
    own_keep (fun b o1 e1 i1 => Kp.of fun o2 e2 => imm b o2 e2 (by rw [e1] at e2; cases e2; exact i1)) d v K (fun b hb => Kp.of fun o2 e2 => st b o2 e2 (hK b hb)) q
  have there : ∀ a j, a ∈ f j → ∃ o, H a = some o := fun a j h => let ⟨o, e, _⟩ := E.un j a h; ⟨o, e⟩
  refine ⟨fun j => if j = r then F' else f j, ⟨by simp [E.len], fun j d2 h => ?_, fun j d2 h => ?_, fun j h => ?_, fun j => ?_, fun j k a h1 h2 => ?_, fun j a h => ?_⟩, ⟨fun b o e m => ?_, fun a ⟨j, h⟩ => ?_, fun _ _ => rfl⟩, fun a ⟨j, h⟩ => ?_, if_pos rfl⟩
  · by_cases e : j = r
    · subst e
      rw [List.getElem?_set_self hlt] at h
      cases h
      exact ⟨v, hv, by simpa using o⟩
    · rw [List.getElem?_set_ne (Ne.symm e)] at h
      obtain ⟨v', e1, o1⟩ := E.ow j d2 h
      exact ⟨v', e1, by simpa [e] using keep (fun x hx hz => e (E.dj j r x hx hz)) o1⟩
  · by_cases e : j = r
    · subst e
      rw [List.getElem?_set_self hlt] at h
      cases h
    · rw [List.getElem?_set_ne (Ne.symm e)] at h
      obtain ⟨v', K, e1, o1, q⟩ := E.ro j d2 h
      refine ⟨v', K, e1, keep (fun x hx hz => q x hx r hz) o1, fun a ha k hk => ?_⟩
      split at hk
      · rcases nw a hk with z | z
        · exact q a ha r z
        · obtain ⟨o', e'⟩ := own_there d2 v' K o1 a ha
          rw [z] at e'; cases e'
      · exact q a ha k hk
  · by_cases e : j = r
    · subst e
      exact absurd (List.getElem?_set_self hlt) (h d')
    · simp only [e, if_false]
      exact E.nil j fun d2 q => h d2 (by rw [List.getElem?_set_ne (Ne.symm e)]; exact q)
  · split
    · exact nd
    · exact E.nd j
  · split at h1
    · split at h2
      · omega
      · rename_i e1 e2
        rcases nw a h1 with z | z
        · exact absurd (E.dj r k a z h2).symm e2
        · obtain ⟨o', e'⟩ := there a k h2
          rw [z] at e'; cases e'
    · split at h2
      · rename_i e1 e2
        rcases nw a h2 with z | z
        · exact absurd (E.dj r j a z h1).symm e1
        · obtain ⟨o', e'⟩ := there a j h1
          rw [z] at e'; cases e'
      · exact E.dj j k a h1 h2
  · split at h
    · exact mo a h
    · rename_i e
      obtain ⟨o', e', m⟩ := E.un j a h
      exact ⟨o', st a o' e' fun z => e (E.dj j r a h z), m⟩
  · by_cases hb : b ∈ f r
    · exact imm b o e (m ⟨r, hb⟩)
    · exact st b o e hb
  · dsimp only at h
    split at h
    · rcases nw a h with z | z
      · exact .inl ⟨r, z⟩
      · exact .inr z
    · exact .inl ⟨j, h⟩
  · dsimp only at h
    split at h
    · exact .inl h
    · rename_i e
      exact .inr ⟨⟨j, h⟩, fun z => e (E.dj j r a h z)⟩
end
end Rs

set_option maxRecDepth 100000
/-! Rs9: stores into owned things. -/
namespace Rs
open PySem PySem.Spec PyProof.Rows L2

section
variable {G : Gx} {H H' : Hp}
theorem nodeAt_same {h : Hd} {a : Addr} {vs : List V} (s : Same H H') (n : NodeAt G H h a vs) : NodeAt G H' h a vs := nodeAt_keep (Kp.of fun o e => s _ o e) n
theorem atV_same {d : D} {v w : V} {p : Option Nat} (s : Same H H') (h : AtV G H d v w p) : AtV G H' d v w p := by
  cases p with
  | none => exact h
  | some i =>
    obtain ⟨hd, xs, a, vs, F, e1, e2, e3, n, o, e4⟩ := h
    exact ⟨hd, xs, a, vs, F, e1, e2, e3, nodeAt_same s n, ownL_same s o, e4⟩
theorem rd_uniq {a : Addr} {u u' : HO} (h : Rd H a u) (h' : Rd H a u') (n : DicO u) (n' : DicO u') : u = u' := by
  rcases h with h | ⟨o, h⟩
  · rcases h' with h' | ⟨o', h'⟩
    · rw [h] at h'; exact Option.some.inj h'
    · rw [h] at h'; cases h'; exact n.elim
  · rcases h' with h' | ⟨o', h'⟩
    · rw [h] at h'; cases h'; exact n'.elim
    · rw [h] at h'; cases h'; rfl
theorem nodeAt_uniq {h : Hd} {a : Addr} {vs ws : List V} (hm : h.mu = true) (n : NodeAt G H h a vs) (n' : NodeAt G H h a ws) : vs = ws := by
  cases h with
  | tup => cases hm
  | fls => cases hm
  | lst =>
    have n : H a = _ := n
    have n' : H a = _ := n'
    rw [n] at n'; cases n'; rfl
  | dK ks =>
    obtain ⟨k1, r1, _, e1⟩ := n
    obtain ⟨k2, r2, _, e2⟩ := n'
    have := rd_uniq r1 r2 trivial trivial
    cases this
    rw [← e1, ← e2]
  | dT ks =>
    obtain ⟨k1, r1, _, e1⟩ := n
    obtain ⟨k2, r2, _, e2⟩ := n'
    have := rd_uniq r1 r2 trivial trivial
    cases this
    rw [← e1, ← e2]
  | ins =>
    obtain ⟨d1, f1, r1, _, e1⟩ := n
    obtain ⟨d2, f2, r2, _, e2⟩ := n'
    rw [r1] at r2
    cases r2
    rw [← e1, ← e2]
theorem atV_uniq {d : D} {v w w' : V} {p : Option Nat} (h : AtV G H d v w p) (h' : AtV G H d v w' p) : w = w' := by
  cases p with
  | none => exact h.trans h'.symm
  | some i =>
    obtain ⟨hd, xs, a, vs, F, e1, e2, e3, n, o, e4⟩ := h
    obtain ⟨hd', xs', a', vs', F', f1, f2, f3, n', o', f4⟩ := h'
    subst e1 e3
    cases f1
    cases f3
    have := nodeAt_uniq e2 n n'
    subst this
    rw [e4] at f4
    exact Option.some.inj f4
end
/-- the place of a thing within an owned slot -/
def tPl (G : Gx) (W : WX) (r : Nat) (pm : Evn → R (Option Nat)) : TE := fun σ H Q => ∃ ρ f, EnvR G H σ ρ f ∧
  SatG G W (fun p => ∃ d v, ρ[r]? = some (Slot.ow d) ∧ σ[r]? = some (some v) ∧ ∀ w H', Same H H' → AtV G H' d v w p → Q w H') σ H (pm ρ)
abbrev SPl (G : Gx) (X : Cx) (W : WX) (r : Nat) (pm : Evn → R (Option Nat)) (e : Expr) : Prop := PE X e (tPl G W r pm)
section
variable {G : Gx} {X : Cx} {W : WX} {e i : Expr} {pos p' : Pos} {m mk mv : Evn → R D} {x : Str} {r : Nat}
def pRoot : Evn → R (Option Nat) := fun _ => .ok none
theorem pl_var (r : Nat) (hN : X.N[r]? = some x := by rfl) (hv : Vis X.env.scope x := by first | exact Or.inl rfl | exact Or.inr (Or.inl rfl) | exact Or.inr (Or.inr rfl))
    (hd : (x == ("__debug__" : Str)) = false := by decide) (hcd : (x == ("__classdict__" : Str)) = false := by decide) : SPl G X W r pRoot (.Name x pos) :=
  PE.imp (pe_var hN hv hd hcd) fun σ H Q ⟨ρ, f, E, d, v, h1, h2, q⟩ => ⟨v, h2, q v H (Same.refl H) rfl⟩
/-- x.f, x an owned instance whose i-th attribute is f -/
def pFld (r i : Nat) : Evn → R (Option Nat) := fun ρ => match ρ[r]? with
  | some (.ow (.node .ins xs)) => if i < xs.length then .ok (some i) else .no
  | _ => .no
structure ClsG (G : Gx) : Prop where
  cl : Cls G.K G.C
  no : ∀ f ∈ G.names, NoAttr G.K G.C f
  nd : G.names.Nodup
theorem lookup_at {fs : List (Str × V)} {ns : List Str} (nd : ns.Nodup) : ∀ {i : Nat} {f : Str} {w : V}, fs.map (·.1) = ns.take fs.length → ns[i]? = some f → (fs.map (·.2))[i]? = some w → fs.lookup f = some w := by
  induction fs generalizing ns with
  | nil => intro i f w _ _ h; simp at h
  | cons q fs ih =>
    intro i f w h1 h2 h3
    cases ns with
    | nil => simp at h2
    | cons n ns =>
      simp only [List.map_cons, List.length_cons, List.take_succ_cons, List.cons.injEq] at h1
      obtain ⟨q1, q2⟩ := q
      obtain rfl : q1 = n := h1.1
      rw [List.lookup_cons]
      cases i with
      | zero =>
        simp only [List.getElem?_cons_zero, Option.some.injEq] at h2
        simp only [List.map_cons, List.getElem?_cons_zero, Option.some.injEq] at h3
        subst h2 h3
        simp
      | succ i =>
        have hn : f ∈ ns := List.mem_of_getElem? (by simpa using h2)
        have hne : (f == q1) = false := by
          have : f ≠ q1 := fun e => (List.nodup_cons.mp nd).1 (by rw [← e]; exact hn)
          simpa using this
        rw [hne]
        exact ih (List.nodup_cons.mp nd).2 h1.2 (by simpa using h2) (by simpa using h3)
theorem pl_fld (r i : Nat) {fn : Str} {pos' : Pos} (hK : X.K = G.K) (hC : ClsG G) (hi : G.names[i]? = some fn) (hN : X.N[r]? = some x := by rfl) (hv : Vis X.env.scope x := by first | exact Or.inl rfl | exact Or.inr (Or.inl rfl) | exact Or.inr (Or.inr rfl))
    (hd : (x == ("__debug__" : Str)) = false := by decide) (hcd : (x == ("__classdict__" : Str)) = false := by decide) (hb : attributeBase (.Name x pos') fn X.env (eval (.Name x pos') X.env) = eval (.Name x pos') X.env := by rfl) : SPl G X W r (pFld r i) (.Attribute (.Name x pos') fn pos) :=
  PE.imp (pe_fld (pe_var hN hv hd hcd) hb) fun σ H Q ⟨ρ, f, E, s⟩ => by
    unfold pFld at s
    split at s
    · rename_i xs h
      split at s
      · rename_i hlt
        obtain ⟨d, v, h1, h2, q⟩ := s
        rw [h] at h1
        cases h1
        obtain ⟨v', e1, o⟩ := E.ow r _ h
        rw [h2] at e1; cases e1
        obtain ⟨a, vs, F1, rfl, n, ol, ef⟩ := own_node.mp o
        obtain ⟨dx, fs, ha, hf, hvs⟩ := id n
        subst hvs
        have hl : i < (fs.map (·.2)).length := by rw [ownL_len ol]; exact hlt
        have hw := List.getElem?_eq_getElem hl
        rw [List.length_map] at hf
        refine ⟨.ref a, h2, a, G.C, dx, fs, _, rfl, ha, by rw [hK]; exact hC.cl, by rw [hK]; exact hC.no fn (List.mem_of_getElem? hi), lookup_at hC.nd hf hi hw, q _ H (Same.refl H) ⟨.ins, xs, a, _, F1, rfl, rfl, rfl, n, ol, hw⟩⟩
      · exact s.elim
    · exact s.elim
/-- x[k], x an owned list or dict -/
def ixChild (d k : D) : Option Nat := match d with
  | .node .lst xs => match k with
    | .int i => (ixN xs.length i).bind fun j => if j < xs.length then some j else none
    | _ => none
  | .node (.dT ks) xs => match k.pair with
    | some p => (ixOf ks p).bind fun j => if j < xs.length then some j else none
    | none => none
  | _ => none
def pIx (r : Nat) (mk : Evn → R D) : Evn → R (Option Nat) := fun ρ => match ρ[r]? with
  | some (.ow d) => (mk ρ).bind fun k => match ixChild d k with
    | some j => .ok (some j)
    | none => .no
  | _ => .no
theorem pl_ix (r : Nat) {pos' : Pos} (hK : X.K = G.K) (hu : X.A.units + 100 < cLine) (hb : SE G X W mk i) (hN : X.N[r]? = some x := by rfl) (hv : Vis X.env.scope x := by first | exact Or.inl rfl | exact Or.inr (Or.inl rfl) | exact Or.inr (Or.inr rfl))
    (hd : (x == ("__debug__" : Str)) = false := by decide) (hcd : (x == ("__classdict__" : Str)) = false := by decide) (hs : PlainIx i := by exact fun _ _ => rfl) : SPl G X W r (pIx r mk) (.Subscript (.Name x pos') i pos) := by
  refine PE.imp (PE.or (pe_ix ix_list (pe_var hN hv hd hcd) hb hs) (pe_dget (by omega) (pe_var hN hv hd hcd) hb hs)) fun σ H Q ⟨ρ, f, E, s⟩ => ?_
  unfold pIx at s
  split at s
  · rename_i d hr
    obtain ⟨v, e1, o⟩ := E.ow r d hr
    cases d with
    | node hd xs =>
      cases hd with
      | lst =>
        refine .inl ⟨v, e1, ρ, E.p, (SatG.bind s).imp fun k _ ⟨_, p⟩ y H2 F2 sm o2 => ?_⟩
        unfold ixChild at p
        cases k with
        | int z =>
          dsimp only at p
          cases e3 : ixN xs.length z with
          | none => rw [e3] at p; exact p.elim
          | some j =>
            rw [e3] at p
            dsimp only [Option.bind] at p
            split at p
            · rename_i j' hj
              split at hj
              · rename_i hlt
                cases hj
                obtain ⟨d', v', h1, h2, q⟩ := p
                rw [hr] at h1; cases h1
                rw [e1] at h2; cases h2
                obtain ⟨a, vs, F1, rfl, n, ol, ef⟩ := own_node.mp (own_same sm o)
                obtain ⟨rfl, _⟩ := own_int.mp o2
                have hl : j < vs.length := by rw [ownL_len ol]; exact hlt
                have hw := List.getElem?_eq_getElem hl
                refine ⟨a, vs, z, _, rfl, rfl, .inl (.inl n), ?_, q _ H2 sm ⟨.lst, xs, a, vs, F1, rfl, rfl, rfl, n, ol, hw⟩⟩
                unfold atI
                rw [ownL_len ol, e3]
                exact hw
              · cases hj
            · exact p.elim
        | _ => exact p.elim
      | dT ks =>
        refine .inr ⟨v, e1, ρ, E.p, (SatG.bind s).imp fun k _ ⟨_, p⟩ y H2 F2 sm o2 => ?_⟩
        unfold ixChild at p
        cases e3 : k.pair with
        | none => simp only [e3] at p; exact p.elim
        | some pr =>
          simp only [e3] at p
          cases e4 : ixOf ks pr with
          | none => rw [e4] at p; exact p.elim
          | some j =>
            rw [e4] at p
            dsimp only [Option.bind] at p
            split at p
            · rename_i j' hj
              split at hj
              · rename_i hlt
                cases hj
                obtain ⟨d', v', h1, h2, q⟩ := p
                rw [hr] at h1; cases h1
                rw [e1] at h2; cases h2
                obtain ⟨a, vs, F1, rfl, n, ol, ef⟩ := own_node.mp (own_same sm o)
                obtain ⟨kvs, rd, hk, hvs⟩ := id n
                subst hvs
                rw [D.pair_eq e3] at o2
                obtain ⟨b, rfl, hb⟩ := own_pair o2
                have hl : j < (kvs.map (·.2)).length := by rw [ownL_len ol]; exact hlt
                have hw := List.getElem?_eq_getElem hl
                refine ⟨a, _, rfl, .inr ⟨kvs, kp pr, b, rd, rfl, hb, ?_⟩, q _ H2 sm ⟨.dT ks, xs, a, _, F1, rfl, rfl, rfl, n, ol, hw⟩⟩
                rw [valV_look (fun _ _ => kp_inj) pr hk rfl]
                unfold look
                rw [e4]
                exact hw.symm
              · cases hj
            · exact p.elim
      | tup => exact .inl ⟨v, e1, ρ, E.p, (SatG.bind s).imp fun k _ ⟨_, p⟩ => p.elim⟩
      | fls => exact .inl ⟨v, e1, ρ, E.p, (SatG.bind s).imp fun k _ ⟨_, p⟩ => p.elim⟩
      | ins => exact .inl ⟨v, e1, ρ, E.p, (SatG.bind s).imp fun k _ ⟨_, p⟩ => p.elim⟩
      | dK _ => exact .inl ⟨v, e1, ρ, E.p, (SatG.bind s).imp fun k _ ⟨_, p⟩ => p.elim⟩
    | _ => exact .inl ⟨v, e1, ρ, E.p, (SatG.bind s).imp fun k _ ⟨_, p⟩ => p.elim⟩
  · exact s.elim
/-! ### x[k] = e -/
def putItem (d k x : D) : Option D := match d with
  | .node .lst xs => match k with
    | .int i => (ixN xs.length i).bind fun j => if j < xs.length then some (.node .lst (xs.set j x)) else none
    | _ => none
  | .node (.dT ks) xs => match k.pair with
    | some p => if ks.length < 100000 ∧ (x.imm = true ∨ p ∉ ks) then some (.node (.dT (putD ks xs p x).1) (putD ks xs p x).2) else none
    | none => none
  | .node (.dK ks) xs => match k with
    | .int p => if ks.length < 100000 ∧ (x.imm = true ∨ p ∉ ks) then some (.node (.dK (putD ks xs p x).1) (putD ks xs p x).2) else none
    | _ => none
  | _ => none
theorem line100k {n : Nat} (h : n < 100000) : n < sizeLine := by rw [sizeLine_eq]; omega
end
section
variable {G : Gx} {H : Hp}
theorem ownL_zip {κ : Type} [DecidableEq κ] {k : κ} {x : D} {v : V} (ox : Own G H x v []) : ∀ {ks : List κ} {ds : List D} {vs : List V} {F : List Addr}, OwnL G H ds vs F →
    ∃ F', OwnL G H (List.zipWith (fun j y => if j = k then x else y) ks ds) (List.zipWith (fun j y => if j = k then v else y) ks vs) F' ∧ F'.Sublist F
  | [], ds, vs, F, o => ⟨[], by simp [OwnL], List.nil_sublist _⟩
  | j :: ks, [], vs, F, o => by
    obtain ⟨rfl, _⟩ := ownL_nil.mp o
    exact ⟨[], by simp [OwnL], List.nil_sublist _⟩
  | j :: ks, d :: ds, vs, F, o => by
    obtain ⟨w, vr, F1, F2, rfl, o1, o2, rfl⟩ := ownL_cons.mp o
    obtain ⟨F', o', s'⟩ := ownL_zip ox (ks := ks) o2
    rw [List.zipWith_cons_cons, List.zipWith_cons_cons]
    by_cases e : j = k
    · rw [if_pos e, if_pos e]
      exact ⟨F', ownL_cons.mpr ⟨v, _, [], F', rfl, ox, o', rfl⟩, s'.trans (List.sublist_append_right F1 F2)⟩
    · rw [if_neg e, if_neg e]
      exact ⟨F1 ++ F', ownL_cons.mpr ⟨w, _, F1, F', rfl, o1, o', rfl⟩, (List.Sublist.refl F1).append s'⟩
/-- children when their holder is written -/
theorem ownL_upd {ds : List D} {vs : List V} {F : List Addr} {a : Addr} {o : HO} (hm : ∃ u, H a = some u ∧ MutO u) (ha : a ∉ F) (ol : OwnL G H ds vs F) : OwnL G (upd H a o) ds vs F := by
  obtain ⟨u, e, m⟩ := hm
  have ne : ∀ b u', H b = some u' → b ≠ a → upd H a o b = some u' := fun b u' e' hb => by rw [upd_ne hb]; exact e'
  refine ownL_keep (fun b u' e' im => Kp.of fun o2 e2 => ne b o2 e2 fun z => ?_) ds vs F (fun b hb => Kp.of fun o2 e2 => ne b o2 e2 fun z => ha (by rw [← z]; exact hb)) ol
  rw [z, e] at e'
  cases e'
  cases u <;> first | exact im.elim | exact m.elim
theorem own_updv {d : D} {v : V} {F : List Addr} {a : Addr} {o : HO} (hm : ∃ u, H a = some u ∧ MutO u) (ha : a ∉ F) (ol : Own G H d v F) : Own G (upd H a o) d v F := by
  obtain ⟨v', F', e, o', _⟩ := ownL_get (i := 0) (d := d) (ownL_upd (o := o) hm (by simpa using ha) (ownL_one ol)) rfl
  cases e
  obtain ⟨w, vr, F1, F2, e, o1, o2, ef⟩ := ownL_cons.mp (ownL_upd (o := o) hm (by simpa using ha) (ownL_one ol))
  cases e
  obtain ⟨_, rfl⟩ := ownL_nil.mp o2
  rw [List.append_nil] at ef
  rw [ef]
  exact o1
theorem mut_rd {a : Addr} {u u' : HO} (hm : H a = some u' ∧ MutO u') (r : Rd H a u) : H a = some u := by
  rcases r with r | ⟨o, r⟩
  · exact r
  · rw [hm.1] at r
    cases r
    exact hm.2.elim
theorem putD_fst {κ α β : Type} [DecidableEq κ] (ks : List κ) (xs : List α) (ys : List β) (k : κ) (x : α) (y : β) : (putD ks xs k x).1 = (putD ks ys k y).1 := by
  unfold putD
  split <;> rfl
/-- the heap behind a[y] = v, for dicts and lists -/
def SetAt (H : Hp) (a : Addr) (y v : V) (H' : Hp) : Prop := DPut H a y v H' ∨ ∃ xs k j, y = .int k ∧ H a = some (.lst xs) ∧ ixN xs.length k = some j ∧ H' = upd H a (.lst (xs.set j v))
theorem putItem_ok {dn k x dn' : D} {w y v : V} {Fn Fk Fx : List Addr} (h : putItem dn k x = some dn') (o : Own G H dn w Fn) (nd : Fn.Nodup) (un : ∀ b ∈ Fn, ∃ u, H b = some u ∧ MutO u) (ok : Own G H k y Fk) (ox : Own G H x v Fx) (ndx : Fx.Nodup) (dis : ∀ b ∈ Fx, b ∉ Fn) :
    ∃ a u o' Fn', w = .ref a ∧ H a = some u ∧ MutO u ∧ MutO o' ∧ a ∈ Fn ∧ SetAt H a y v (upd H a o') ∧ Own G (upd H a o') dn' w Fn' ∧ Fn'.Nodup ∧ (∀ z ∈ Fn', z ∈ Fn ∨ z ∈ Fx) := by
  unfold putItem at h
  split at h
  · rename_i xs
    split at h
    · rename_i i
      obtain ⟨a, vs, F1, rfl, n, ol, ef⟩ := own_lst o
      subst ef
      obtain ⟨rfl, _⟩ := own_int.mp ok
      cases e : ixN xs.length i with
      | none => rw [e] at h; cases h
      | some j =>
        rw [e] at h
        have h : (if j < xs.length then some (D.node .lst (xs.set j x)) else none) = some dn' := h
        split at h
        · rename_i hlt
          cases h
          have ha : a ∉ F1 := (List.nodup_cons.mp nd).1
          have hm : ∃ u, H a = some u ∧ MutO u := ⟨_, n, trivial⟩
          have hax : a ∉ Fx := fun z => dis a z (by simp)
          obtain ⟨w', A, B, C, hw, eF, oA, oB, oC⟩ := ownL_split ol (List.getElem?_eq_getElem hlt)
          have hv : j < vs.length := (List.getElem?_eq_some_iff.mp hw).1
          subst eF
          have hA : a ∉ A := fun z => ha (by simp [z])
          have hC : a ∉ C := fun z => ha (by simp [z])
          refine ⟨a, _, .lst (vs.set j v), a :: (A ++ (Fx ++ C)), rfl, n, trivial, trivial, by simp, .inr ⟨vs, i, j, rfl, n, by rw [ownL_len ol]; exact e, rfl⟩, ?_, ?_, ?_⟩
          · refine own_node.mpr ⟨a, _, _, rfl, upd_same, ?_, rfl⟩
            rw [set_cut hlt, set_cut hv]
            exact ownL_append (ownL_upd hm hA oA) (ownL_append (ownL_one (own_updv hm hax ox)) (ownL_upd hm hC oC))
          · have nd1 := (List.nodup_cons.mp nd).2
            obtain ⟨n1, n2, n3⟩ := List.nodup_append.mp nd1
            obtain ⟨n4, n5, n6⟩ := List.nodup_append.mp n2
            refine List.nodup_cons.mpr ⟨fun z => ?_, List.nodup_append.mpr ⟨n1, List.nodup_append.mpr ⟨ndx, n5, fun p hp q hq e => ?_⟩, fun p hp q hq e => ?_⟩⟩
            · rcases List.mem_append.mp z with z | z
              · exact hA z
              · rcases List.mem_append.mp z with z | z
                · exact hax z
                · exact hC z
            · subst e; exact dis p hp (by simp [hq])
            · subst e
              rcases List.mem_append.mp hq with hq | hq
              · exact dis p hq (by simp [hp])
              · exact n3 p hp p (by simp [hq]) rfl
          · intro z hz
            rcases List.mem_cons.mp hz with e | hz
            · exact .inl (by simp [e])
            · rcases List.mem_append.mp hz with hz | hz
              · exact .inl (by simp [hz])
              · rcases List.mem_append.mp hz with hz | hz
                · exact .inr hz
                · exact .inl (by simp [hz])
        · cases h
    · cases h
  · rename_i ks xs
    split at h
    · rename_i p hp
      split at h
      · rename_i hc
        cases h
        obtain ⟨a, kvs, F1, rfl, rd, hk, ol, ef⟩ := own_dT o
        subst ef
        obtain ⟨u', hu'⟩ := un a (by simp)
        have ha0 := mut_rd hu' rd
        have ha : a ∉ F1 := (List.nodup_cons.mp nd).1
        have hm : ∃ u, H a = some u ∧ MutO u := ⟨_, ha0, trivial⟩
        have hax : a ∉ Fx := fun z => dis a z (by simp)
        rw [D.pair_eq hp] at ok
        obtain ⟨b, rfl, hb⟩ := own_pair ok
        have hlen : kvs.length = ks.length := by have := congrArg List.length hk; simpa using this
        obtain ⟨q1, q2⟩ := putK_put (fun _ _ => kp_inj) p v hk rfl
        have put : ∃ F', OwnL G H (putD ks xs p x).2 (putD ks (kvs.map (·.2)) p v).2 F' ∧ F'.Nodup ∧ ∀ z ∈ F', z ∈ F1 ∨ z ∈ Fx := by
          unfold putD
          by_cases hin : p ∈ ks
          · rw [if_pos hin, if_pos hin]
            have hi : x.imm = true := hc.2.resolve_right fun z => z hin
            have ex := own_imm x v Fx hi ox
            subst ex
            obtain ⟨F', o', s'⟩ := ownL_zip (k := p) ox (ks := ks) ol
            exact ⟨F', o', s'.nodup (List.nodup_cons.mp nd).2, fun z hz => .inl (s'.subset hz)⟩
          · rw [if_neg hin, if_neg hin]
            refine ⟨F1 ++ Fx, ownL_append ol (ownL_one ox), List.nodup_append.mpr ⟨(List.nodup_cons.mp nd).2, ndx, fun p hp q hq e => ?_⟩, fun z hz => List.mem_append.mp hz⟩
            subst e
            exact dis p hq (by simp [hp])
        obtain ⟨F', o', nd', sub'⟩ := put
        have haF' : a ∉ F' := fun z => (sub' a z).elim ha hax
        refine ⟨a, _, .dT (putK kvs (kp p) v), a :: F', rfl, ha0, trivial, trivial, by simp, .inl (DPut.t ha0 hb (line100k (by omega))), ?_, List.nodup_cons.mpr ⟨haF', nd'⟩, fun z hz => ?_⟩
        · exact own_node.mpr ⟨a, _, F', rfl, ⟨_, .inl upd_same, by rw [putD_fst ks xs (kvs.map (·.2)) p x v]; exact q1, q2⟩, ownL_upd hm haF' o', rfl⟩
        · rcases List.mem_cons.mp hz with e | hz
          · exact .inl (by simp [e])
          · exact (sub' z hz).imp (fun q => by simp [q]) id
      · cases h
    · cases h
  · rename_i ks xs
    split at h
    · rename_i p
      split at h
      · rename_i hc
        cases h
        obtain ⟨a, kvs, F1, rfl, rd, hk, ol, ef⟩ := own_dK o
        subst ef
        obtain ⟨u', hu'⟩ := un a (by simp)
        have ha0 := mut_rd hu' rd
        have ha : a ∉ F1 := (List.nodup_cons.mp nd).1
        have hm : ∃ u, H a = some u ∧ MutO u := ⟨_, ha0, trivial⟩
        have hax : a ∉ Fx := fun z => dis a z (by simp)
        obtain ⟨rfl, _⟩ := own_int.mp ok
        have hlen : kvs.length = ks.length := by have := congrArg List.length hk; simpa using this
        obtain ⟨q1, q2⟩ := putK_put inl_inj p v hk rfl
        have put : ∃ F', OwnL G H (putD ks xs p x).2 (putD ks (kvs.map (·.2)) p v).2 F' ∧ F'.Nodup ∧ ∀ z ∈ F', z ∈ F1 ∨ z ∈ Fx := by
          unfold putD
          by_cases hin : p ∈ ks
          · rw [if_pos hin, if_pos hin]
            have hi : x.imm = true := hc.2.resolve_right fun z => z hin
            have ex := own_imm x v Fx hi ox
            subst ex
            obtain ⟨F', o', s'⟩ := ownL_zip (k := p) ox (ks := ks) ol
            exact ⟨F', o', s'.nodup (List.nodup_cons.mp nd).2, fun z hz => .inl (s'.subset hz)⟩
          · rw [if_neg hin, if_neg hin]
            refine ⟨F1 ++ Fx, ownL_append ol (ownL_one ox), List.nodup_append.mpr ⟨(List.nodup_cons.mp nd).2, ndx, fun p hp q hq e => ?_⟩, fun z hz => List.mem_append.mp hz⟩
            subst e
            exact dis p hq (by simp [hp])
        obtain ⟨F', o', nd', sub'⟩ := put
        have haF' : a ∉ F' := fun z => (sub' a z).elim ha hax
        refine ⟨a, _, .dK (putK kvs (.inl p) v), a :: F', rfl, ha0, trivial, trivial, by simp, .inl (DPut.k (k := .inl p) ha0 (line100k (by omega))), ?_, List.nodup_cons.mpr ⟨haF', nd'⟩, fun z hz => ?_⟩
        · exact own_node.mpr ⟨a, _, F', rfl, ⟨_, .inl upd_same, by rw [putD_fst ks xs (kvs.map (·.2)) p x v]; exact q1, q2⟩, ownL_upd hm haF' o', rfl⟩
        · rcases List.mem_cons.mp hz with e | hz
          · exact .inl (by simp [e])
          · exact (sub' z hz).imp (fun q => by simp [q]) id
      · cases h
    · cases h
  · cases h
end
end Rs

set_option maxRecDepth 100000
/-! Rs10: statements that change owned things. -/
namespace Rs
open PySem PySem.Spec PyProof.Rows L2

section
variable {G : Gx} {W : WX} {σ : St} {ρ : Evn} {f : Nat → List Addr} {H H3 : Hp}
theorem place_mut (E : EnvR G H σ ρ f) {r : Nat} {d : D} {v0 w : V} {p : Option Nat} {dn : D} (hr : ρ[r]? = some (Slot.ow d)) (hv : σ[r]? = some (some v0)) (hp : atP d p = some dn) (sm : Same H H3) (hw : AtV G H3 d v0 w p) {Fx : List Addr} (frx : ∀ a ∈ Fx, H a = none ∧ ∃ o, H3 a = some o ∧ MutO o) :
    ∃ Fn, Own G H3 dn w Fn ∧ Fn.Nodup ∧ (∀ b ∈ Fn, ∃ u, H3 b = some u ∧ MutO u) ∧ (∀ b ∈ Fx, b ∉ Fn) ∧ ∀ (a : Addr) (u o' : HO) (dn' : D) (Fn' : List Addr), H3 a = some u → MutO u → MutO o' → a ∈ Fn → Own G (upd H3 a o') dn' w Fn' → Fn'.Nodup → (∀ z ∈ Fn', z ∈ Fn ∨ z ∈ Fx) →
      ∃ f', EnvR G (upd H3 a o') σ (ρ.set r (.ow (setP d p dn'))) f' ∧ Lk [] f σ H f' σ (upd H3 a o') := by
  obtain ⟨v, e1, o⟩ := E.ow r d hr
  rw [hv] at e1; cases e1
  obtain ⟨w', Fn, hw', on, sub, nd, back⟩ := own_child (own_same sm o) (E.nd r) hp
  have := atV_uniq hw hw'
  subst this
  have un : ∀ b ∈ Fn, ∃ u, H3 b = some u ∧ MutO u := fun b hb => let ⟨u, e, m⟩ := E.un r b (sub b hb); ⟨u, sm _ _ e, m⟩
  have nfr : ∀ b ∈ Fx, b ∉ f r := fun b hb z => by
    obtain ⟨u, e, _⟩ := E.un r b z
    rw [(frx b hb).1] at e; cases e
  refine ⟨Fn, on, nd, un, fun b hb z => nfr b hb (sub b z), fun a u o' dn' Fn' ha mu mo hin o2 nd2 nw => ?_⟩
  have st : ∀ b o, H3 b = some o → b ≠ a → upd H3 a o' b = some o := fun b o e hb => by rw [upd_ne hb]; exact e
  obtain ⟨F', o3, nd3, src⟩ := back (upd H3 a o') dn' Fn' (fun b o e hb => st b o e fun z => hb (by rw [z]; exact hin)) (fun b o e im => st b o e fun z => by
    rw [z, ha] at e; cases e
    cases u <;> first | exact im.elim | exact mu.elim) o2 nd2 fun x hx => (nw x hx).imp id fun z => nfr x z
  have mem : ∀ x ∈ F', x ∈ f r ∨ x ∈ Fx := fun x hx => by
    rcases src x hx with z | z
    · rcases nw x z with z | z
      · exact .inl (sub x z)
      · exact .inr z
    · exact .inl z.1
  obtain ⟨f', E', l, _⟩ := E.mut (H' := upd H3 a o') hr hv o3 nd3 (fun x hx => (mem x hx).imp id fun z => (frx x z).1) (fun x hx => by
    by_cases e : x = a
    · subst e; exact ⟨o', upd_same, mo⟩
    · rw [upd_ne e]
      rcases mem x hx with z | z
      · obtain ⟨u', e', m'⟩ := E.un r x z
        exact ⟨u', sm _ _ e', m'⟩
      · exact (frx x z).2) fun b o e hb => st b o (sm _ _ e) fun z => hb (by rw [z]; exact sub a hin)
  exact ⟨f', E', l⟩
end
/-- three results -/
def R.toS {α : Type} (r : R α) (ρ : Evn) (k : α → RS) : RS := match r with
  | .ok a => k a
  | .exc c => .exc c ρ
  | .no => .no
@[simp] theorem R.toS_ok {α : Type} (a : α) (ρ : Evn) (k : α → RS) : R.toS (.ok a) ρ k = k a := rfl
@[simp] theorem R.toS_exc {α : Type} (c : Nat) (ρ : Evn) (k : α → RS) : R.toS (.exc c) ρ k = .exc c ρ := rfl
@[simp] theorem R.toS_no {α : Type} (ρ : Evn) (k : α → RS) : R.toS .no ρ k = .no := rfl
theorem SatS.toS {α : Type} {G : Gx} {W : WX} {T : List Nat} {D : Ends} {σ : St} {H : Hp} {f : Nat → List Addr} {ρ : Evn} {r : R α} {k : α → RS} (s : SatS G W T D σ H f (r.toS ρ k)) (E : EnvR G H σ ρ f) : SatG G W (fun a => r = .ok a ∧ SatS G W T D σ H f (k a)) σ H r := by
  cases r with
  | ok a => exact ⟨rfl, s⟩
  | exc c => exact s.exc0 E
  | no => exact s
/-- the owned thing in slot r changes at a place -/
def putIn (d : D) (p : Option Nat) (g : D → Option D) : Option D := (atP d p).bind fun dn => (g dn).map fun dn' => setP d p dn'
theorem putIn_some {d d' : D} {p : Option Nat} {g : D → Option D} (h : putIn d p g = some d') : ∃ dn dn', atP d p = some dn ∧ g dn = some dn' ∧ d' = setP d p dn' := by
  unfold putIn at h
  cases e : atP d p with
  | none => rw [e] at h; cases h
  | some dn =>
    rw [e] at h
    have h : (g dn).map (fun dn' => setP d p dn') = some d' := h
    cases e2 : g dn with
    | none => rw [e2] at h; cases h
    | some dn' => rw [e2] at h; cases h; exact ⟨dn, dn', rfl, e2, rfl⟩
def setOw (r : Nat) (ρ : Evn) : Option D → RS
  | some d => .nx (ρ.set r (.ow d))
  | none => .no
section
variable {G : Gx} {X : Cx} {W : WX} {e o i : Expr} {es : List Expr} {pos pos' : Pos} {mk mv : Evn → R D} {ms : Evn → R (List D)} {pm : Evn → R (Option Nat)} {r : Nat}
def rSetA : TSet := fun o i v H Q => ∃ a H4, o = .ref a ∧ SetAt H a i v H4 ∧ Q H4
theorem set_any (hu : X.A.units + 100 < cLine) : PSet X rSetA := by
  intro pins s σ H o i v ov iv u Q I ro ri rv h
  obtain ⟨a, H4, rfl, st, q⟩ := h
  rcases st with st | ⟨xs, k, j, rfl, e1, e2, rfl⟩
  · obtain rfl : ov = Value.ref a := ro
    exact d_setItem (by omega) I st ri rv fun s' I' => ⟨H4, I', q⟩
  · exact set_list pins s σ H _ _ v ov iv u Q I ro ri rv ⟨a, xs, k, j, rfl, rfl, e1, e2, q⟩
def mPut (r : Nat) (pm : Evn → R (Option Nat)) (mk mv : Evn → R D) : Evn → RS := fun ρ => match ρ[r]? with
  | some (.ow d) => (mv ρ).toS ρ fun x => (pm ρ).toS ρ fun p => (mk ρ).toS ρ fun k => setOw r ρ (putIn d p fun dn => putItem dn k x)
  | _ => .no
theorem ss_put (r : Nat) (hu : X.A.units + 100 < cLine) (ho : SPl G X W r pm o) (hi : SE G X W mk i) (hv : SF G X W mv e) (hs : swapsWith e (some (.Subscript o i pos')) pos.line X.env = pure false := by rfl)
    (hs1 : swapsWithSole [.Subscript o i pos'] e pos.line X.env = pure false := by rfl) (hw : swappedStores [.Subscript o i pos'] e X.env = pure none := by rfl)
    (h1 : (assignEach [.Subscript o i pos'] X.env).map (·.2) = [assign (.Subscript o i pos') X.env] := by rfl)
    (ha : ∀ v, assign (.Subscript o i pos') X.env v = (do
      let ov ← holding [v] (eval o X.env)
      let iv ← holding [v, ov] (eval i X.env)
      standAt pos'
      holding [v, ov, iv] (setItem ov iv v)
      release [v, ov, iv] []) := by intro _; rfl) : SS G X W [] (mPut r pm mk mv) (.Assign [.Subscript o i pos'] e pos) := by
  refine PS.imp (ps_asg hv (pg_sub ho hi (set_any hu) ha) hs1 hw h1) fun D σ H ⟨ρ, f, E, s⟩ => ?_
  unfold mPut at s
  split at s
  · rename_i d hr
    obtain ⟨v0, hv0, _⟩ := E.ow r d hr
    refine ⟨ρ, E.p, (SatS.toS s E).imp fun x _ ⟨_, s1⟩ v H1 Fx sm1 ox ndx frx => ⟨ρ, f, E.same sm1, ?_⟩⟩
    refine ((SatS.toS s1 E).imp fun p _ ⟨_, s2⟩ => ⟨d, v0, hr, hv0, fun w H2 sm2 hw => ⟨ρ, (E.same (sm1.trans sm2)).p, ?_⟩⟩).later sm1
    refine ((SatS.toS s2 E).imp fun k _ ⟨_, s3⟩ y H3 Fk sm3 ok => ?_).later (sm1.trans sm2)
    cases e1 : putIn d p fun dn => putItem dn k x with
    | none => rw [e1] at s3; exact s3.elim
    | some d' =>
      rw [e1] at s3
      obtain ⟨dn, dn', a1, a2, rfl⟩ := putIn_some e1
      have sm := (sm1.trans sm2).trans sm3
      obtain ⟨Fn, on, nd, un, dis, back⟩ := place_mut E hr hv0 a1 sm (atV_same sm3 hw) (Fx := Fx) fun a ha => ⟨(frx a ha).1, let ⟨o, e, m⟩ := (frx a ha).2; ⟨o, (sm2.trans sm3) _ _ e, m⟩⟩
      obtain ⟨a, u, o', Fn', rfl, hu', mu, mo, hin, st, o2, nd2, nw⟩ := putItem_ok a2 on nd un ok (own_same (sm2.trans sm3) ox) ndx dis
      obtain ⟨f', E', l⟩ := back a u o' dn' Fn' hu' mu mo hin o2 nd2 nw
      exact ⟨a, _, rfl, st, s3 _ _ _ E' l⟩
  · exact s.elim
/-! ### x.m(e, ..) that changes x -/
/-- a method's rule serves a change g -/
def MuD (G : Gx) (T : String) (r : V → List V → Hp → VK → Prop) (g : D → List D → Option D) : Prop := ∀ (dn dn' : D) (ds : List D) (w : V) (vs : List V) (Fn Fx : List Addr) (H : Hp), g dn ds = some dn' → Own G H dn w Fn → Fn.Nodup → (∀ b ∈ Fn, ∃ u, H b = some u ∧ MutO u) → OwnL G H ds vs Fx → Fx.Nodup → (∀ b ∈ Fx, b ∉ Fn) →
  ∃ a u o' Fn', w = .ref a ∧ H a = some u ∧ MutO u ∧ MutO o' ∧ a ∈ Fn ∧ (∀ Q : VK, (∀ v, Q v (upd H a o')) → r w vs H Q) ∧ Own G (upd H a o') dn' w Fn' ∧ Fn'.Nodup ∧ ∀ z ∈ Fn', z ∈ Fn ∨ z ∈ Fx
/-- what the receiver must be -/
def tyD (T : String) : D → Bool
  | .node .lst _ => T == "list"
  | .node (.dK _) _ => T == "dict"
  | .node (.dT _) _ => T == "dict"
  | _ => false
theorem tyD_v {G : Gx} {H : Hp} {T : String} {dn : D} {w : V} {F : List Addr} (h : tyD T dn = true) (o : Own G H dn w F) (un : ∀ b ∈ F, ∃ u, H b = some u ∧ MutO u) : tyV G.K T w H := by
  unfold tyD at h
  split at h
  · obtain ⟨a, vs, F1, rfl, n, _⟩ := own_lst o
    exact .inl ⟨by simpa using h, vs, .inl (.inl n)⟩
  · obtain ⟨a, kvs, F1, rfl, rd, _, _, ef⟩ := own_dK o
    obtain ⟨u, hu⟩ := un a (by rw [ef]; simp)
    exact .inr (.inr (.inl ⟨by simpa using h, .inl ⟨kvs, mut_rd hu rd⟩⟩))
  · obtain ⟨a, kvs, F1, rfl, rd, _, _, ef⟩ := own_dT o
    obtain ⟨u, hu⟩ := un a (by rw [ef]; simp)
    exact .inr (.inr (.inl ⟨by simpa using h, .inr ⟨kvs, mut_rd hu rd⟩⟩))
  · cases h
variable {T id : String} {name : Str} {apos cpos : Pos} {rr : V → List V → Hp → VK → Prop} {g : D → List D → Option D}
def mMut (T : String) (g : D → List D → Option D) (r : Nat) (pm : Evn → R (Option Nat)) (ms : Evn → R (List D)) : Evn → RS := fun ρ => match ρ[r]? with
  | some (.ow d) => (pm ρ).toS ρ fun p => match atP d p with
    | some dn => if tyD T dn = true then (ms ρ).toS ρ fun ds => setOw r ρ (putIn d p fun dn => g dn ds) else .no
    | none => .no
  | _ => .no
theorem ss_mut (r : Nat) (hK : X.K = G.K) (pa : PlainAttrs T) (slot : PySem.Slot T name id) (hty : typeOf (.builtin id) = pure (.type "method_descriptor")) (hm : MtR X id rr) (hg : MuD G T rr g) (ho : SPl G X W r pm o) (ha : SAF G X W ms (e :: es))
    (hbase : attributeBase o name X.env (eval o X.env) = eval o X.env := by rfl)
    (hfew : ((backTo cpos (starEach (e :: es) X.env)).all (fun x => !x.1) && (backToKw cpos (keywordEach [] X.env)).all (fun x => x.1.isSome)
      && decide ((e :: es).length + ([] : List Keyword).length + (if ([] : List Keyword).isEmpty then 0 else 1) < 30)) = true := by rfl)
    (hline : (apos.endLine == cpos.line) = true := by rfl) (hs : starEach (e :: es) X.env = (false, eval e X.env) :: starEach es X.env := by rfl) (hplain : (backTo cpos (starEach es X.env)).any (·.1) = false := by rfl)
    (hsw : swapsWith (.Call (.Attribute o name apos) (e :: es) [] cpos) none pos.line X.env = pure false := by rfl) :
    SS G X W [] (mMut T g r pm ms) (.Expr (.Call (.Attribute o name apos) (e :: es) [] cpos) pos) := by
  refine PS.imp (ps_expr (pe_bm pa slot hty hm ho ha hbase hfew hline hs hplain) hsw) fun D σ H ⟨ρ, f, E, s⟩ => ?_
  unfold mMut at s
  split at s
  · rename_i d hr
    obtain ⟨v0, hv0, _⟩ := E.ow r d hr
    refine ⟨ρ, f, E, (SatS.toS s E).imp fun p _ ⟨_, s1⟩ => ⟨d, v0, hr, hv0, fun w H1 sm1 hw => ?_⟩⟩
    cases ed : atP d p with
    | none => rw [ed] at s1; exact s1.elim
    | some dn0 =>
      rw [ed] at s1
      dsimp only at s1
      split at s1
      · rename_i hty'
        refine ⟨?_, ρ, (E.same sm1).p, ?_⟩
        · obtain ⟨Fn, on, nd, un, _, _⟩ := place_mut E hr hv0 ed sm1 hw (Fx := []) fun a ha => by cases ha
          rw [hK]
          exact tyD_v hty' on un
        · refine ((SatS.toS s1 E).imp fun ds _ ⟨_, s2⟩ vs H2 Fx sm2 ox ndx frx => ?_).later sm1
          cases e1 : putIn d p fun dn => g dn ds with
          | none => rw [e1] at s2; exact s2.elim
          | some d' =>
            rw [e1] at s2
            obtain ⟨dn, dn', a1, a2, rfl⟩ := putIn_some e1
            obtain ⟨Fn, on, nd, un, dis, back⟩ := place_mut E hr hv0 a1 (sm1.trans sm2) (atV_same sm2 hw) (Fx := Fx) fun a ha => ⟨sm1.free (frx a ha).1, (frx a ha).2⟩
            obtain ⟨a, u, o', Fn', rfl, hu', mu, mo, hin, st, o2, nd2, nw⟩ := hg dn dn' ds w vs Fn Fx H2 a2 on nd un ox ndx dis
            obtain ⟨f', E', l⟩ := back a u o' dn' Fn' hu' mu mo hin o2 nd2 nw
            exact st _ fun v => s2 _ _ _ E' l
      · exact s1.elim
  · exact s.elim
theorem ss_mut0 (r : Nat) (hK : X.K = G.K) (pa : PlainAttrs T) (slot : PySem.Slot T name id) (hty : typeOf (.builtin id) = pure (.type "method_descriptor")) (hm : MtR X id rr) (hg : MuD G T rr g) (ho : SPl G X W r pm o)
    (hbase : attributeBase o name X.env (eval o X.env) = eval o X.env := by rfl) (hline : (apos.endLine == cpos.line) = true := by rfl)
    (hsw : swapsWith (.Call (.Attribute o name apos) [] [] cpos) none pos.line X.env = pure false := by rfl) :
    SS G X W [] (mMut T g r pm mNil) (.Expr (.Call (.Attribute o name apos) [] [] cpos) pos) := by
  refine PS.imp (ps_expr (pe_bm0 pa slot hty hm ho hbase hline) hsw) fun D σ H ⟨ρ, f, E, s⟩ => ?_
  unfold mMut at s
  split at s
  · rename_i d hr
    obtain ⟨v0, hv0, _⟩ := E.ow r d hr
    refine ⟨ρ, f, E, (SatS.toS s E).imp fun p _ ⟨_, s1⟩ => ⟨d, v0, hr, hv0, fun w H1 sm1 hw => ?_⟩⟩
    cases ed : atP d p with
    | none => rw [ed] at s1; exact s1.elim
    | some dn0 =>
      rw [ed] at s1
      dsimp only at s1
      split at s1
      · rename_i hty'
        refine ⟨?_, ?_⟩
        · obtain ⟨Fn, on, nd, un, _, _⟩ := place_mut E hr hv0 ed sm1 hw (Fx := []) fun a ha => by cases ha
          rw [hK]
          exact tyD_v hty' on un
        · have s2 : SatS G W [] D σ H f (setOw r ρ (putIn d p fun dn => g dn [])) := s1
          cases e1 : putIn d p fun dn => g dn [] with
          | none => rw [e1] at s2; exact s2.elim
          | some d' =>
            rw [e1] at s2
            obtain ⟨dn, dn', a1, a2, rfl⟩ := putIn_some e1
            obtain ⟨Fn, on, nd, un, dis, back⟩ := place_mut E hr hv0 a1 sm1 hw (Fx := []) fun a ha => by cases ha
            obtain ⟨a, u, o', Fn', rfl, hu', mu, mo, hin, st, o2, nd2, nw⟩ := hg dn dn' [] w [] Fn [] H1 a2 on nd un (ownL_nil.mpr ⟨rfl, rfl⟩) List.nodup_nil dis
            obtain ⟨f', E', l⟩ := back a u o' dn' Fn' hu' mu mo hin o2 nd2 nw
            exact st _ fun v => s2 _ _ _ E' l
      · exact s1.elim
  · exact s.elim
/-- append -/
def gAppend (d : D) : List D → Option D
  | [x] => match d with
    | .node .lst xs => if xs.length < 100000 then some (.node .lst (xs ++ [x])) else none
    | _ => none
  | _ => none
theorem mud_append : MuD G "list" rAppend gAppend := by
  intro dn dn' ds w vs Fn Fx H h o nd un ol ndx dis
  unfold gAppend at h
  split at h
  · rename_i x
    split at h
    · rename_i xs
      split at h
      · rename_i hl
        cases h
        obtain ⟨a, ws, F1, rfl, n, oxs, ef⟩ := own_lst o
        subst ef
        obtain ⟨v, Fx', rfl, ox⟩ := own1 ol
        obtain ⟨v', vr, A, B, e, ox', on, eF⟩ := ownL_cons.mp ol
        cases e
        obtain ⟨_, rfl⟩ := ownL_nil.mp on
        rw [List.append_nil] at eF
        subst eF
        have ha : a ∉ F1 := (List.nodup_cons.mp nd).1
        have hm : ∃ u, H a = some u ∧ MutO u := ⟨_, n, trivial⟩
        have hax : a ∉ Fx := fun z => dis a z (by simp)
        refine ⟨a, _, .lst (ws ++ [v]), a :: (F1 ++ Fx), rfl, n, trivial, trivial, by simp, fun Q q => ⟨a, ws, v, rfl, rfl, n, by rw [ownL_len oxs]; exact line100k hl, q _⟩, ?_, ?_, ?_⟩
        · exact own_node.mpr ⟨a, _, _, rfl, upd_same, ownL_append (ownL_upd hm ha oxs) (ownL_one (own_updv hm hax ox')), rfl⟩
        · refine List.nodup_cons.mpr ⟨fun z => (List.mem_append.mp z).elim ha hax, List.nodup_append.mpr ⟨(List.nodup_cons.mp nd).2, ndx, fun p hp q hq e => ?_⟩⟩
          subst e
          exact dis p hq (by simp [hp])
        · intro z hz
          rcases List.mem_cons.mp hz with e | hz
          · exact .inl (by simp [e])
          · exact (List.mem_append.mp hz).imp (fun q => by simp [q]) id
      · cases h
    · cases h
  · cases h
def gClear (d : D) : List D → Option D
  | [] => match d with
    | .node .lst _ => some (.node .lst [])
    | _ => none
  | _ => none
theorem mud_clear : MuD G "list" rClear gClear := by
  intro dn dn' ds w vs Fn Fx H h o nd un ol ndx dis
  unfold gClear at h
  split at h
  · split at h
    · rename_i xs
      cases h
      obtain ⟨a, ws, F1, rfl, n, oxs, ef⟩ := own_lst o
      subst ef
      obtain ⟨rfl, rfl⟩ := ownL_nil.mp ol
      exact ⟨a, _, .lst [], [a], rfl, n, trivial, trivial, by simp, fun Q q => ⟨a, ws, rfl, rfl, n, q _⟩, own_node.mpr ⟨a, [], [], rfl, upd_same, ownL_nil.mpr ⟨rfl, rfl⟩, rfl⟩, by simp, fun z hz => .inl (by
        have : z = a := by simpa using hz
        simp [this])⟩
    · cases h
  · cases h
/-! ### self.f = e -/
def putFld (i : Nat) (d x : D) : Option D := match d with
  | .node .ins xs => if i < xs.length then some (.node .ins (xs.set i x)) else if i = xs.length then some (.node .ins (xs ++ [x])) else none
  | _ => none
end
end Rs

set_option maxRecDepth 100000
/-! Rs11: comprehensions; defs that leave their arguments as they are. -/
namespace Rs
open PySem PySem.Spec PyProof.Rows L2

def lcL (i : Nat) (t : Evn → R Bool) (e : Evn → R D) : List D → Evn → R (List D)
  | [], _ => .ok []
  | x :: xs, ρ => match t (ρ.set i (.ro x)) with
    | .ok b => if b = true then (match e (ρ.set i (.ro x)) with
      | .ok d => (lcL i t e xs ρ).bind fun ds => .ok (d :: ds)
      | _ => .no) else lcL i t e xs ρ
    | _ => .no
def mYes : Evn → R Bool := fun _ => .ok true
/-- the list of a comprehension -/
def lcR (i : Nat) (t : Evn → R Bool) (e : Evn → R D) (xs : List D) (ρ : Evn) : R D := if xs.length < 100000 then (lcL i t e xs ρ).bind fun ds => .ok (.node .lst ds) else .no
theorem lcL_ok {i : Nat} {t : Evn → R Bool} {e : Evn → R D} : ∀ {xs : List D} {ρ : Evn} {c : Nat}, lcL i t e xs ρ ≠ .exc c
  | [], ρ, c => fun h => by cases h
  | x :: xs, ρ, c => fun h => by
    unfold lcL at h
    split at h
    · split at h
      · split at h
        · cases q : lcL i t e xs ρ with
          | ok ds => rw [q] at h; cases h
          | exc c' => exact lcL_ok q
          | no => rw [q] at h; cases h
        · cases h
      · exact lcL_ok h
    · cases h
section
variable {G : Gx} {X : Cx} {W : WX}
/-- the state behind k turns: the new list at L holds what was made so far -/
structure LcI (G : Gx) (i : Nat) (t : Evn → R Bool) (e : Evn → R D) (xs rs : List D) (ρ : Evn) (H : Hp) (L : Addr) (k : Nat) (H' : Hp) : Prop where
  same : Same H H'
  acc : ∃ ds vs F rest, lcL i t e (xs.drop k) ρ = .ok rest ∧ ds ++ rest = rs ∧ ds.length ≤ k ∧ H' L = some (.lst vs) ∧ OwnL G H' ds vs F ∧ F.Nodup ∧ ∀ a ∈ F, H a = none ∧ (∃ o, H' a = some o ∧ MutO o) ∧ a ≠ L
theorem EnvP.setRo {H : Hp} {σ : St} {ρ : Evn} {i : Nat} {x : D} {v : V} {F : List Addr} (E : EnvP G H σ ρ) (o : Own G H x v F) : EnvP G H ((σ.set i none).set i (some v)) (ρ.set i (.ro x)) := by
  rw [List.set_set]
  refine ⟨by simp [E.len], fun j d h => ?_⟩
  by_cases hi : i < ρ.length
  · have hσ : i < σ.length := by rw [E.len]; exact hi
    unfold rdv at h
    by_cases e : j = i
    · subst e
      rw [List.getElem?_set_self hi] at h
      cases h
      exact ⟨v, F, List.getElem?_set_self hσ, o⟩
    · rw [List.getElem?_set_ne (Ne.symm e)] at h
      obtain ⟨w, F', e1, o1⟩ := E.rd j d h
      exact ⟨w, F', by rw [List.getElem?_set_ne (Ne.symm e)]; exact e1, o1⟩
  · have hσ : ¬ i < σ.length := by rw [E.len]; exact hi
    rw [List.set_eq_of_length_le (Nat.not_lt.mp hi)] at h
    rw [List.set_eq_of_length_le (Nat.not_lt.mp hσ)]
    exact E.rd j d h
theorem lc_start {i : Nat} {t : Evn → R Bool} {e : Evn → R D} {xs rs : List D} {ρ : Evn} {H : Hp} {L : Addr} (hL : H L = none) (hr : lcL i t e xs ρ = .ok rs) : LcI G i t e xs rs ρ H L 0 (upd H L (.lst [])) :=
  ⟨upd_new hL, [], [], [], rs, by simpa using hr, rfl, Nat.le_refl _, upd_same, ownL_nil.mpr ⟨rfl, rfl⟩, List.nodup_nil, fun a ha => by cases ha⟩
theorem lc_turn {i : Nat} {tm : Evn → R Bool} {em : Evn → R D} {xs rs : List D} {ρ : Evn} {H : Hp} {L : Addr} {k : Nat} {H' : Hp} {x : D} {v : V} {F : List Addr} {σ : St} (hlen : xs.length < 100000) (hL : H L = none) (E : EnvP G H σ ρ) (I : LcI G i tm em xs rs ρ H L k H') (hx : xs[k]? = some x) (o : Own G H' x v F) :
    wipe ((wipe σ [i]).set i (some v)) [i] = wipe σ [i] ∧ tT G W0 tm ((wipe σ [i]).set i (some v)) H' fun b H3 =>
      if b = true then tF G W0 em ((wipe σ [i]).set i (some v)) H3 fun y H4 => ∃ acc, H4 L = some (.lst acc) ∧ acc.length < sizeLine ∧ LcI G i tm em xs rs ρ H L (k + 1) (upd H4 L (.lst (acc ++ [y]))) else LcI G i tm em xs rs ρ H L (k + 1) H3 := by
  have ew : wipe σ [i] = σ.set i none := rfl
  refine ⟨by rw [ew]; show (((σ.set i none).set i (some v)).set i none) = σ.set i none; rw [List.set_set, List.set_set], ?_⟩
  rw [ew]
  have E2 := (E.same I.same).setRo (i := i) o
  obtain ⟨sm, ds, vs, FF, rest, e1, e2, hk, e3, ol, nd, fr⟩ := I
  have hlt := (List.getElem?_eq_some_iff.mp hx).1
  have hd : xs.drop k = x :: xs.drop (k + 1) := by
    rw [List.drop_eq_getElem_cons hlt]
    rw [List.getElem?_eq_getElem hlt] at hx
    rw [Option.some.inj hx]
  rw [hd] at e1
  unfold lcL at e1
  refine ⟨ρ.set i (.ro x), E2, ?_⟩
  cases ht : tm (ρ.set i (.ro x)) with
  | exc c => rw [ht] at e1; cases e1
  | no => rw [ht] at e1; cases e1
  | ok b =>
    rw [ht] at e1
    dsimp only at e1
    intro H3 s3
    cases b with
    | false =>
      rw [if_neg Bool.false_ne_true] at e1 ⊢
      exact ⟨sm.trans s3, ds, vs, FF, rest, e1, e2, Nat.le_succ_of_le hk, s3 _ _ e3, ownL_same s3 ol, nd, fun a ha => ⟨(fr a ha).1, let ⟨o, e, m⟩ := (fr a ha).2.1; ⟨o, s3 _ _ e, m⟩, (fr a ha).2.2⟩⟩
    | true =>
      rw [if_pos rfl] at e1 ⊢
      refine ⟨ρ.set i (.ro x), E2.same s3, ?_⟩
      cases he : em (ρ.set i (.ro x)) with
      | exc c => rw [he] at e1; cases e1
      | no => rw [he] at e1; cases e1
      | ok d =>
        rw [he] at e1
        dsimp only at e1
        cases hq : lcL i tm em (xs.drop (k + 1)) ρ with
        | exc c => rw [hq] at e1; cases e1
        | no => rw [hq] at e1; cases e1
        | ok rest' =>
          rw [hq] at e1
          cases e1
          intro y H4 Fy s4 oy ndy fry
          have eL := s4 _ _ (s3 _ _ e3)
          have hm : ∃ u, H4 L = some u ∧ MutO u := ⟨_, eL, trivial⟩
          have ol4 := ownL_same s4 (ownL_same s3 ol)
          have nL : L ∉ FF := fun z => (fr L z).2.2 rfl
          have nLy : L ∉ Fy := fun z => by
            have := (fry L z).1
            rw [s3 _ _ e3] at this; cases this
          refine ⟨vs, eL, ?_, fun b u eb => ?_, ds ++ [d], vs ++ [y], FF ++ Fy, rest', hq, by rw [← e2]; simp, by simp; omega, upd_same, ownL_append (ownL_upd hm nL ol4) (ownL_one (own_updv hm nLy oy)), ?_, fun a ha => ?_⟩
          · rw [ownL_len ol]; exact line100k (by omega)
          · have hb : b ≠ L := fun z => by rw [z, hL] at eb; cases eb
            rw [upd_ne hb]; exact s4 _ _ (s3 _ _ (sm _ _ eb))
          · refine List.nodup_append.mpr ⟨nd, ndy, fun p hp q hq e => ?_⟩
            subst e
            obtain ⟨o', e', _⟩ := (fr p hp).2.1
            have := (fry p hq).1
            rw [s3 _ _ e'] at this; cases this
          · rcases List.mem_append.mp ha with h | h
            · obtain ⟨n1, ⟨o', e', m⟩, n3⟩ := fr a h
              exact ⟨n1, ⟨o', by rw [upd_ne n3]; exact s4 _ _ (s3 _ _ e'), m⟩, n3⟩
            · have hne : a ≠ L := fun z => nLy (by rw [← z]; exact h)
              obtain ⟨n1, o', e', m⟩ := fry a h
              exact ⟨sm.free (s3.free n1), ⟨o', by rw [upd_ne hne]; exact e', m⟩, hne⟩
theorem lc_end {i : Nat} {t : Evn → R Bool} {e : Evn → R D} {xs rs : List D} {ρ : Evn} {H : Hp} {L : Addr} {k : Nat} {H' : Hp} {Q : VK} (hL : H L = none) (hk : xs.length ≤ k) (I : LcI G i t e xs rs ρ H L k H')
    (q : ∀ v H' F, Same H H' → Own G H' (.node .lst rs) v F → F.Nodup → (∀ a ∈ F, H a = none ∧ ∃ o, H' a = some o ∧ MutO o) → Q v H') : Q (.ref L) H' := by
  obtain ⟨sm, ds, vs, FF, rest, e1, e2, _, e3, ol, nd, fr⟩ := I
  rw [List.drop_eq_nil_of_le hk] at e1
  cases e1
  rw [List.append_nil] at e2
  subst e2
  refine q (.ref L) H' (L :: FF) sm (own_node.mpr ⟨L, vs, FF, rfl, e3, ol, rfl⟩) (List.nodup_cons.mpr ⟨fun z => (fr L z).2.2 rfl, nd⟩) fun a ha => ?_
  rcases List.mem_cons.mp ha with z | z
  · subst z; exact ⟨hL, _, e3, trivial⟩
  · exact ⟨(fr a z).1, (fr a z).2.1⟩
theorem lcR_ok {i : Nat} {t : Evn → R Bool} {e : Evn → R D} {xs : List D} {ρ : Evn} {σ : St} {H : Hp} {Q : VK} (s : SatF G W (lcR i t e xs ρ) σ H Q) : xs.length < 100000 ∧ ∃ rs, lcL i t e xs ρ = .ok rs ∧ SatF G W (.ok (.node .lst rs)) σ H Q := by
  unfold lcR at s
  split at s
  · rename_i h
    refine ⟨h, ?_⟩
    cases hr : lcL i t e xs ρ with
    | exc c => exact absurd hr lcL_ok
    | no => rw [hr] at s; exact s.elim
    | ok rs => rw [hr] at s; exact ⟨rs, rfl, s⟩
  · exact s.elim
def mLc (i : Nat) (it : Evn → R D) (t : Evn → R Bool) (e : Evn → R D) : Evn → R D := fun ρ => (it ρ).bind fun d => match d.seq with
  | some xs => lcR i t e xs ρ
  | none => .no
/-- the reading of a comprehension over a list or a tuple -/
theorem lc_seq {i : Nat} {it : Evn → R D} {t : Evn → R Bool} {e : Evn → R D} {σ : St} {H : Hp} {Q : VK} (hK : X.K = G.K) (q : tF G W (mLc i it t e) σ H Q) :
    tLc (iList X.K (tE G W it)) (gName i) (tT G W0 t) (tF G W0 e) [i] σ H Q ∨ tLc (iTup X.K (tE G W it)) (gName i) (tT G W0 t) (tF G W0 e) [i] σ H Q := by
  obtain ⟨ρ, E, s⟩ := q
  have s0 := SatG.bind s
  cases e1 : it ρ with
  | exc c => exact .inl ⟨ρ, E, by rw [e1]; rw [e1] at s0; exact s0⟩
  | no => rw [e1] at s0; exact s0.elim
  | ok d =>
    rw [e1] at s0
    have s1 := s0.2
    cases hx : d.seq with
    | none => rw [hx] at s1; exact s1.elim
    | some xs =>
      rw [hx] at s1
      obtain ⟨hlen, rs, hr, q⟩ := lcR_ok s1
      have gen : ∀ {H1 : Hp} {a : Addr} {vs : List V} {F1 : List Addr} {L : Addr}, Same H H1 → OwnL G H1 xs vs F1 → H1 L = none →
          LcI G i t e xs rs ρ H1 L 0 (upd H1 L (.lst [])) ∧ (∀ k y H', vs[k]? = some y → LcI G i t e xs rs ρ H1 L k H' → gName i y (wipe σ [i]) H' fun σ2 H2 => wipe σ2 [i] = wipe σ [i] ∧ tT G W0 t σ2 H2 fun b H3 =>
            if b = true then tF G W0 e σ2 H3 fun y H4 => ∃ acc, H4 L = some (.lst acc) ∧ acc.length < sizeLine ∧ LcI G i t e xs rs ρ H1 L (k + 1) (upd H4 L (.lst (acc ++ [y]))) else LcI G i t e xs rs ρ H1 L (k + 1) H3) ∧ ∀ H', LcI G i t e xs rs ρ H1 L vs.length H' → Q (.ref L) H' := by
        intro H1 a vs F1 L sm ol hL
        refine ⟨lc_start hL hr, fun k y H' hy I => ?_, fun H' I => ?_⟩
        · have hk : k < xs.length := by
            have := (List.getElem?_eq_some_iff.mp hy).1
            rw [ownL_len ol] at this; exact this
          obtain ⟨v, Fi, e3, o3, _⟩ := ownL_get ol (List.getElem?_eq_getElem hk)
          rw [hy] at e3; cases e3
          exact lc_turn hlen hL (E.same sm) I (List.getElem?_eq_getElem hk) (own_same I.same o3)
        · exact lc_end hL (by rw [ownL_len ol]; exact Nat.le_refl _) I fun v H' F sm' o nd fr => q v H' F (sm.trans sm') o nd fun a ha => ⟨sm.free (fr a ha).1, (fr a ha).2⟩
      obtain ⟨hd, rfl⟩ : ∃ hd, d = .node hd xs := by
        unfold D.seq at hx
        split at hx <;> first | (cases hx; exact ⟨_, rfl⟩) | cases hx
      have st : ∀ (R : V → Hp → Prop), (∀ a vs F1 H1, Same H H1 → NodeAt G H1 hd a vs → OwnL G H1 xs vs F1 → R (.ref a) H1) → tE G W it σ H R := fun R r => ⟨ρ, E, by
        rw [e1]
        intro v H1 F sm o
        obtain ⟨a, vs, F1, rfl, n, ol, _⟩ := own_node.mp o
        exact r a vs F1 H1 sm n ol⟩
      cases hd with
      | lst =>
        refine .inl (st _ fun a vs F1 H1 sm n ol => ⟨a, rfl, ⟨vs, .inl (.inl n)⟩, fun L hL => ?_⟩)
        obtain ⟨p0, pt, pe⟩ := gen (a := a) sm ol hL
        exact lc_list (LcI G i t e xs rs ρ H1 L) p0 (fun k H' _ I => .inl (.inl (nodeAt_same (h := .lst) I.same n))) pt pe
      | fls =>
        refine .inl (st _ fun a vs F1 H1 sm n ol => ?_)
        have sq : ∀ {H' : Hp}, NodeAt G H' .fls a vs → SqL X.K H' a vs := fun {H'} n => by
          rw [hK]
          rcases n with ⟨q, n⟩ | n
          · exact .inl (.inr ⟨q, n⟩)
          · exact n H'
        refine ⟨a, rfl, ⟨vs, sq n⟩, fun L hL => ?_⟩
        obtain ⟨p0, pt, pe⟩ := gen (a := a) sm ol hL
        exact lc_list (LcI G i t e xs rs ρ H1 L) p0 (fun k H' _ I => sq (nodeAt_same (h := .fls) I.same n)) pt pe
      | tup =>
        refine .inr (st _ fun a vs F1 H1 sm n ol => ⟨a, rfl, ⟨vs, .inl (.inl n)⟩, fun L hL => ?_⟩)
        obtain ⟨p0, pt, pe⟩ := gen (a := a) sm ol hL
        exact lc_tup (LcI G i t e xs rs ρ H1 L) p0 (fun k H' _ I => .inl (.inl (nodeAt_same (h := .tup) I.same n))) pt pe
      | dK _ => cases hx
      | dT _ => cases hx
      | ins => cases hx
def mLcR (i : Nat) (it : Evn → R (List D)) (t : Evn → R Bool) (e : Evn → R D) : Evn → R D := fun ρ => (it ρ).bind fun ds => match rngOf ds with
  | some (lo, n) => lcR i t e (rangeD lo n) ρ
  | none => .no
theorem lc_rng {i : Nat} {it : Evn → R (List D)} {t : Evn → R Bool} {e : Evn → R D} {σ : St} {H : Hp} {Q : VK} (q : tF G W (mLcR i it t e) σ H Q) :
    tLc (iRgA G W it) (gName i) (tT G W0 t) (tF G W0 e) [i] σ H Q := by
  obtain ⟨ρ, E, s⟩ := q
  refine ⟨ρ, E, (SatG.bind s).imp fun ds _ ⟨_, s1⟩ => ?_⟩
  cases hr : rngOf ds with
  | none => rw [hr] at s1; exact s1.elim
  | some p =>
    obtain ⟨lo, n⟩ := p
    rw [hr] at s1
    obtain ⟨hlen, rs, hr, q⟩ := lcR_ok s1
    refine ⟨lo, n, rfl, fun H1 sm L hL => ?_⟩
    refine lc_range (lo := lo) (n := n) (LcI G i t e (rangeD lo n) rs ρ H1 L) (lc_start hL hr) (fun k H' hk I => ?_) fun H' I => ?_
    · exact lc_turn hlen hL (E.same sm) I (by simp [rangeD, hk]) (own_int.mpr ⟨rfl, rfl⟩)
    · exact lc_end hL (by simp [rangeD]) I fun v H' F sm' o nd fr => q v H' F (sm.trans sm') o nd fun a ha => ⟨sm.free (fr a ha).1, (fr a ha).2⟩
/-! ### the rules -/
variable {elt iter : Expr} {ifs : List Expr} {scope : Scope} {x : Str} {p pos : Pos} {it : Evn → R D} {itR : Evn → R (List D)} {tm : Evn → R Bool} {em : Evn → R D}
/-- the tests of a clause -/
abbrev STs (G : Gx) (X : Cx) (W : WX) (m : Evn → R Bool) (es : List Expr) : Prop := PTs X es (tT G W m)
theorem sts_nil : STs G X W mYes [] := by
  have h := pts_nil (X := X)
  exact ⟨fun pins s σ H Q I ⟨ρ, E, q⟩ => h.run pins s σ H Q I (q H (Same.refl H))⟩
theorem sts_one {c : Expr} (h : ST G X W tm c) : STs G X W tm [c] := pts_one h
theorem sf_lc (i : Nat) (hK : X.K = G.K) (hc : X.calm = true) (hN : X.N.Nodup) (hi : SE G X W it iter) (ok : BlkOk X.N X.env.scope scope [(x, i)])
    (hg : ∀ (s : Shared) (H : Hp) (C : Addr) (cl : List (Str × Addr)) (fp : List Addr), PG (X.blk s H scope (compEnvC scope cl C X.env) fp) (.Name x p) (gName i))
    (ht : ∀ (s : Shared) (H : Hp) (C : Addr) (cl : List (Str × Addr)) (fp : List Addr), STs G (X.blk s H scope (compEnvC scope cl C X.env) fp) W0 tm ifs)
    (he : ∀ (s : Shared) (H : Hp) (C : Addr) (cl : List (Str × Addr)) (fp : List Addr), SF G (X.blk s H scope (compEnvC scope cl C X.env) fp) W0 em elt) (hs : ∀ y, foldedSetIterable iter X.env y = pure y := by intro _; rfl) :
    SF G X W (mLc i it tm em) (.ListComp elt [⟨.Name x p, iter, ifs, 0⟩] scope pos) :=
  PE.imp (PE.or (pe_lc (own := [(x, i)]) hc hN (pi_list hi) ok hg ht he hs) (pe_lc (own := [(x, i)]) hc hN (pi_tup hi) ok hg ht he hs)) fun σ H Q q => lc_seq hK q
theorem sf_lcR (i : Nat) (hc : X.calm = true) (hN : X.N.Nodup) (hi : PI X (.Name x p) iter (iRgA G W itR)) (ok : BlkOk X.N X.env.scope scope [(x, i)])
    (hg : ∀ (s : Shared) (H : Hp) (C : Addr) (cl : List (Str × Addr)) (fp : List Addr), PG (X.blk s H scope (compEnvC scope cl C X.env) fp) (.Name x p) (gName i))
    (ht : ∀ (s : Shared) (H : Hp) (C : Addr) (cl : List (Str × Addr)) (fp : List Addr), STs G (X.blk s H scope (compEnvC scope cl C X.env) fp) W0 tm ifs)
    (he : ∀ (s : Shared) (H : Hp) (C : Addr) (cl : List (Str × Addr)) (fp : List Addr), SF G (X.blk s H scope (compEnvC scope cl C X.env) fp) W0 em elt) (hs : ∀ y, foldedSetIterable iter X.env y = pure y := by intro _; rfl) :
    SF G X W (mLcR i itR tm em) (.ListComp elt [⟨.Name x p, iter, ifs, 0⟩] scope pos) :=
  PE.imp (pe_lc (own := [(x, i)]) hc hN hi ok hg ht he hs) fun σ H Q q => lc_rng q
theorem PE.asg {X : Cx} {T T' : TE} {g : TG} {s : Stmt} (h : PS X s (tAsg T g)) (i : ∀ σ H Q, T' σ H Q → T σ H Q) : PS X s (tAsg T' g) := PS.imp h fun D σ H q => i _ _ _ q
/-- y = [..] -/
theorem ss_setLc (j i : Nat) {y : Str} {py spos : Pos} (hK : X.K = G.K) (hc : X.calm = true) (hN : X.N.Nodup) (hy : X.N[j]? = some y) (hyl : X.env.scope.names.lookup y = some .local)
    (hsw : swapsWith (.ListComp elt [⟨.Name x p, iter, ifs, 0⟩] scope pos) (some (.Name y py)) spos.line X.env = pure true) (hi : SE G X W it iter) (ok : BlkOk X.N X.env.scope scope [(x, i)])
    (hg : ∀ (s : Shared) (H : Hp) (C : Addr) (cl : List (Str × Addr)) (fp : List Addr), PG (X.blk s H scope (compEnvC scope cl C X.env) fp) (.Name x p) (gName i))
    (ht : ∀ (s : Shared) (H : Hp) (C : Addr) (cl : List (Str × Addr)) (fp : List Addr), STs G (X.blk s H scope (compEnvC scope cl C X.env) fp) W0 tm ifs)
    (he : ∀ (s : Shared) (H : Hp) (C : Addr) (cl : List (Str × Addr)) (fp : List Addr), SF G (X.blk s H scope (compEnvC scope cl C X.env) fp) W0 em elt) (hs : ∀ y, foldedSetIterable iter X.env y = pure y := by intro _; rfl) :
    SS G X W [j] (mSet j (mLc i it tm em)) (.Assign [.Name y py] (.ListComp elt [⟨.Name x p, iter, ifs, 0⟩] scope pos) spos) := by
  have a := ps_setLc (i := j) (own := [(x, i)]) hc hN hy hyl hsw (pi_list hi) ok hg ht he hs
  have b := ps_setLc (i := j) (own := [(x, i)]) hc hN hy hyl hsw (pi_tup hi) ok hg ht he hs
  refine PS.imp (PS.or a b) fun D σ H ⟨ρ, f, E, s⟩ => ?_
  refine lc_seq (Q := fun v H1 => gName j v σ H1 D.nx) hK ⟨ρ, E.p, ?_⟩
  unfold mSet at s
  cases e1 : mLc i it tm em ρ with
  | ok d =>
    rw [e1] at s
    intro v H' F sm o nd fr
    obtain ⟨f', E', l⟩ := E.setOw sm (i := j) o nd fr
    exact s _ _ _ E' l
  | exc c => rw [e1] at s; exact s.exc0 E
  | no => rw [e1] at s; exact s
theorem ss_setLcR (j i : Nat) {y : Str} {py spos : Pos} (hc : X.calm = true) (hN : X.N.Nodup) (hy : X.N[j]? = some y) (hyl : X.env.scope.names.lookup y = some .local)
    (hsw : swapsWith (.ListComp elt [⟨.Name x p, iter, ifs, 0⟩] scope pos) (some (.Name y py)) spos.line X.env = pure true) (hi : PI X (.Name x p) iter (iRgA G W itR)) (ok : BlkOk X.N X.env.scope scope [(x, i)])
    (hg : ∀ (s : Shared) (H : Hp) (C : Addr) (cl : List (Str × Addr)) (fp : List Addr), PG (X.blk s H scope (compEnvC scope cl C X.env) fp) (.Name x p) (gName i))
    (ht : ∀ (s : Shared) (H : Hp) (C : Addr) (cl : List (Str × Addr)) (fp : List Addr), STs G (X.blk s H scope (compEnvC scope cl C X.env) fp) W0 tm ifs)
    (he : ∀ (s : Shared) (H : Hp) (C : Addr) (cl : List (Str × Addr)) (fp : List Addr), SF G (X.blk s H scope (compEnvC scope cl C X.env) fp) W0 em elt) (hs : ∀ y, foldedSetIterable iter X.env y = pure y := by intro _; rfl) :
    SS G X W [j] (mSet j (mLcR i itR tm em)) (.Assign [.Name y py] (.ListComp elt [⟨.Name x p, iter, ifs, 0⟩] scope pos) spos) := by
  refine PS.imp (ps_setLc (i := j) (own := [(x, i)]) hc hN hy hyl hsw hi ok hg ht he hs) fun D σ H ⟨ρ, f, E, s⟩ => ?_
  refine lc_rng (Q := fun v H1 => gName j v σ H1 D.nx) ⟨ρ, E.p, ?_⟩
  unfold mSet at s
  cases e1 : mLcR i itR tm em ρ with
  | ok d =>
    rw [e1] at s
    intro v H' F sm o nd fr
    obtain ⟨f', E', l⟩ := E.setOw sm (i := j) o nd fr
    exact s _ _ _ E' l
  | exc c => rw [e1] at s; exact s.exc0 E
  | no => rw [e1] at s; exact s
end
end Rs

set_option maxRecDepth 100000
/-! Rs12: defs and methods that leave their arguments as they are. -/
namespace Rs
open PySem PySem.Spec PyProof.Rows L2

def WE0 (E : XK) : WX := fun cls d _ H => E cls d H
def spP (G : Gx) (n : Nat) (fm : List D → R D) : Sp := fun vs H Q E => ∃ ds F, OwnL G H ds vs F ∧ ds.length = n ∧ SatF G (WE0 E) (fm ds) [] H Q
/-- a def by its body: n parameters of N names -/
def runP (n N : Nat) (m : Evn → RS) : List D → R D := fun ds => match m (ds.map Slot.ro ++ List.replicate (N - n) Slot.un) with
  | .rt d _ => .ok d
  | .nx _ => .ok .non
  | .exc c _ => .exc c
  | _ => .no
section
variable {G : Gx} {H : Hp}
theorem start_env {N : List Str} {ds : List D} {vs : List V} {F : List Addr} (o : OwnL G H ds vs F) (hn : ds.length ≤ N.length) : EnvR G H (L2.start N vs) (ds.map Slot.ro ++ List.replicate (N.length - ds.length) Slot.un) (fun _ => []) := by
  have hl := ownL_len o
  refine ⟨by simp [L2.start, hl], fun i d h => ?_, fun i d h => ?_, fun _ _ => rfl, fun _ => List.nodup_nil, fun _ _ _ h => (by cases h), fun _ _ h => (by cases h)⟩
  · by_cases hi : i < ds.length
    · rw [List.getElem?_append_left (by simpa using hi), List.getElem?_map, List.getElem?_eq_getElem hi] at h
      cases h
    · rw [List.getElem?_append_right (by simpa using Nat.not_lt.mp hi)] at h
      have := List.getElem?_replicate (n := N.length - ds.length) (a := Slot.un) (i := i - (ds.map Slot.ro).length)
      rw [this] at h
      split at h <;> cases h
  · by_cases hi : i < ds.length
    · rw [List.getElem?_append_left (by simpa using hi), List.getElem?_map, List.getElem?_eq_getElem hi] at h
      cases h
      obtain ⟨v, F1, e, o1, _⟩ := ownL_get o (List.getElem?_eq_getElem hi)
      refine ⟨v, F1, ?_, o1, fun _ _ _ z => by cases z⟩
      unfold L2.start
      rw [List.getElem?_append_left (by simp [hl, hi]), List.getElem?_map, e]
      rfl
    · rw [List.getElem?_append_right (by simpa using Nat.not_lt.mp hi)] at h
      have := List.getElem?_replicate (n := N.length - ds.length) (a := Slot.un) (i := i - (ds.map Slot.ro).length)
      rw [this] at h
      split at h <;> cases h
end
theorem fm_nil {a : Addr} : ¬ Fm (fun _ => []) a := fun ⟨_, h⟩ => by cases h
section
variable {P : Program} {w : World} {K : PySem.W.Frag} {mg : Str → Option Value} {base : Heap} {G : Gx}
/-- the rule for such a def -/
theorem fnP {x qual : Str} {st : Stmt} {f : Addr} {fd : FuncData} {N ps : List Str} {k n : Nat} {T : List Nat} {m : Evn → RS} {fm : List D → R D} (F : Fun K x qual st f fd) (S : FnScope N ps (defScope st)) (hn : ps.length = n) (hN : n ≤ N.length) (hf : fm = runP n N.length m)
    (body : ∀ (cdv : Value) (A : Around) (outer : List PySem.Env) (s : Shared) (H : Hp) (E : XK), Room k (A.deeper (envOfC qual (defScope st) s.heap.objs.size f cdv)) →
      SSs G (cxOf (L2.CX P w) P w K mg base N qual (defScope st) f cdv A outer s H E) (WE0 E) T m (defBody st)) : FnOk P w K mg base (L2.CX P w) (k + 1) f fd ps (spP G n fm) := by
  subst hf
  refine F.okX S (fun vs H Q E ⟨ds, F', o, hl, _⟩ => by rw [ownL_len o, hl, hn]) fun cdv A outer s H vs Q E hr ⟨ds, F', o, hl, q⟩ => ⟨_, body cdv A outer s H E hr, _, _, start_env (N := N) o (by omega), ?_⟩
  rw [hl]
  have nx : ∀ {σ σ' : St} {H' : Hp} {f' : Nat → List Addr}, Lk T (fun _ => []) σ H f' σ' H' → Same H H' := fun l a o e => l.step a o e fun m => absurd m fm_nil
  unfold runP at q
  cases e : m (ds.map Slot.ro ++ List.replicate (N.length - n) Slot.un) with
  | nx ρ' => rw [e] at q; exact fun σ' H' f' E' l => q .non H' [] (nx l) (own_non.mpr ⟨rfl, rfl⟩) List.nodup_nil fun a ha => by cases ha
  | rt d ρ' => rw [e] at q; exact fun v σ' H' f' F2 E' l o2 nd q2 => q v H' F2 (nx l) o2 nd fun a ha => ⟨(q2 a ha).1.resolve_left fm_nil, (q2 a ha).2.2⟩
  | bk ρ' => rw [e] at q; exact q.elim
  | ct ρ' => rw [e] at q; exact q.elim
  | exc c ρ' => rw [e] at q; exact fun σ' H' f' E' l => q H' (nx l)
  | no => rw [e] at q; exact q.elim
/-- a def that is there to be called -/
def CalP (P : Program) (w : World) (K : PySem.W.Frag) (mg : Str → Option Value) (base : Heap) (G : Gx) (x : Str) (k n : Nat) (fm : List D → R D) : Prop :=
  ∃ (f : Addr) (fd : FuncData) (ps : List Str), mg x = some (.ref f) ∧ PySem.W.keepIn K (.ref f) = true ∧ Binds K fd ps [] ∧ FnOk P w K mg base (L2.CX P w) k f fd ps (spP G n fm)
def MetP (P : Program) (w : World) (K : PySem.W.Frag) (mg : Str → Option Value) (base : Heap) (G : Gx) (x : Str) (k n : Nat) (fm : List D → R D) : Prop :=
  ∃ (f : Addr) (fd : FuncData) (ps : List Str), Meth K G.C x f ∧ Binds K fd ps [] ∧ FnOk P w K mg base (L2.CX P w) k f fd ps (spP G n fm)
theorem CalP.mono {x : Str} {j k n : Nat} {fm : List D → R D} (c : CalP P w K mg base G x j n fm) (h : j ≤ k) : CalP P w K mg base G x k n fm :=
  let ⟨f, fd, ps, a, b, d, e⟩ := c; ⟨f, fd, ps, a, b, d, e.mono h⟩
theorem MetP.mono {x : Str} {j k n : Nat} {fm : List D → R D} (c : MetP P w K mg base G x j n fm) (h : j ≤ k) : MetP P w K mg base G x k n fm :=
  let ⟨f, fd, ps, b, d, e⟩ := c; ⟨f, fd, ps, b, d, e.mono h⟩
/-- a promise of nothing -/
theorem fn_no {f : Addr} {fd : FuncData} {ps : List Str} {k n : Nat} (hn : ps.length = n) : FnOk P w K mg base (L2.CX P w) k f fd ps (spP G n fun _ => .no) :=
  ⟨fun vs H Q E ⟨ds, F, o, hl, _⟩ => by rw [ownL_len o, hl, hn], fun A outer s H args us vs Q E hr he hb hv ⟨ds, F, o, hl, q⟩ => q.elim⟩
end
section
variable {G : Gx} {X : Cx} {W : WX} {e o : Expr} {es : List Expr} {p pos apos : Pos} {x m : Str} {ms : Evn → R (List D)} {mo : Evn → R D} {k n : Nat} {fm : List D → R D} {ta : TE} {t : TA} {f : Addr} {fd : FuncData} {ps : List Str} {sp : Sp}
def mApp (n : Nat) (fm : List D → R D) (ms : Evn → R (List D)) : Evn → R D := fun ρ => (ms ρ).bind fun ds => if ds.length = n then fm ds else .no
theorem app_of {σ : St} {H H1 : Hp} {Q : VK} {r : R D} (s : SatF G W r σ H Q) (sm : Same H H1) : SatF G (WE0 (WE W σ)) r [] H1 Q := by
  cases r with
  | ok d => exact fun v H' F s' o nd fr => s v H' F (sm.trans s') o nd fun a ha => ⟨sm.free (fr a ha).1, (fr a ha).2⟩
  | exc c => exact fun H' s' => s H' (sm.trans s')
  | no => exact s
theorem sf_call (c : CalP X.prog X.w X.K X.mg X.base G x k n fm) (tk : Takes X W) (hr : Room k X.A) (hg : Gl X x) (ha : SA G X W ms (e :: es)) (hdb : (x == ("__debug__" : Str)) = false := by decide)
    (he : starEach (e :: es) X.env = (false, eval e X.env) :: starEach es X.env := by rfl) (hpl : (backTo pos (starEach es X.env)).any (·.1) = false := by rfl) : SF G X W (mApp n fm ms) (.Call (.Name x p) (e :: es) [] pos) := by
  obtain ⟨f, fd, ps, hm, hk, hb, F⟩ := c
  refine PE.imp (pe_callS F hr hg hm hk hb (fun σ => passAt tk σ) ha hdb he hpl) fun σ H Q ⟨ρ, E, s⟩ => ⟨ρ, E, ?_⟩
  refine (SatG.bind s).imp fun ds _ ⟨_, q⟩ vs H1 F1 sm o => ?_
  by_cases hn : ds.length = n
  · rw [if_pos hn] at q
    exact ⟨ds, F1, o, hn, app_of q sm⟩
  · rw [if_neg hn] at q
    exact q.elim
/-! ### methods -/
def tMethS (C : Addr) (m : Str) (sp : Sp) (E : St → XK) (ta : TE) (t : TA) : TE := fun σ H Q => ta σ H fun x H1 => ∃ a dx fs, x = .ref a ∧ H1 a = some (.ins C dx fs) ∧ fs.lookup m = none ∧ t σ H1 fun vs H2 => sp (x :: vs) H2 Q (E σ)
theorem pe_methS {CX : CXT} {C : Addr} {E : St → XK} {pl : Sem Bool} (he : PE X o ta) (c : Cls X.K C) (hm : Meth X.K C m f) (F : FnOk X.prog X.w X.K X.mg X.base CX k f fd ps sp) (hr : Room k X.A) (hb : Binds X.K fd ps []) (hx : ∀ σ, PassesAt CX X σ (E σ)) (ha : PA X (e :: es) t)
    (hst : starEach (e :: es) X.env = (false, eval e X.env) :: starEach es X.env := by rfl) (hpl : (backTo pos (starEach es X.env)).any (·.1) = false := by rfl)
    (ht : eval (.Call (.Attribute o m apos) (e :: es) [] pos) X.env = (do
      let ov ← eval o X.env
      standAt apos.atName
      let (f, first) ← holding [ov] (getMethod ov m pl)
      callWith pos f first (backTo pos (starEach (e :: es) X.env)) (backToKw pos (keywordEach [] X.env))) := by rfl) :
    PE X (.Call (.Attribute o m apos) (e :: es) [] pos) (tMethS C m sp E ta t) := by
  refine ⟨fun pins s σ H Q I h => ?_⟩
  refine PySem.W.methodCall_KW (pl := pl) (thn (he.run pins s σ H _ I h) fun u s1 ⟨x, H1, I1, rx, a, dx, fs, ex, ea, l, q⟩ => ?_) ht
  subst ex
  obtain rfl : u = Value.ref a := rx
  refine getmeth_ok I1 ea c hm l ?_
  refine PySem.W.callWith_K (first := [.ref a]) (h₀ := X.base) I.ok.mod.kin hm.kp (thn (ha.run pos pins s1 σ H1 _ I1 q) fun us s2 ⟨vs, H2, I2, r, q2⟩ => ⟨I2.kIn, ?_⟩) hst hpl
  exact run_fnS (us := .ref a :: us) (vs := .ref a :: vs) F hr hb (hx σ) I2 (.cons rfl r) q2
theorem pe_methS0 {CX : CXT} {C : Addr} {E : St → XK} {pl : Sem Bool} (he : PE X o ta) (c : Cls X.K C) (hm : Meth X.K C m f) (F : FnOk X.prog X.w X.K X.mg X.base CX k f fd ps sp) (hr : Room k X.A) (hb : Binds X.K fd ps []) (hx : ∀ σ, PassesAt CX X σ (E σ))
    (ht : eval (.Call (.Attribute o m apos) [] [] pos) X.env = (do
      let ov ← eval o X.env
      standAt apos.atName
      let (f, first) ← holding [ov] (getMethod ov m pl)
      callWith pos f first (backTo pos (starEach [] X.env)) (backToKw pos (keywordEach [] X.env))) := by rfl) :
    PE X (.Call (.Attribute o m apos) [] [] pos) (tMethS C m sp E ta tNil) := by
  refine ⟨fun pins s σ H Q I h => ?_⟩
  refine PySem.W.methodCall_KW (pl := pl) (thn (he.run pins s σ H _ I h) fun u s1 ⟨x, H1, I1, rx, a, dx, fs, ex, ea, l, q⟩ => ?_) ht
  subst ex
  obtain rfl : u = Value.ref a := rx
  refine getmeth_ok I1 ea c hm l ?_
  exact PySem.W.callWith_K0 (first := [.ref a]) I1.kIn hm.kp (run_fnS (us := [.ref a]) (vs := [.ref a]) F hr hb (hx σ) I1 (.cons rfl .nil) q)
def isIns : D → Bool
  | .node .ins _ => true
  | _ => false
def mMeth (n : Nat) (fm : List D → R D) (mo : Evn → R D) (ms : Evn → R (List D)) : Evn → R D := fun ρ => (mo ρ).bind fun d => if isIns d = true then (ms ρ).bind fun ds => if ds.length + 1 = n then fm (d :: ds) else .no else .no
theorem ins_at {H : Hp} {d : D} {v : V} {F : List Addr} (h : isIns d = true) (o : Own G H d v F) (hC : ClsG G) {m : Str} (hm : m ∉ G.names) : ∃ a dx fs, v = .ref a ∧ H a = some (.ins G.C dx fs) ∧ fs.lookup m = none := by
  unfold isIns at h
  split at h
  · obtain ⟨a, vs, F1, rfl, ⟨dx, fs, ha, hf, hv⟩, _⟩ := own_node.mp o
    refine ⟨a, dx, fs, rfl, ha, ?_⟩
    cases e : fs.lookup m with
    | none => rfl
    | some u =>
      exfalso
      have : m ∈ fs.map (·.1) := by
        have := List.lookup_eq_some_iff.mp e
        obtain ⟨l1, l2, e1, _⟩ := this
        rw [e1]; simp
      rw [hf] at this
      exact hm (List.mem_of_mem_take this)
  · cases h
theorem sf_meth {pl : Sem Bool} (c : MetP X.prog X.w X.K X.mg X.base G m k n fm) (hK : X.K = G.K) (hC : ClsG G) (hm : m ∉ G.names) (tk : Takes X W) (hr : Room k X.A) (ho : SE G X W mo o) (ha : SA G X W ms (e :: es))
    (hst : starEach (e :: es) X.env = (false, eval e X.env) :: starEach es X.env := by rfl) (hpl : (backTo pos (starEach es X.env)).any (·.1) = false := by rfl)
    (ht : eval (.Call (.Attribute o m apos) (e :: es) [] pos) X.env = (do
      let ov ← eval o X.env
      standAt apos.atName
      let (f, first) ← holding [ov] (getMethod ov m pl)
      callWith pos f first (backTo pos (starEach (e :: es) X.env)) (backToKw pos (keywordEach [] X.env))) := by rfl) :
    SF G X W (mMeth n fm mo ms) (.Call (.Attribute o m apos) (e :: es) [] pos) := by
  obtain ⟨f, fd, ps, hM, hb, F⟩ := c
  refine PE.imp (pe_methS (pl := pl) ho (by rw [hK]; exact hC.cl) hM F hr hb (fun σ => passAt tk σ) ha hst hpl ht) fun σ H Q ⟨ρ, E, s⟩ => ⟨ρ, E, ?_⟩
  refine (SatG.bind s).imp fun d _ ⟨_, q⟩ v H1 F1 sm o => ?_
  by_cases hi : isIns d = true
  · rw [if_pos hi] at q
    obtain ⟨a, dx, fs, rfl, ha', hl⟩ := ins_at hi o hC hm
    refine ⟨a, dx, fs, rfl, ha', hl, ρ, E.same sm, ?_⟩
    refine ((SatG.bind q).imp fun ds _ ⟨_, q2⟩ vs H2 F2 sm2 o2 => ?_).later sm
    by_cases hn : ds.length + 1 = n
    · rw [if_pos hn] at q2
      exact ⟨d :: ds, F1 ++ F2, ownL_cons.mpr ⟨_, _, F1, F2, rfl, own_same sm2 o, o2, rfl⟩, by simpa using hn, app_of q2 (sm.trans sm2)⟩
    · rw [if_neg hn] at q2
      exact q2.elim
  · rw [if_neg hi] at q
    exact q.elim
theorem sf_meth0 {pl : Sem Bool} (c : MetP X.prog X.w X.K X.mg X.base G m k n fm) (hK : X.K = G.K) (hC : ClsG G) (hm : m ∉ G.names) (tk : Takes X W) (hr : Room k X.A) (ho : SE G X W mo o)
    (ht : eval (.Call (.Attribute o m apos) [] [] pos) X.env = (do
      let ov ← eval o X.env
      standAt apos.atName
      let (f, first) ← holding [ov] (getMethod ov m pl)
      callWith pos f first (backTo pos (starEach [] X.env)) (backToKw pos (keywordEach [] X.env))) := by rfl) :
    SF G X W (mMeth n fm mo mNil) (.Call (.Attribute o m apos) [] [] pos) := by
  obtain ⟨f, fd, ps, hM, hb, F⟩ := c
  refine PE.imp (pe_methS0 (pl := pl) ho (by rw [hK]; exact hC.cl) hM F hr hb (fun σ => passAt tk σ) ht) fun σ H Q ⟨ρ, E, s⟩ => ⟨ρ, E, ?_⟩
  refine (SatG.bind s).imp fun d _ ⟨_, q⟩ v H1 F1 sm o => ?_
  by_cases hi : isIns d = true
  · rw [if_pos hi] at q
    obtain ⟨a, dx, fs, rfl, ha', hl⟩ := ins_at hi o hC hm
    refine ⟨a, dx, fs, rfl, ha', hl, ?_⟩
    have q2 : SatF G W (if 0 + 1 = n then fm [d] else .no) σ H Q := q
    by_cases hn : 0 + 1 = n
    · rw [if_pos hn] at q2
      exact ⟨[d], F1, ownL_one o, by simpa using hn, app_of q2 sm⟩
    · rw [if_neg hn] at q2
      exact q2.elim
  · rw [if_neg hi] at q
    exact q.elim
/-! ### x.f -/
def mFld (i : Nat) (mo : Evn → R D) : Evn → R D := fun ρ => (mo ρ).bind fun d => match d with
  | .node .ins xs => match xs[i]? with
    | some x => .ok x
    | none => .no
  | _ => .no
theorem se_fld (i : Nat) {fn : Str} (hK : X.K = G.K) (hC : ClsG G) (hi : G.names[i]? = some fn) (ho : SE G X W mo o) (hb : attributeBase o fn X.env (eval o X.env) = eval o X.env := by rfl) : SE G X W (mFld i mo) (.Attribute o fn pos) :=
  PE.imp (pe_fld ho hb) fun σ H Q ⟨ρ, E, s⟩ => ⟨ρ, E, by
    refine (SatG.bind s).imp fun d e8 ⟨e9, q⟩ v H1 F1 sm o => ?_
    clear e8 e9
    split at q
    · rename_i xs _
      cases e1 : xs[i]? with
      | none => rw [e1] at q; exact q.elim
      | some x =>
        rw [e1] at q
        obtain ⟨a, vs, F2, rfl, ⟨dx, fs, ha, hf, hv⟩, ol, _⟩ := own_node.mp o
        subst hv
        obtain ⟨u, F3, e2, o2, _⟩ := ownL_get ol e1
        rw [List.length_map] at hf
        exact ⟨a, G.C, dx, fs, u, rfl, ha, by rw [hK]; exact hC.cl, by rw [hK]; exact hC.no fn (List.mem_of_getElem? hi), lookup_at hC.nd hf hi e2, q u H1 F3 sm o2⟩
    · exact q.elim⟩
end
end Rs

set_option maxRecDepth 100000
/-! Rs13: isinstance, chains of two, unpacking, moves. -/
namespace Rs
open PySem PySem.Spec PyProof.Rows L2

inductive Tn where
  | int | bool | list | tuple | str
  deriving DecidableEq
def Tn.nm : Tn → String
  | .int => "int" | .bool => "bool" | .list => "list" | .tuple => "tuple" | .str => "str"
def isiD (T : Tn) : D → Option Bool
  | .non => some false
  | .bl _ => some (decide (T = .int) || decide (T = .bool))
  | .int _ => some (decide (T = .int))
  | .str _ => some (decide (T = .str))
  | .node .tup _ => some (decide (T = .tuple))
  | .node .lst _ => some (decide (T = .list))
  | .node .fls _ => some (decide (T = .list))
  | _ => none
section
variable {G : Gx} {X : Cx} {W : WX} {e o : Expr} {es : List Expr} {p pos apos : Pos} {x : Str} {m : Evn → R D}
theorem isi_ok {H : Hp} {T : Tn} {d : D} {v : V} {F : List Addr} {b : Bool} (h : isiD T d = some b) (o : Own G H d v F) : ∃ t, TyX G.K H v t ∧ PySem.W.kitOne G.K t (.type T.nm) = some b := by
  cases d with
  | non => cases h; obtain ⟨rfl, _⟩ := own_non.mp o; exact ⟨_, .base .non, kit_ty (by cases T <;> decide +kernel)⟩
  | bl y => cases h; obtain ⟨rfl, _⟩ := own_bl.mp o; exact ⟨_, .base (.bl y), kit_ty (by cases T <;> decide +kernel)⟩
  | int y => cases h; obtain ⟨rfl, _⟩ := own_int.mp o; exact ⟨_, .base (.int y), kit_ty (by cases T <;> decide +kernel)⟩
  | str y => cases h; obtain ⟨rfl, _⟩ := own_str.mp o; exact ⟨_, .base (.str y), kit_ty (by cases T <;> decide +kernel)⟩
  | exc _ => cases h
  | node hd xs =>
    cases hd with
    | tup =>
      cases h
      obtain ⟨a, vs, rfl, n, _⟩ := own_tup o
      exact ⟨_, .base (.tup n), kit_ty (by cases T <;> decide +kernel)⟩
    | lst =>
      cases h
      obtain ⟨a, vs, F1, rfl, n, _⟩ := own_lst o
      exact ⟨_, .base (.lst n), kit_ty (by cases T <;> decide +kernel)⟩
    | fls =>
      cases h
      obtain ⟨a, vs, F1, rfl, n, _⟩ := own_node.mp o
      have k : PySem.W.kitOne G.K (.type "list") (.type T.nm) = some (decide (T = .list)) := kit_ty (by cases T <;> decide +kernel)
      rcases n with ⟨q, n⟩ | n
      · exact ⟨_, .base (.frz n), k⟩
      · rcases n (fun _ => none) with (n | ⟨_, n⟩) | ⟨o, its, n, h1, h2, _⟩
        · cases n
        · cases n
        · exact ⟨_, .kList h1 h2, k⟩
    | dK _ => cases h
    | dT _ => cases h
    | ins => cases h
def mIsi (T : Tn) (m : Evn → R D) : Evn → R D := fun ρ => (m ρ).bind fun d => match isiD T d with
  | some b => .ok (.bl b)
  | none => .no
theorem sf_isi (T : Tn) {pt : Pos} {tn : Str} (hK : X.K = G.K) (hg : Gl X "isinstance") (hm : X.mg "isinstance" = none) (hgt : Gl X tn) (hmt : X.mg tn = none) (hvt : bootBuiltins tn = some (.type T.nm)) (he : SE G X W m e)
    (hn : tn ≠ "__name__" := by decide) (hd : (tn == ("__debug__" : Str)) = false := by decide)
    (hs : starEach [e, .Name tn pt] X.env = (false, eval e X.env) :: starEach [.Name tn pt] X.env := by rfl) (hs2 : starEach [.Name tn pt] X.env = (false, eval (.Name tn pt) X.env) :: starEach [] X.env := by rfl) (hpl : (backTo pos (starEach [.Name tn pt] X.env)).any (·.1) = false := by rfl) :
    SF G X W (mIsi T m) (.Call (.Name "isinstance" p) [e, .Name tn pt] [] pos) :=
  PE.imp (pe_callB call_isi hg hm (by decide +kernel) (pa_cons he (pa_cons (pe_bltn (v := .ty T.nm) hgt hmt hvt rfl hn hd) pa_nil hs2) hs) (by decide) (by decide) hs hpl) fun σ H Q ⟨ρ, E, s⟩ => ⟨ρ, E, by
    refine (SatG.bind s).imp fun d _ ⟨_, q⟩ v H1 F1 sm o => ?_
    cases e1 : isiD T d with
    | none => rw [e1] at q; exact q.elim
    | some b =>
      rw [e1] at q
      obtain ⟨t, ty, k⟩ := isi_ok e1 o
      exact ⟨v, .ty T.nm, t, .type T.nm, b, rfl, .ty _, by rw [hK]; exact ty, by rw [hK]; exact k, q (.bl b) H1 [] sm (own_bl.mpr ⟨rfl, rfl⟩) List.nodup_nil fun a ha => by cases ha⟩⟩
/-! ### a < b < c -/
def mChain (g g' : D → D → R D) (a b c : Evn → R D) : Evn → R D := fun ρ => (a ρ).bind fun x => (b ρ).bind fun y => match g x y with
  | .ok (.bl k) => if k = true then ((c ρ).bind fun z => match g' y z with
    | .ok d => .ok d
    | _ => .no) else .ok (.bl false)
  | _ => .no
variable {a b c : Expr} {ma mb mc : Evn → R D} {op op' : CmpOp} {r r' : R2} {g g' : D → D → R D}
theorem chain_of (hd : OpD G r g) (hd' : OpD G r' g') {σ : St} {H : Hp} {Q : VK} {ρ : Evn} (E : EnvP G H σ ρ) (s : SatF G W (mChain g g' ma mb mc ρ) σ H Q) :
    tChain r r' (tE G W ma) (tE G W mb) (tE G W mc) σ H Q := by
  refine ⟨ρ, E, (SatG.bind s).imp fun d1 _ ⟨_, p⟩ v1 H1 F1 sm1 o1 => ⟨ρ, E.same sm1, ?_⟩⟩
  refine ((SatG.bind p).imp fun d2 e8 ⟨e9, q⟩ v2 H2 F2 sm2 o2 => ?_).later sm1
  refine hd d1 d2 v1 v2 F1 F2 H2 _ (own_same sm2 o1) o2 ?_
  cases hg : g d1 d2 with
  | exc c => rw [hg] at q; exact q.elim
  | no => rw [hg] at q; exact q.elim
  | ok d =>
    rw [hg] at q
    intro v H3 F3 sm3 o3 _ _
    cases d with
    | bl k =>
      obtain ⟨rfl, _⟩ := own_bl.mp o3
      refine ⟨k, rfl, ?_⟩
      cases k with
      | false => exact q (.bl false) H3 [] ((sm1.trans sm2).trans sm3) (own_bl.mpr ⟨rfl, rfl⟩) List.nodup_nil fun a ha => by cases ha
      | true =>
        refine ⟨ρ, ((E.same sm1).same sm2).same sm3, ?_⟩
        have q' : SatF G W ((mc ρ).bind fun z => match g' d2 z with
          | .ok d => .ok d
          | _ => .no) σ H Q := q
        refine ((SatG.bind q').imp fun d3 _ ⟨_, q2⟩ v3 H4 F4 sm4 o4 => ?_).later ((sm1.trans sm2).trans sm3)
        refine hd' d2 d3 v2 v3 F2 F4 H4 Q (own_same (sm3.trans sm4) o2) o4 ?_
        have sm := ((sm1.trans sm2).trans sm3).trans sm4
        cases hg' : g' d2 d3 with
        | ok d =>
          rw [hg'] at q2
          intro v H' F s' o nd fr
          exact q2 v H' F (sm.trans s') o nd fun a ha => ⟨sm.free (fr a ha).1, (fr a ha).2⟩
        | exc c => rw [hg'] at q2; exact q2.elim
        | no => rw [hg'] at q2; exact q2.elim
    | _ => exact q.elim
theorem sf_chain (ho : OpR X (compareOp op) r) (ho' : OpR X (compareOp op') r') (hd : OpD G r g) (hd' : OpD G r' g') (ha : SE G X W ma a) (hb : SE G X W mb b) (hc : SE G X W mc c)
    (hm : lastMarks [op, op'] [b, c] = false := by with_unfolding_all rfl) : SF G X W (mChain g g' ma mb mc) (.Compare a [op, op'] [b, c] pos) := by
  refine PE.imp (pe_chain ho ho' ha hb hc hm) fun σ H Q ⟨ρ, E, s⟩ => chain_of hd hd' E s
/-! ### moves -/
def mMove (i j : Nat) : Evn → RS := fun ρ => match ρ[j]? with
  | some (.ow d) => if d.imm = true then .nx (ρ.set i (.ow d)) else .nx ((ρ.set j .un).set i (.ow d))
  | some (.ro d) => if d.imm = true then .nx (ρ.set i (.ow d)) else .no
  | _ => .no
end
end Rs

set_option maxRecDepth 100000
/-! Rs14: the law's end. -/
namespace Rs
open PySem PySem.Spec PyProof.Rows L2

theorem hu100 {A : Around} {k : Nat} (hr : Room k A) : A.units + 100 < cLine := by
  have := hr.un
  omega
theorem hu64 {A : Around} {k : Nat} (hr : Room k A) : A.units + 64 < cLine := by
  have := hr.un
  omega
abbrev gLt : D → D → R D := gInt2 fun i j => .bl (decide (i < j))
abbrev gLe : D → D → R D := gInt2 fun i j => .bl (decide (i ≤ j))
abbrev gGt : D → D → R D := gInt2 fun i j => .bl (decide (i > j))
abbrev gGe : D → D → R D := gInt2 fun i j => .bl (decide (i ≥ j))
theorem tk0 {X : Cx} : Takes X W0 := fun u s' ⟨_, _, _, _, _, _, _, _, _, _, _, _, _, _, _, _, w⟩ => w.elim
theorem tkE {X : Cx} {E : XK} (h : Takes X (fun cls d _ H => E cls d H)) : Takes X (WE0 E) := h
def plainG (K : PySem.W.Frag) : Gx := ⟨K, 0, [], fun _ => 0, fun _ _ => False⟩
theorem script_own {G : Gx} {H : Hp} {a : Addr} {ns : List Int} (hO : Only H) (hS : SqL G.K H a (ns.map V.int)) : Own G H (.node .fls (ns.map D.int)) (.ref a) [] := by
  refine own_node.mpr ⟨a, ns.map V.int, [], rfl, ?_, ?_, rfl⟩
  · rcases hS with h | h
    · rcases h with h | ⟨o, h⟩
      · rcases hO a with e | ⟨o, xs, e⟩
        · rw [h] at e; cases e
        · rw [h] at e; cases e
      · exact .inl ⟨o, h⟩
    · exact .inr fun H' => .inr h
  · clear hS hO
    induction ns with
    | nil => exact ownL_nil.mpr ⟨rfl, rfl⟩
    | cons n ns ih => exact ownL_cons.mpr ⟨_, _, [], [], rfl, own_int.mpr ⟨rfl, rfl⟩, ih, rfl⟩
/-- what the law's def is asked -/
def spL (K : PySem.W.Frag) : Sp := fun vs H Q _ => ∃ (a : Addr) (ns : List Int), vs = [.ref a] ∧ Only H ∧ SqL K H a (ns.map V.int) ∧ ns.length ≤ 63 ∧ ∀ H', Q (.bl true) H'
theorem law_fn {P : Program} {w : World} {G : Gx} {mg : Str → Option Value} {base : Heap} {CX : CXT} {k : Nat} {f : Addr} {fd : FuncData} {ps : List Str} {fm : List D → R D} (F : FnOk P w G.K mg base CX k f fd ps (spP G 1 fm)) (law : ∀ ns : List Int, ns.length ≤ 63 → fm [.node .fls (ns.map D.int)] = .ok (.bl true)) :
    FnOk P w G.K mg base CX k f fd ps (spL G.K) := by
  have im : ∀ vs H Q E, spL G.K vs H Q E → spP G 1 fm vs H Q E := fun vs H Q E ⟨a, ns, e, hO, hS, hl, q⟩ => by
    subst e
    refine ⟨[.node .fls (ns.map D.int)], [], ownL_one (script_own hO hS), rfl, ?_⟩
    rw [law ns hl]
    intro v H' F sm o nd fr
    obtain ⟨rfl, _⟩ := own_bl.mp o
    exact q H'
  exact ⟨fun vs H Q E h => F.1 vs H Q E (im vs H Q E h), fun A outer s H args us vs Q E hr he hb hv h => F.2 A outer s H args us vs Q E hr he hb hv (im vs H Q E h)⟩
theorem law_end {l : PySem.W.OpenLaw} {k : Nat} {q : Program} {loose : List Str} {XP : (Str → Option Value) → Heap → Prop} {YP : World → Heap → Prop} {d : DefRec} {K : Params → PySem.W.Frag} (x : Str)
    (hn : l.most = some 63) (hdf : d.params.defaults = []) (hr : Room k callerA) (hY : ∀ (w : World) (h : Heap), YP w h → (K w.params).In h)
    (F : ∀ (w : World) (mg : Str → Option Value) (fa : Addr) (h : Heap), (K w.params).In h → h.Ns mainGlobals mg → mg d.name = some (.ref fa) →
      ∃ fd : FuncData, (∀ (s : Shared) (u : Value), BindsTo s fd ⟨[u], []⟩ [(x, u)]) ∧ ∀ base : Heap, (K w.params).In base → base.Ns mainGlobals mg → FnOk l.prog w (K w.params) mg base (L2.CX l.prog w) k fa fd [x] (spL (K w.params))) :
    PySem.W.WalkO q loose XP YP l.row.toRowW d [] (fun f vs => PySem.call f vs) :=
  L2.walk_of (n := 63) (k := k) (x := x) (CX := fun w => L2.CX l.prog w) (sp := fun w => spL (K w.params)) hn (by decide) hdf hr hY F (fun _ _ a ns hl hO hS => ⟨a, ns, rfl, hO, hS, hl, fun _ => rfl⟩) fun _ _ _ _ _ ⟨_, _, _, _, _, _, _, _, _, _, _, _, z⟩ => z
end Rs

set_option maxRecDepth 100000
/-! Rs15: how the plain functions run. -/
namespace Rs
open PySem PySem.Spec PyProof.Rows L2
def RS.thn (r : RS) (k : Evn → RS) : RS := match r with
  | .nx ρ' => k ρ'
  | r => r
@[simp] theorem RS.thn_nx {ρ : Evn} {k : Evn → RS} : RS.thn (.nx ρ) k = k ρ := rfl
@[simp] theorem RS.thn_rt {ρ : Evn} {d : D} {k : Evn → RS} : RS.thn (.rt d ρ) k = .rt d ρ := rfl
@[simp] theorem RS.thn_bk {ρ : Evn} {k : Evn → RS} : RS.thn (.bk ρ) k = .bk ρ := rfl
@[simp] theorem RS.thn_ct {ρ : Evn} {k : Evn → RS} : RS.thn (.ct ρ) k = .ct ρ := rfl
@[simp] theorem RS.thn_exc {ρ : Evn} {c : Nat} {k : Evn → RS} : RS.thn (.exc c ρ) k = .exc c ρ := rfl
@[simp] theorem RS.thn_no {k : Evn → RS} : RS.thn .no k = .no := rfl
def RS.nxt (r : RS) (k : Evn → RS) : RS := match r with
  | .nx ρ' => k ρ'
  | .ct ρ' => k ρ'
  | .bk ρ' => .nx ρ'
  | r => r
@[simp] theorem RS.nxt_nx {ρ : Evn} {k : Evn → RS} : RS.nxt (.nx ρ) k = k ρ := rfl
@[simp] theorem RS.nxt_rt {ρ : Evn} {d : D} {k : Evn → RS} : RS.nxt (.rt d ρ) k = .rt d ρ := rfl
@[simp] theorem RS.nxt_bk {ρ : Evn} {k : Evn → RS} : RS.nxt (.bk ρ) k = .nx ρ := rfl
@[simp] theorem RS.nxt_ct {ρ : Evn} {k : Evn → RS} : RS.nxt (.ct ρ) k = k ρ := rfl
@[simp] theorem RS.nxt_exc {ρ : Evn} {c : Nat} {k : Evn → RS} : RS.nxt (.exc c ρ) k = .exc c ρ := rfl
@[simp] theorem RS.nxt_no {k : Evn → RS} : RS.nxt .no k = .no := rfl
def R.only (r : R D) : R D := match r with
  | .ok d => .ok d
  | _ => .no
@[simp] theorem R.only_ok {d : D} : R.only (.ok d) = .ok d := rfl
@[simp] theorem R.only_exc {c : Nat} : R.only (.exc c) = .no := rfl
@[simp] theorem R.only_no : R.only .no = .no := rfl
def R.bool (r : R D) : R Bool := match r with
  | .ok (.bl b) => .ok b
  | .exc c => .exc c
  | _ => .no
@[simp] theorem R.bool_bl {b : Bool} : R.bool (.ok (.bl b)) = .ok b := rfl
@[simp] theorem R.bool_exc {c : Nat} : R.bool (.exc c) = .exc c := rfl
@[simp] theorem R.bool_no : R.bool .no = .no := rfl
def Slot.val : Option Slot → R D
  | some (.ow d) => .ok d
  | some (.ro d) => .ok d
  | _ => .no
@[simp] theorem Slot.val_ow {d : D} : Slot.val (some (.ow d)) = .ok d := rfl
@[simp] theorem Slot.val_ro {d : D} : Slot.val (some (.ro d)) = .ok d := rfl
def D.toPart (d : D) : R (Option Int) := match d with
  | .int i => .ok (some i)
  | _ => .no
@[simp] theorem toPart_int {i : Int} : D.toPart (.int i) = .ok (some i) := rfl
def oS {α : Type} (o : Option α) (k : α → RS) : RS := match o with
  | some a => k a
  | none => .no
@[simp] theorem oS_some {α : Type} {a : α} {k : α → RS} : oS (some a) k = k a := rfl
@[simp] theorem oS_none {α : Type} {k : α → RS} : oS (none : Option α) k = .no := rfl
def oR {α β : Type} (o : Option α) (k : α → R β) : R β := match o with
  | some a => k a
  | none => .no
@[simp] theorem oR_some {α β : Type} {a : α} {k : α → R β} : oR (some a) k = k a := rfl
@[simp] theorem oR_none {α β : Type} {k : α → R β} : oR (none : Option α) k = .no := rfl
def Slot.own (o : Option Slot) (k : D → RS) : RS := match o with
  | some (.ow d) => k d
  | _ => .no
@[simp] theorem Slot.own_ow {d : D} {k : D → RS} : Slot.own (some (.ow d)) k = k d := rfl
def Slot.give (o : Option Slot) (ρ ρ' : Evn) : RS := match o with
  | some (.ow d) => .rt d ρ'
  | some (.ro d) => if d.imm = true then .rt d ρ else .no
  | _ => .no
@[simp] theorem Slot.give_ow {d : D} {ρ ρ' : Evn} : Slot.give (some (.ow d)) ρ ρ' = .rt d ρ' := rfl
@[simp] theorem Slot.give_ro {d : D} {ρ ρ' : Evn} : Slot.give (some (.ro d)) ρ ρ' = if d.imm = true then .rt d ρ else .no := rfl
def Slot.walk (o : Option Slot) : R D := match o with
  | some (.ro d) => .ok d
  | some (.ow d) => if d.imm = true then .ok d else .no
  | _ => .no
@[simp] theorem Slot.walk_ow {d : D} : Slot.walk (some (.ow d)) = if d.imm = true then .ok d else .no := rfl
@[simp] theorem Slot.walk_ro {d : D} : Slot.walk (some (.ro d)) = .ok d := rfl
def RS.out (r : RS) : R D := match r with
  | .rt d _ => .ok d
  | .nx _ => .ok .non
  | .exc c _ => .exc c
  | _ => .no
@[simp] theorem RS.out_rt {d : D} {ρ : Evn} : RS.out (.rt d ρ) = .ok d := rfl
@[simp] theorem RS.out_nx {ρ : Evn} : RS.out (.nx ρ) = .ok .non := rfl
@[simp] theorem RS.out_exc {c : Nat} {ρ : Evn} : RS.out (.exc c ρ) = .exc c := rfl
theorem run_out (n N : Nat) (m : Evn → RS) (ds : List D) : runP n N m ds = (m (ds.map Slot.ro ++ List.replicate (N - n) Slot.un)).out := by
  unfold runP
  cases m (ds.map Slot.ro ++ List.replicate (N - n) Slot.un) <;> rfl
section
variable {ρ : Evn} {m ma mb mk mv : Evn → R D} {ms : Evn → R (List D)} {c ca cb : Evn → R Bool} {s s1 s2 : Evn → RS} {d x y : D} {i j : Int} {n k r : Nat} {pm : Evn → R (Option Nat)}
@[simp] theorem ap_seq : mSeq s1 s2 ρ = (s1 ρ).thn s2 := rfl
@[simp] theorem ap_set : mSet n m ρ = (m ρ).toS ρ fun d => .nx (ρ.set n (.ow d)) := by unfold mSet; cases m ρ <;> rfl
@[simp] theorem ap_nx : mNx ρ = .nx ρ := rfl
@[simp] theorem ap_if : mIf c s1 s2 ρ = (c ρ).toS ρ fun b => if b = true then s1 ρ else s2 ρ := by unfold mIf; cases c ρ <;> rfl
@[simp] theorem ap_ret : mRet m ρ = (m ρ).toS ρ fun d => .rt d ρ := by unfold mRet; cases m ρ <;> rfl
@[simp] theorem ap_retV : mRetV n ρ = Slot.give ρ[n]? ρ (ρ.set n .un) := by
  unfold mRetV
  cases h : ρ[n]? with
  | none => rfl
  | some s => cases s <;> rfl
@[simp] theorem ap_drop : mDrop m ρ = (m ρ).toS ρ fun _ => .nx ρ := by unfold mDrop; cases m ρ <;> rfl
@[simp] theorem ap_var : mVar n ρ = Slot.val ρ[n]? := by
  unfold mVar rdv
  cases h : ρ[n]? with
  | none => rfl
  | some s => cases s <;> rfl
@[simp] theorem ap_ro : mRo n ρ = Slot.walk ρ[n]? := by
  unfold mRo
  cases h : ρ[n]? with
  | none => rfl
  | some s => cases s <;> rfl
@[simp] theorem ap_c : mC d ρ = .ok d := rfl
@[simp] theorem ap_imm : mImm m ρ = (m ρ).bind fun d => if d.imm = true then .ok d else .no := rfl
@[simp] theorem ap_nil : mNil ρ = .ok [] := rfl
@[simp] theorem ap_cons : mCons m ms ρ = (m ρ).bind fun d => (ms ρ).bind fun ds => .ok (d :: ds) := rfl
@[simp] theorem ap_tup : mTup ms ρ = (ms ρ).bind fun ds => if ds.length ≤ 1000 then .ok (.node .tup ds) else .no := rfl
@[simp] theorem ap_lst : mLst ms ρ = (ms ρ).bind fun ds => if ds.length ≤ 1000 then .ok (.node .lst ds) else .no := rfl
@[simp] theorem ap_bin {g : D → D → R D} : mBin g ma mb ρ = (ma ρ).bind fun x => (mb ρ).bind fun y => (g x y).only := rfl
@[simp] theorem ap_binE {g : D → D → R D} : mBinE g ma mb ρ = (ma ρ).bind fun x => (mb ρ).bind fun y => (g x y).only := rfl
@[simp] theorem ap_un {g : D → R D} : mUn g ma ρ = (ma ρ).bind fun x => (g x).only := rfl
@[simp] theorem ap_call {g : List D → R D} : mCall g ms ρ = (ms ρ).bind fun ds => (g ds).only := rfl
@[simp] theorem ap_app {g : List D → R D} : mApp n g ms ρ = (ms ρ).bind fun ds => if ds.length = n then g ds else .no := rfl
@[simp] theorem ap_test : mTest m ρ = (m ρ).bool := by
  unfold mTest
  cases m ρ with
  | ok d => cases d <;> rfl
  | exc c => rfl
  | no => rfl
@[simp] theorem ap_cand : cAnd ca cb ρ = (ca ρ).bind fun x => if x = true then cb ρ else .ok false := rfl
@[simp] theorem ap_cor : cOr ca cb ρ = (ca ρ).bind fun x => if x = true then .ok true else cb ρ := rfl
@[simp] theorem ap_cnot : cNot ca ρ = (ca ρ).bind fun x => .ok (!x) := rfl
@[simp] theorem ap_and : mAnd ma mb ρ = (mTest ma ρ).bind fun x => if x = true then mb ρ else .ok (.bl false) := rfl
@[simp] theorem ap_or : mOr ma mb ρ = (mTest ma ρ).bind fun x => if x = true then .ok (.bl true) else mb ρ := rfl
@[simp] theorem ap_not : mNot ma ρ = (mTest ma ρ).bind fun x => .ok (.bl (!x)) := rfl
@[simp] theorem ap_isi {T : Tn} : mIsi T m ρ = (m ρ).bind fun d => oR (isiD T d) fun b => .ok (.bl b) := by
  unfold mIsi
  congr 1
  funext d
  cases isiD T d <;> rfl
@[simp] theorem ap_nopart : mNoPart ρ = .ok none := rfl
@[simp] theorem ap_part : mPart m ρ = (m ρ).bind D.toPart := by
  unfold mPart
  cases m ρ with
  | ok d => cases d <;> rfl
  | exc c => rfl
  | no => rfl
@[simp] theorem ap_sl {lo hi : Evn → R (Option Int)} : mSl m lo hi ρ = (m ρ).bind fun d => (lo ρ).bind fun l => (hi ρ).bind fun h => (gSl d l h).only := rfl
@[simp] theorem ap_forR : mForR n ms s ρ = (ms ρ).toS ρ fun ds => oS (rngOf ds) fun p => forL n s (rangeD p.1 p.2) ρ := by
  unfold mForR
  cases ms ρ with
  | ok ds =>
    show (match rngOf ds with
      | some (lo, k) => forL n s (rangeD lo k) ρ
      | none => RS.no) = oS (rngOf ds) _
    cases rngOf ds <;> rfl
  | exc c => rfl
  | no => rfl
@[simp] theorem ap_root : pRoot ρ = .ok none := rfl
@[simp] theorem ap_mut {T : String} {g : D → List D → Option D} : mMut T g r pm ms ρ = Slot.own ρ[r]? fun d => (pm ρ).toS ρ fun p => oS (atP d p) fun dn => if tyD T dn = true then (ms ρ).toS ρ fun ds => setOw r ρ (putIn d p fun dn => g dn ds) else .no := by
  unfold mMut
  cases h : ρ[r]? with
  | none => rfl
  | some s =>
    cases s with
    | ow d =>
      show R.toS (pm ρ) ρ _ = R.toS (pm ρ) ρ _
      congr 1
      funext p
      cases atP d p <;> rfl
    | _ => rfl
@[simp] theorem ap_put : mPut r pm mk mv ρ = Slot.own ρ[r]? fun d => (mv ρ).toS ρ fun x => (pm ρ).toS ρ fun p => (mk ρ).toS ρ fun k => setOw r ρ (putIn d p fun dn => putItem dn k x) := by
  unfold mPut
  cases h : ρ[r]? with
  | none => rfl
  | some s => cases s <;> rfl
@[simp] theorem ap_setOw : setOw r ρ (some d) = .nx (ρ.set r (.ow d)) := rfl
@[simp] theorem atP_none : atP d none = some d := rfl
@[simp] theorem putIn_none {g : D → Option D} : putIn d none g = g d := by
  unfold putIn
  show ((g d).map fun dn' => setP d none dn') = g d
  cases g d <;> rfl
@[simp] theorem ty_lst {xs : List D} : tyD "list" (.node .lst xs) = true := rfl
@[simp] theorem app_lst {xs : List D} : gAppend (.node .lst xs) [x] = if xs.length < 100000 then some (.node .lst (xs ++ [x])) else none := rfl
@[simp] theorem ap_lcR {t : Evn → R Bool} : mLcR n ms t m ρ = (ms ρ).bind fun ds => oR (rngOf ds) fun p => lcR n t m (rangeD p.1 p.2) ρ := by
  unfold mLcR
  cases ms ρ with
  | ok ds =>
    show (match rngOf ds with
      | some (lo, k) => lcR n t m (rangeD lo k) ρ
      | none => R.no) = oR (rngOf ds) _
    cases rngOf ds <;> rfl
  | exc c => rfl
  | no => rfl
@[simp] theorem rng_1 : rngOf [.int i] = some (0, i.toNat) := rfl
@[simp] theorem rng_2 : rngOf [.int i, .int j] = some (i, (j - i).toNat) := rfl
@[simp] theorem g_add : gAdd (.int i) (.int j) = .ok (.int (i + j)) := rfl
@[simp] theorem g_sub : gSub (.int i) (.int j) = .ok (.int (i - j)) := rfl
theorem g_mul1 (h : -(2 ^ 64) < i ∧ i < 2 ^ 64) : gMul (.int i) (.int j) = .ok (.int (i * j)) := by
  show (if mulOk i j = true then _ else _) = _
  rw [if_pos (by unfold mulOk; simp only [Bool.or_eq_true, Bool.and_eq_true, decide_eq_true_eq]; omega)]
theorem g_mul2 (h : -(2 ^ 64) < j ∧ j < 2 ^ 64) : gMul (.int i) (.int j) = .ok (.int (i * j)) := by
  show (if mulOk i j = true then _ else _) = _
  rw [if_pos (by unfold mulOk; simp only [Bool.or_eq_true, Bool.and_eq_true, decide_eq_true_eq]; omega)]
theorem g_div (h : 0 < j ∧ j < 1073741824) : gDiv (.int i) (.int j) = .ok (.int (i / j)) := by
  show (if divOk i j = true then _ else _) = _
  rw [if_pos (by simp [divOk, h.1, h.2])]
theorem g_mod (h : 0 < j) : gMod (.int i) (.int j) = .ok (.int (i % j)) := by
  show (if modOk i j = true then _ else _) = _
  rw [if_pos (by simp [modOk, h])]
@[simp] theorem g_neg : gNeg (.int i) = .ok (.int (-i)) := rfl
@[simp] theorem g_lt : gLt (.int i) (.int j) = .ok (.bl (decide (i < j))) := rfl
@[simp] theorem g_le : gLe (.int i) (.int j) = .ok (.bl (decide (i ≤ j))) := rfl
@[simp] theorem g_gt : gGt (.int i) (.int j) = .ok (.bl (decide (i > j))) := rfl
@[simp] theorem g_ge : gGe (.int i) (.int j) = .ok (.bl (decide (i ≥ j))) := rfl
@[simp] theorem g_eqi : gEq (.int i) (.int j) = .ok (.bl (decide (i = j))) := by
  show R.ok (D.bl (PyData.eqv (.int i) (.int j))) = _
  rw [PyData.eqv]
  congr 2
@[simp] theorem g_nei : gNe (.int i) (.int j) = .ok (.bl (!decide (i = j))) := by
  show R.ok (D.bl (!PyData.eqv (.int i) (.int j))) = _
  rw [PyData.eqv]
  congr 2
theorem eqD_refl (h : okD 60 d = true) : eqD d d = true := PySem.SeqAt.eqv_refl _ (okD_depth 60 d h).2
theorem g_eqr (h : okD 60 d = true) : gEq d d = .ok (.bl true) := by
  unfold gEq
  rw [if_pos ⟨h, h⟩, eqD_refl h]
theorem g_ner (h : okD 60 d = true) : gNe d d = .ok (.bl false) := by
  unfold gNe
  rw [if_pos ⟨h, h⟩, eqD_refl h]
  rfl
@[simp] theorem g_len_lst {xs : List D} : gLen [.node .lst xs] = .ok (.int xs.length) := rfl
@[simp] theorem g_len_fls {xs : List D} : gLen [.node .fls xs] = .ok (.int xs.length) := rfl
@[simp] theorem g_len_tup {xs : List D} : gLen [.node .tup xs] = .ok (.int xs.length) := rfl
@[simp] theorem g_min2 : gMin2 [.int i, .int j] = .ok (.int (min i j)) := by
  show R.ok (D.int (if j < i then j else i)) = _
  congr 2
  split <;> omega
@[simp] theorem g_max2 : gMax2 [.int i, .int j] = .ok (.int (max i j)) := by
  show R.ok (D.int (if j > i then j else i)) = _
  congr 2
  split <;> omega
@[simp] theorem sq_lst {xs : List D} : (D.node .lst xs).seq = some xs := rfl
@[simp] theorem sq_fls {xs : List D} : (D.node .fls xs).seq = some xs := rfl
@[simp] theorem sq_tup {xs : List D} : (D.node .tup xs).seq = some xs := rfl
@[simp] theorem imm_int : (D.int i).imm = true := rfl
@[simp] theorem imm_bl {b : Bool} : (D.bl b).imm = true := rfl
@[simp] theorem imm_str {b : Str} : (D.str b).imm = true := rfl
@[simp] theorem imm_non : D.non.imm = true := rfl
@[simp] theorem imm_tup {xs : List D} : (D.node .tup xs).imm = D.imms xs := by simp [D.imm, Hd.mu]
@[simp] theorem imm_lst {xs : List D} : (D.node .lst xs).imm = false := by simp [D.imm, Hd.mu]
@[simp] theorem imms_nil : D.imms [] = true := rfl
@[simp] theorem imms_cons {xs : List D} : D.imms (x :: xs) = (x.imm && D.imms xs) := by simp [D.imms]
end
/-- the item at a place -/
theorem gIx_at {d : D} {xs : List D} {i : Int} {k : Nat} {x : D} (h : d.seq = some xs) (hi : i = k) (hx : xs[k]? = some x) : gIx d (.int i) = .ok x := by
  subst hi
  have hl := (List.getElem?_eq_some_iff.mp hx).1
  have e : atI xs (k : Int) = some x := by
    unfold atI ixN
    rw [if_pos (by omega), if_pos (by omega)]
    exact hx
  unfold gIx
  rw [h]
  simp only [e]
theorem forL_inv {i : Nat} {body : Evn → RS} {xs : List D} {I : Nat → Evn → Prop} {ρ : Evn} (h0 : I 0 ρ) (hs : ∀ k x ρ, xs[k]? = some x → I k ρ → ∃ ρ', body (ρ.set i (.ro x)) = .nx ρ' ∧ I (k + 1) ρ') : ∃ ρ', forL i body xs ρ = .nx ρ' ∧ I xs.length ρ' := by
  have gen : ∀ (ys : List D) (k : Nat) (ρ : Evn), xs.drop k = ys → k + ys.length = xs.length → I k ρ → ∃ ρ', forL i body ys ρ = .nx ρ' ∧ I xs.length ρ' := by
    intro ys
    induction ys with
    | nil =>
      intro k ρ e hl h
      have hk : k = xs.length := hl
      exact ⟨ρ, rfl, hk ▸ h⟩
    | cons y ys ih =>
      intro k ρ e hl h
      have hk : xs[k]? = some y := by
        have := List.getElem?_drop (xs := xs) (i := k) (j := 0)
        rw [e] at this
        simpa using this.symm
      obtain ⟨ρ', e1, h1⟩ := hs k y ρ hk h
      obtain ⟨ρ2, e2, h2⟩ := ih (k + 1) ρ' (by rw [← List.drop_drop, e]; rfl) (by simp only [List.length_cons] at hl; omega) h1
      exact ⟨ρ2, by unfold forL; rw [e1]; exact e2, h2⟩
  exact gen xs 0 ρ rfl (by simp) h0
end Rs
namespace Rs
open PySem PySem.Spec PyProof.Rows L2
theorem lcL_map {i : Nat} {t : Evn → R Bool} {e : Evn → R D} {g : D → D} {ρ : Evn} : ∀ {xs : List D}, (∀ x ∈ xs, t (ρ.set i (.ro x)) = .ok true ∧ e (ρ.set i (.ro x)) = .ok (g x)) → lcL i t e xs ρ = .ok (xs.map g)
  | [], _ => rfl
  | x :: xs, h => by
    obtain ⟨h1, h2⟩ := h x (by simp)
    unfold lcL
    rw [h1, h2, lcL_map fun y hy => h y (by simp [hy])]
    rfl
theorem lcL_filter {i : Nat} {t : Evn → R Bool} {e : Evn → R D} {p : D → Bool} {g : D → D} {ρ : Evn} : ∀ {xs : List D}, (∀ x ∈ xs, t (ρ.set i (.ro x)) = .ok (p x) ∧ (p x = true → e (ρ.set i (.ro x)) = .ok (g x))) → lcL i t e xs ρ = .ok ((xs.filter p).map g)
  | [], _ => rfl
  | x :: xs, h => by
    obtain ⟨h1, h2⟩ := h x (by simp)
    have ih := lcL_filter (xs := xs) fun y hy => h y (by simp [hy])
    unfold lcL
    rw [h1]
    cases e1 : p x with
    | true =>
      simp only [if_true]
      rw [h2 e1, ih, List.filter_cons_of_pos e1]
      rfl
    | false =>
      rw [ih, List.filter_cons_of_neg (by simp [e1])]
      rfl
@[simp] theorem g_min1_2 {i j : Int} : gMin1 [.node .lst [.int i, .int j]] = .ok (.int (min i j)) := by
  unfold gMin1
  simp [intsL, minL]
  try omega
@[simp] theorem g_max1_2 {i j : Int} : gMax1 [.node .lst [.int i, .int j]] = .ok (.int (max i j)) := by
  unfold gMax1
  simp [intsL, maxL]
  try omega
/-- the cell of a script -/
def cellA (ns : List Int) (k : Nat) : Int := ns.getD k 0
theorem ix_fls {ns : List Int} {k : Nat} (h : k < ns.length) : gIx (.node .fls (ns.map D.int)) (.int k) = .ok (.int (cellA ns k)) := by
  refine gIx_at (k := k) rfl rfl ?_
  rw [List.getElem?_map, List.getElem?_eq_getElem h]
  simp [cellA, h]
end Rs
namespace Rs
open PySem PySem.Spec PyProof.Rows L2
@[simp] theorem forL_nil {i : Nat} {b : Evn → RS} {ρ : Evn} : forL i b [] ρ = .nx ρ := rfl
@[simp] theorem forL_cons {i : Nat} {b : Evn → RS} {ρ : Evn} {x : D} {xs : List D} : forL i b (x :: xs) ρ = (b (ρ.set i (.ro x))).nxt (forL i b xs) := rfl
theorem rangeD_2 : rangeD 0 2 = [.int 0, .int 1] := by simp [rangeD, List.range_succ]
theorem ix_ints {L : List Int} {x : Int} (h : 0 ≤ x) (h2 : x < L.length) : gIx (.node .lst (L.map D.int)) (.int x) = .ok (.int (L.getD x.toNat 0)) := by
  refine gIx_at (k := x.toNat) rfl (by omega) ?_
  rw [List.getElem?_map, List.getElem?_eq_getElem (by omega)]
  simp [show x.toNat < L.length by omega]
theorem g_pow {i j : Int} (h : 0 ≤ j ∧ j ≤ 1000 ∧ i.natAbs < 2 ^ 64) : gPow (.int i) (.int j) = .ok (.int (i ^ j.toNat)) := by
  show (if powOk i j = true then _ else _) = _
  rw [if_pos (by unfold powOk; simp only [Bool.and_eq_true, decide_eq_true_eq]; exact ⟨⟨h.1, h.2.1⟩, h.2.2⟩)]
@[simp] theorem g_div' {i j : Int} (h : 0 < j ∧ j < 1073741824) : gDiv (.int i) (.int j) = .ok (.int (i / j)) := g_div h
@[simp] theorem g_mod' {i j : Int} (h : 0 < j) : gMod (.int i) (.int j) = .ok (.int (i % j)) := g_mod h
end Rs
namespace Rs
open PySem PySem.Spec PyProof.Rows L2
section
variable {i n : Nat} {it e : Evn → R D} {t : Evn → R Bool} {ρ : Evn} {x : D} {xs ys : List D} {b : Bool} {body : Evn → RS}
@[simp] theorem ap_lc : mLc i it t e ρ = (it ρ).bind fun d => oR d.seq fun xs => lcR i t e xs ρ := by
  unfold mLc
  congr 1
  funext d
  cases d.seq <;> rfl
@[simp] theorem lcL_nil : lcL i t e [] ρ = .ok [] := rfl
@[simp] theorem lcL_yes : lcL i mYes e (x :: xs) ρ = (e (ρ.set i (.ro x))).only.bind fun d => (lcL i mYes e xs ρ).bind fun ds => .ok (d :: ds) := by
  rw [lcL]
  show (match e (ρ.set i (.ro x)) with | .ok d => _ | _ => _) = _
  cases e (ρ.set i (.ro x)) <;> rfl
@[simp] theorem g_tuple : gTuple [.node .lst xs] = if D.imms xs = true then .ok (.node .tup xs) else .no := rfl
@[simp] theorem g_addl : gAdd (.node .lst xs) (.node .lst ys) = if D.imms xs = true ∧ D.imms ys = true ∧ xs.length + ys.length ≤ 1000000 then .ok (.node .lst (xs ++ ys)) else .no := rfl
@[simp] theorem g_int_bl : gInt [.bl b] = .ok (.int (if b then 1 else 0)) := rfl
@[simp] theorem ap_for : mFor i it body ρ = (it ρ).toS ρ fun d => oS d.seq fun xs => forL i body xs ρ := by
  unfold mFor
  cases it ρ with
  | ok d =>
    show (match d.seq with
      | some xs => forL i body xs ρ
      | none => RS.no) = oS d.seq _
    cases d.seq <;> rfl
  | exc c => rfl
  | no => rfl
end
end Rs
namespace Rs
open PySem PySem.Spec PyProof.Rows L2
def Slot.frz (o : Option Slot) (k : D → RS) (z : RS) : RS := match o with
  | some (.ow d) => k d
  | _ => z
@[simp] theorem Slot.frz_ow {d : D} {k : D → RS} {z : RS} : Slot.frz (some (.ow d)) k z = k d := rfl
@[simp] theorem Slot.frz_ro {d : D} {k : D → RS} {z : RS} : Slot.frz (some (.ro d)) k z = z := rfl
@[simp] theorem ap_frz {T : List Nat} {r : Nat} {m : Evn → RS} {ρ : Evn} : mFrz T r m ρ = Slot.frz ρ[r]? (fun d => thawR (thaw T r 0 ρ) (m (ρ.set r (.ro d)))) (m ρ) := by
  unfold mFrz
  cases h : ρ[r]? with
  | none => rfl
  | some s => cases s <;> rfl
section
variable {g : Evn → Evn} {ρ ρ' : Evn} {d : D} {c : Nat} {T : List Nat} {r k : Nat} {s' : Slot}
@[simp] theorem thawC_nx : thawR g (.nx ρ) = .nx (g ρ) := rfl
@[simp] theorem thawC_rt : thawR g (.rt d ρ) = .rt d (g ρ) := rfl
@[simp] theorem thawC_exc : thawR g (.exc c ρ) = .exc c (g ρ) := rfl
@[simp] theorem thawC_nil : thaw T r k [] [] = [] := by simp [thaw]
def thawS (T : List Nat) (r k : Nat) (s s' : Slot) : Slot := if k = r then s else match s with
    | .ro d => if k ∈ T then dropRo s' else .ro d
    | _ => dropRo s'
@[simp] theorem thawC_cons {s : Slot} : thaw T r k (s :: ρ) (s' :: ρ') = thawS T r k s s' :: thaw T r (k + 1) ρ ρ' := by
  cases s <;> simp [thaw, thawS]
@[simp] theorem thawC_un : thawS T r k .un s' = if k = r then .un else dropRo s' := rfl
@[simp] theorem thawC_ow : thawS T r k (.ow d) s' = if k = r then .ow d else dropRo s' := rfl
@[simp] theorem thawC_ro : thawS T r k (.ro d) s' = if k = r then .ro d else if k ∈ T then dropRo s' else .ro d := rfl
@[simp] theorem drop_ow : dropRo (.ow d) = .ow d := rfl
@[simp] theorem drop_un : dropRo .un = .un := rfl
end
end Rs

set_option maxRecDepth 100000
/-! Rs16: defs and methods that change their first argument. -/
namespace Rs
open PySem PySem.Spec PyProof.Rows L2
/-- what such a call gives: the first argument as it is then, and the result; or an exception -/
inductive RM where
  | ok (d0 r : D) | exc (c : Nat) (d0 : D) | no
/-- what it may do with the parts of its first argument -/
structure Mv (H H' : Hp) (F F' : List Addr) : Prop where
  st : ∀ b o, H b = some o → b ∉ F → H' b = some o
  nw : ∀ a ∈ F', a ∈ F ∨ H a = none
  nd : F'.Nodup
  mo : ∀ a ∈ F', ∃ o, H' a = some o ∧ MutO o
def SatM (G : Gx) (E : XK) (H : Hp) (v0 : V) (F0 : List Addr) (Q : VK) : RM → Prop
  | .ok d' x => ∀ v H' F' Fr, Mv H H' F0 F' → Own G H' d' v0 F' → Own G H' x v Fr → Fr.Nodup → (∀ a ∈ Fr, (a ∈ F0 ∨ H a = none) ∧ a ∉ F' ∧ ∃ o, H' a = some o ∧ MutO o) → Q v H'
  | .exc c d' => ∀ H' F', Mv H H' F0 F' → Own G H' d' v0 F' → E (.ref (G.cls c)) none H'
  | .no => False
def spM (G : Gx) (n : Nat) (fm : List D → RM) : Sp := fun vs H Q E => ∃ d0 v0 F0 ds vr Fa, vs = v0 :: vr ∧ Own G H d0 v0 F0 ∧ F0.Nodup ∧ (∀ a ∈ F0, ∃ o, H a = some o ∧ MutO o) ∧ OwnL G H ds vr Fa ∧ (∀ a ∈ Fa, a ∉ F0) ∧ ds.length + 1 = n ∧ SatM G E H v0 F0 Q (fm (d0 :: ds))
/-- slot 0 as it is then -/
def first (ρ : Evn) (k : D → RM) : RM := match ρ[(0 : Nat)]? with
  | some (.ow d) => k d
  | _ => .no
def outM : RS → RM
  | .rt d ρ => first ρ fun d0 => .ok d0 d
  | .nx ρ => first ρ fun d0 => .ok d0 .non
  | .exc c ρ => first ρ fun d0 => .exc c d0
  | _ => .no
def runM (n N : Nat) (m : Evn → RS) : List D → RM
  | d0 :: ds => outM (m (.ow d0 :: (ds.map Slot.ro ++ List.replicate (N - n) Slot.un)))
  | [] => .no
theorem first_ok {ρ : Evn} {k : D → RM} {P : RM → Prop} (h : P (first ρ k)) (hn : ¬ P .no) : ∃ d : D, ρ[(0 : Nat)]? = some (Slot.ow d) ∧ P (k d) := by
  unfold first at h
  split at h
  · rename_i d e; exact ⟨d, e, h⟩
  · exact absurd h hn
section
variable {G : Gx} {H : Hp}
theorem start_envM {N : List Str} {d0 : D} {v0 : V} {F0 : List Addr} {ds : List D} {vs : List V} {Fa : List Addr} (o0 : Own G H d0 v0 F0) (nd : F0.Nodup) (mu : ∀ a ∈ F0, ∃ o, H a = some o ∧ MutO o) (o : OwnL G H ds vs Fa) (dis : ∀ a ∈ Fa, a ∉ F0) (hn : ds.length + 1 ≤ N.length) :
    EnvR G H (L2.start N (v0 :: vs)) (.ow d0 :: (ds.map Slot.ro ++ List.replicate (N.length - (ds.length + 1)) Slot.un)) (fun i => if i = 0 then F0 else []) := by
  have hl := ownL_len o
  have at0 : (L2.start N (v0 :: vs))[0]? = some (some v0) := by
    unfold L2.start
    rw [List.getElem?_append_left (by simp)]
    rfl
  refine ⟨by simp [L2.start, hl], fun i d h => ?_, fun i d h => ?_, fun i h => ?_, fun i => ?_, fun i j a h1 h2 => ?_, fun i a h => ?_⟩
  · cases i with
    | zero =>
      simp at h
      subst h
      exact ⟨v0, at0, by simpa using o0⟩
    | succ i =>
      simp only [List.getElem?_cons_succ] at h
      by_cases hi : i < ds.length
      · rw [List.getElem?_append_left (by simpa using hi), List.getElem?_map, List.getElem?_eq_getElem hi] at h
        cases h
      · rw [List.getElem?_append_right (by simpa using Nat.not_lt.mp hi)] at h
        have := List.getElem?_replicate (n := N.length - (ds.length + 1)) (a := Slot.un) (i := i - (ds.map Slot.ro).length)
        rw [this] at h
        split at h <;> cases h
  · cases i with
    | zero => simp at h
    | succ i =>
      simp only [List.getElem?_cons_succ] at h
      by_cases hi : i < ds.length
      · rw [List.getElem?_append_left (by simpa using hi), List.getElem?_map, List.getElem?_eq_getElem hi] at h
        cases h
        obtain ⟨v, F1, e, o1, sub⟩ := ownL_get o (List.getElem?_eq_getElem hi)
        refine ⟨v, F1, ?_, o1, fun a ha j hj => ?_⟩
        rotate_left
        · split at hj
          · exact dis a (sub a ha) hj
          · cases hj
        unfold L2.start
        rw [List.getElem?_append_left (by simp [hl]; omega), List.getElem?_map, List.getElem?_cons_succ, e]
        rfl
      · rw [List.getElem?_append_right (by simpa using Nat.not_lt.mp hi)] at h
        have := List.getElem?_replicate (n := N.length - (ds.length + 1)) (a := Slot.un) (i := i - (ds.map Slot.ro).length)
        rw [this] at h
        split at h <;> cases h
  · by_cases e : i = 0
    · subst e; exact absurd rfl (h d0)
    · simp [e]
  · by_cases e : i = 0
    · simp [e, nd]
    · simp [e]
  · by_cases e : i = 0
    · by_cases e2 : j = 0
      · omega
      · simp [e2] at h2
    · simp [e] at h1
  · by_cases e : i = 0
    · simp [e] at h; exact mu a h
    · simp [e] at h
end
theorem fm_zero {F0 : List Addr} {a : Addr} : Fm (fun i => if i = 0 then F0 else []) a ↔ a ∈ F0 := by
  constructor
  · rintro ⟨i, h⟩
    by_cases e : i = 0
    · simpa [e] using h
    · simp [e] at h
  · intro h
    exact ⟨0, by simpa using h⟩
section
variable {P : Program} {w : World} {K : PySem.W.Frag} {mg : Str → Option Value} {base : Heap} {G : Gx}
theorem mv_of {T : List Nat} {F0 : List Addr} {σ σ' : St} {H H' : Hp} {ρ' : Evn} {f' : Nat → List Addr} (E' : EnvR G H' σ' ρ' f') (l : Lk T (fun i => if i = 0 then F0 else []) σ H f' σ' H') : Mv H H' F0 (f' 0) :=
  ⟨fun b o e hb => l.step b o e fun m => absurd (fm_zero.mp m) hb, fun a ha => (l.new a ⟨0, ha⟩).imp fm_zero.mp id, E'.nd 0, fun a ha => E'.un 0 a ha⟩
/-- the rule for such a def -/
theorem fnM {x qual : Str} {st : Stmt} {f : Addr} {fd : FuncData} {N ps : List Str} {k n : Nat} {T : List Nat} {m : Evn → RS} {fm : List D → RM} (F : Fun K x qual st f fd) (S : FnScope N ps (defScope st)) (hn : ps.length = n) (hN : n ≤ N.length) (hT : 0 ∉ T) (hf : fm = runM n N.length m)
    (body : ∀ (cdv : Value) (A : Around) (outer : List PySem.Env) (s : Shared) (H : Hp) (E : XK), Room k (A.deeper (envOfC qual (defScope st) s.heap.objs.size f cdv)) →
      SSs G (cxOf (L2.CX P w) P w K mg base N qual (defScope st) f cdv A outer s H E) (WE0 E) T m (defBody st)) : FnOk P w K mg base (L2.CX P w) (k + 1) f fd ps (spM G n fm) := by
  subst hf
  refine F.okX S (fun vs H Q E ⟨d0, v0, F0, ds, vr, Fa, e, _, _, _, o, _, hl, _⟩ => by rw [e, List.length_cons, ownL_len o, hl, hn]) fun cdv A outer s H vs Q E hr h => ?_
  obtain ⟨d0, v0, F0, ds, vr, Fa, rfl, o0, nd, mu, o, dis, hl, q⟩ := h
  refine ⟨_, body cdv A outer s H E hr, _, _, start_envM (N := N) o0 nd mu o dis (by omega), ?_⟩
  rw [hl]
  have val : ∀ {σ' : St} {H' : Hp} {ρ' : Evn} {f' : Nat → List Addr} {d : D}, EnvR G H' σ' ρ' f' → Lk T (fun i => if i = 0 then F0 else []) (L2.start N (v0 :: vr)) H f' σ' H' → ρ'[(0 : Nat)]? = some (Slot.ow d) → Own G H' d v0 (f' 0) := fun {σ' H' ρ' f' d} E' l h => by
    obtain ⟨v, hv, ov⟩ := E'.ow 0 d h
    have k0 := l.keep 0 hT
    have at0 : (L2.start N (v0 :: vr))[0]? = some (some v0) := by
      unfold L2.start
      rw [List.getElem?_append_left (by simp)]
      rfl
    rw [k0, at0] at hv
    cases hv
    exact ov
  have q : SatM G E H v0 F0 Q (outM (m (.ow d0 :: (ds.map Slot.ro ++ List.replicate (N.length - n) Slot.un)))) := q
  cases em : m (.ow d0 :: (ds.map Slot.ro ++ List.replicate (N.length - n) Slot.un)) with
  | nx ρ' =>
    rw [em] at q
    obtain ⟨d, h0, q⟩ := first_ok (P := SatM G E H v0 F0 Q) q id
    exact fun σ' H' f' E' l => q .non H' (f' 0) [] (mv_of E' l) (val E' l h0) (own_non.mpr ⟨rfl, rfl⟩) List.nodup_nil fun a ha => by cases ha
  | rt x ρ' =>
    rw [em] at q
    obtain ⟨d, h0, q⟩ := first_ok (P := SatM G E H v0 F0 Q) q id
    exact fun v σ' H' f' Fr E' l ox ndx hx => q v H' (f' 0) Fr (mv_of E' l) (val E' l h0) ox ndx fun a ha => ⟨(hx a ha).1.imp fm_zero.mp id, fun z => (hx a ha).2.1 ⟨0, z⟩, (hx a ha).2.2⟩
  | bk ρ' => rw [em] at q; exact q.elim
  | ct ρ' => rw [em] at q; exact q.elim
  | exc c ρ' =>
    rw [em] at q
    obtain ⟨d, h0, q⟩ := first_ok (P := SatM G E H v0 F0 Q) q id
    exact fun σ' H' f' E' l => q H' (f' 0) (mv_of E' l) (val E' l h0)
  | no => rw [em] at q; exact q.elim
def CalM (P : Program) (w : World) (K : PySem.W.Frag) (mg : Str → Option Value) (base : Heap) (G : Gx) (x : Str) (k n : Nat) (fm : List D → RM) : Prop :=
  ∃ (f : Addr) (fd : FuncData) (ps : List Str), mg x = some (.ref f) ∧ PySem.W.keepIn K (.ref f) = true ∧ Binds K fd ps [] ∧ FnOk P w K mg base (L2.CX P w) k f fd ps (spM G n fm)
def MetM (P : Program) (w : World) (K : PySem.W.Frag) (mg : Str → Option Value) (base : Heap) (G : Gx) (x : Str) (k n : Nat) (fm : List D → RM) : Prop :=
  ∃ (f : Addr) (fd : FuncData) (ps : List Str), Meth K G.C x f ∧ Binds K fd ps [] ∧ FnOk P w K mg base (L2.CX P w) k f fd ps (spM G n fm)
end
end Rs

set_option maxRecDepth 100000
/-! Rs17: calls that change the thing in a slot. -/
namespace Rs
open PySem PySem.Spec PyProof.Rows L2
def SatX (G : Gx) (W : WX) (r : Nat) (σ : St) (H : Hp) (f : Nat → List Addr) (ρ : Evn) (Q : VK) : RM → Prop
  | .ok d' x => ∀ v H' f' Fr, EnvR G H' σ (ρ.set r (.ow d')) f' → Lk [] f σ H f' σ H' → Own G H' x v Fr → Fr.Nodup → (∀ a ∈ Fr, (Fm f a ∨ H a = none) ∧ ¬ Fm f' a ∧ ∃ o, H' a = some o ∧ MutO o) → Q v H'
  | .exc c d' => ∀ H' f', EnvR G H' σ (ρ.set r (.ow d')) f' → Lk [] f σ H f' σ H' → W (.ref (G.cls c)) none σ H'
  | .no => False
/-- an expression that changes the thing in slot r -/
def tX (G : Gx) (W : WX) (r : Nat) (mx : Evn → RM) : TE := fun σ H Q => ∃ ρ f, EnvR G H σ ρ f ∧ SatX G W r σ H f ρ Q (mx ρ)
abbrev SX (G : Gx) (X : Cx) (W : WX) (r : Nat) (mx : Evn → RM) (e : Expr) : Prop := PE X e (tX G W r mx)
section
variable {G : Gx} {X : Cx} {W : WX} {e o : Expr} {es : List Expr} {p pos apos : Pos} {x m : Str} {ms : Evn → R (List D)} {k n r : Nat} {fm : List D → RM}
theorem mv_same {H0 H H' : Hp} {F F' : List Addr} (sm : Same H0 H) (hF : ∀ a ∈ F, ∃ o, H0 a = some o) (m : Mv H H' F F') : Mv H0 H' F F' :=
  ⟨fun b o e hb => m.st b o (sm _ _ e) hb, fun a ha => (m.nw a ha).imp id fun z => sm.free z, m.nd, m.mo⟩
/-- the call itself: what its promise gives is what the slot's reading asks -/
theorem satX_of {σ : St} {H H1 : Hp} {f : Nat → List Addr} {ρ : Evn} {Q : VK} {d : D} {v0 : V} {rm : RM} (E : EnvR G H σ ρ f) (sm : Same H H1) (hr : ρ[r]? = some (Slot.ow d)) (hv : σ[r]? = some (some v0)) (s : SatX G W r σ H f ρ Q rm) : SatM G (WE W σ) H1 v0 (f r) Q rm := by
  have hF : ∀ a ∈ f r, ∃ o, H a = some o := fun a ha => let ⟨o, e, _⟩ := E.un r a ha; ⟨o, e⟩
  cases rm with
  | ok d' y =>
    intro v H' F' Fr mv o0 ox nd hx
    have mv := mv_same sm hF mv
    obtain ⟨f', E', l, sub, fr⟩ := E.mut hr hv o0 mv.nd mv.nw mv.mo mv.st
    refine s v H' f' Fr E' l ox nd fun a ha => ⟨?_, ?_, (hx a ha).2.2⟩
    · rcases (hx a ha).1 with z | z
      · exact .inl ⟨r, z⟩
      · exact .inr (sm.free z)
    · intro z
      rcases sub a z with q | ⟨⟨j, q⟩, nq⟩
      · exact (hx a ha).2.1 q
      · rcases (hx a ha).1 with z1 | z1
        · exact nq z1
        · obtain ⟨o', e', _⟩ := E.un j a q
          have := sm _ _ e'
          rw [z1] at this; cases this
  | exc c d' =>
    intro H' F' mv o0
    have mv := mv_same sm hF mv
    obtain ⟨f', E', l, _⟩ := E.mut hr hv o0 mv.nd mv.nw mv.mo mv.st
    exact s H' f' E' l
  | no => exact s.elim
/-- the slot's thing and the further arguments, which hold nothing that can change -/
def onX (g : D → Bool) (r : Nat) (ms : Evn → R (List D)) (k : D → List D → RM) : Evn → RM := fun ρ => match ρ[r]? with
  | some (.ow d) => if g d = true then (match ms ρ with
    | .ok ds => if D.imms ds = true then k d ds else .no
    | .exc c => .exc c d
    | .no => .no) else .no
  | _ => .no
def xMeth (n : Nat) (fm : List D → RM) (r : Nat) (ms : Evn → R (List D)) : Evn → RM := onX isIns r ms fun d ds => if ds.length + 1 = n then fm (d :: ds) else .no
def xCall (n : Nat) (fm : List D → RM) (r : Nat) (ms : Evn → R (List D)) : Evn → RM := onX (fun _ => true) r ms fun d ds => if ds.length + 1 = n then fm (d :: ds) else .no
theorem onX_of {g : D → Bool} {k : D → List D → RM} {σ : St} {H : Hp} {f : Nat → List Addr} {ρ : Evn} {Q : VK} (E : EnvR G H σ ρ f) (s : SatX G W r σ H f ρ Q (onX g r ms k ρ)) :
    ∃ d v0, ρ[r]? = some (Slot.ow d) ∧ g d = true ∧ σ[r]? = some (some v0) ∧ Own G H d v0 (f r) ∧ SatG G W (fun ds => D.imms ds = true ∧ SatX G W r σ H f ρ Q (k d ds)) σ H (ms ρ) := by
  unfold onX at s
  split at s
  · rename_i d hr
    obtain ⟨v0, hv, o0⟩ := E.ow r d hr
    by_cases hg : g d = true
    rotate_left
    · rw [if_neg hg] at s; exact s.elim
    rw [if_pos hg] at s
    refine ⟨d, v0, hr, hg, hv, o0, ?_⟩
    cases em : ms ρ with
    | ok ds =>
      rw [em] at s
      by_cases hi : D.imms ds = true
      · simp only [if_pos hi] at s
        exact ⟨hi, s⟩
      · simp only [if_neg hi] at s
        exact s.elim
    | exc c =>
      rw [em] at s
      have hset : ρ.set r (.ow d) = ρ := by
        apply List.ext_getElem?
        intro i
        by_cases e : i = r
        · subst e
          rw [List.getElem?_set_self (List.getElem?_eq_some_iff.mp hr).1, hr]
        · rw [List.getElem?_set_ne (Ne.symm e)]
      exact fun H' sm => s H' f (by rw [hset]; exact E.same sm) (Lk.same sm)
    | no => rw [em] at s; exact s.elim
  · exact s.elim
theorem sx_meth {pl : Sem Bool} (r : Nat) (c : MetM X.prog X.w X.K X.mg X.base G m k n fm) (hK : X.K = G.K) (hC : ClsG G) (hm : m ∉ G.names) (tk : Takes X W) (hr : Room k X.A) (ha : SA G X W ms (e :: es))
    (hN : X.N[r]? = some x := by rfl) (hv : Vis X.env.scope x := by first | exact Or.inl rfl | exact Or.inr (Or.inl rfl) | exact Or.inr (Or.inr rfl)) (hd : (x == ("__debug__" : Str)) = false := by decide) (hcd : (x == ("__classdict__" : Str)) = false := by decide)
    (hst : starEach (e :: es) X.env = (false, eval e X.env) :: starEach es X.env := by rfl) (hpl : (backTo pos (starEach es X.env)).any (·.1) = false := by rfl)
    (ht : eval (.Call (.Attribute (.Name x p) m apos) (e :: es) [] pos) X.env = (do
      let ov ← eval (.Name x p) X.env
      standAt apos.atName
      let (f, first) ← holding [ov] (getMethod ov m pl)
      callWith pos f first (backTo pos (starEach (e :: es) X.env)) (backToKw pos (keywordEach [] X.env))) := by rfl) :
    SX G X W r (xMeth n fm r ms) (.Call (.Attribute (.Name x p) m apos) (e :: es) [] pos) := by
  obtain ⟨f, fd, ps, hM, hb, F⟩ := c
  refine PE.imp (pe_methS (pl := pl) (pe_var hN hv hd hcd) (by rw [hK]; exact hC.cl) hM F hr hb (fun σ => passAt tk σ) ha hst hpl ht) fun σ H Q ⟨ρ, ff, E, s⟩ => ?_
  obtain ⟨d, v0, h1, hi, h2, o0, s⟩ := onX_of E s
  obtain ⟨a, dx, fs, rfl, ha', hl⟩ := ins_at hi o0 hC hm
  refine ⟨.ref a, h2, a, dx, fs, rfl, ha', hl, ρ, E.p, SatG.imp s fun ds _ ⟨im, q⟩ vs H2 F2 sm o2 => ?_⟩
  have e2 := ownL_imm ds vs F2 im o2
  subst e2
  by_cases hn : ds.length + 1 = n
  · rw [if_pos hn] at q
    exact ⟨d, .ref a, ff r, ds, vs, [], rfl, own_same sm o0, E.nd r, fun b hb => let ⟨o, e, m⟩ := E.un r b hb; ⟨o, sm _ _ e, m⟩, o2, fun z hz => (by cases hz), hn, satX_of E sm h1 h2 q⟩
  · rw [if_neg hn] at q
    exact q.elim
theorem sx_call (r : Nat) {y : Str} {py : Pos} (c : CalM X.prog X.w X.K X.mg X.base G x k n fm) (tk : Takes X W) (hr : Room k X.A) (hg : Gl X x) (ha : SA G X W ms es)
    (hN : X.N[r]? = some y := by rfl) (hv : Vis X.env.scope y := by first | exact Or.inl rfl | exact Or.inr (Or.inl rfl) | exact Or.inr (Or.inr rfl)) (hd : (y == ("__debug__" : Str)) = false := by decide) (hcd : (y == ("__classdict__" : Str)) = false := by decide)
    (hdb : (x == ("__debug__" : Str)) = false := by decide) (he : starEach (.Name y py :: es) X.env = (false, eval (.Name y py) X.env) :: starEach es X.env := by rfl) (hpl : (backTo pos (starEach es X.env)).any (·.1) = false := by rfl) :
    SX G X W r (xCall n fm r ms) (.Call (.Name x p) (.Name y py :: es) [] pos) := by
  obtain ⟨f, fd, ps, hm, hk, hb, F⟩ := c
  refine PE.imp (pe_callS F hr hg hm hk hb (fun σ => passAt tk σ) (pa_cons (pe_var hN hv hd hcd) ha he) hdb he hpl) fun σ H Q ⟨ρ, ff, E, s⟩ => ?_
  obtain ⟨d, v0, h1, _, h2, o0, s⟩ := onX_of E s
  refine ⟨v0, h2, ρ, E.p, SatG.imp s fun ds _ ⟨im, q⟩ vs H2 F2 sm o2 => ?_⟩
  have e2 := ownL_imm ds vs F2 im o2
  subst e2
  by_cases hn : ds.length + 1 = n
  · rw [if_pos hn] at q
    exact ⟨d, v0, ff r, ds, vs, [], rfl, own_same sm o0, E.nd r, fun b hb => let ⟨o, e, m⟩ := E.un r b hb; ⟨o, sm _ _ e, m⟩, o2, fun z hz => (by cases hz), hn, satX_of E sm h1 h2 q⟩
  · rw [if_neg hn] at q
    exact q.elim
/-! ### statements with such a call -/
def RM.toS (rm : RM) (r : Nat) (ρ : Evn) (k : D → Evn → RS) : RS := match rm with
  | .ok d' x => k x (ρ.set r (.ow d'))
  | .exc c d' => .exc c (ρ.set r (.ow d'))
  | .no => .no
def xDrop (r : Nat) (mx : Evn → RM) : Evn → RS := fun ρ => (mx ρ).toS r ρ fun _ ρ' => .nx ρ'
theorem ss_exprX (r : Nat) {mx : Evn → RM} (h : SX G X W r mx e) (hs : swapsWith e none pos.line X.env = pure false := by rfl) : SS G X W [] (xDrop r mx) (.Expr e pos) := PS.imp (ps_expr h hs) fun D σ H ⟨ρ, f, E, s⟩ => ⟨ρ, f, E, by
  unfold xDrop at s
  cases em : mx ρ with
  | ok d' y => rw [em] at s; exact fun v H' f' Fr E' l _ _ _ => s σ H' f' E' l
  | exc c d' => rw [em] at s; exact fun H' f' E' l => s σ H' f' E' l
  | no => rw [em] at s; exact s.elim⟩
def xRet (r : Nat) (mx : Evn → RM) : Evn → RS := fun ρ => (mx ρ).toS r ρ fun x ρ' => .rt x ρ'
theorem ss_retX (r : Nat) {mx : Evn → RM} (h : SX G X W r mx e) : SS G X W [] (xRet r mx) (.Return (some e) pos) := PS.imp (ps_ret h) fun D σ H ⟨ρ, f, E, s⟩ => ⟨ρ, f, E, by
  unfold xRet at s
  cases em : mx ρ with
  | ok d' y => rw [em] at s; exact fun v H' f' Fr E' l ox nd hx => s v σ H' f' Fr E' l ox nd hx
  | exc c d' => rw [em] at s; exact fun H' f' E' l => s σ H' f' E' l
  | no => rw [em] at s; exact s.elim⟩
end
end Rs

set_option maxRecDepth 100000
/-! Rs18: assignments of such a call, tests with such a call. -/
namespace Rs
open PySem PySem.Spec PyProof.Rows L2
theorem EnvR.setX {G : Gx} {H H1 : Hp} {σ : St} {ρ : Evn} {f f1 : Nat → List Addr} {r i : Nat} {d' x : D} {v : V} {F : List Addr} (E : EnvR G H σ ρ f) (E1 : EnvR G H1 σ (ρ.set r (.ow d')) f1) (l : Lk [] f σ H f1 σ H1) (o : Own G H1 x v F) (nd : F.Nodup)
    (fr : ∀ a ∈ F, (Fm f a ∨ H a = none) ∧ ¬ Fm f1 a ∧ ∃ o, H1 a = some o ∧ MutO o) : ∃ f2, EnvR G H1 (σ.set i (some v)) ((ρ.set r (.ow d')).set i (.ow x)) f2 ∧ Lk [i] f σ H f2 (σ.set i (some v)) H1 := by
  by_cases hi : i < ρ.length
  · have hi' : i < (ρ.set r (.ow d')).length := by simpa using hi
    have hσ : i < σ.length := by rw [E.len]; exact hi
    refine ⟨fun j => if j = i then F else f1 j, ⟨by simp [E.len], fun j d2 h => ?_, fun j d2 h => ?_, fun j h => ?_, fun j => ?_, fun j k a h1 h2 => ?_, fun j a h => ?_⟩, ⟨l.step, fun a ⟨j, h⟩ => ?_, fun j hj => ?_⟩⟩
    · by_cases e : j = i
      · subst e
        rw [List.getElem?_set_self hi'] at h
        cases h
        exact ⟨v, List.getElem?_set_self hσ, by simpa using o⟩
      · rw [List.getElem?_set_ne (Ne.symm e)] at h
        obtain ⟨v', e1, o1⟩ := E1.ow j d2 h
        exact ⟨v', by rw [List.getElem?_set_ne (Ne.symm e)]; exact e1, by simpa [e] using o1⟩
    · by_cases e : j = i
      · subst e
        rw [List.getElem?_set_self hi'] at h
        cases h
      · rw [List.getElem?_set_ne (Ne.symm e)] at h
        have hρ : ρ[j]? = some (.ro d2) := by
          by_cases er : j = r
          · subst er
            by_cases hr : j < ρ.length
            · rw [List.getElem?_set_self hr] at h; cases h
            · rw [List.set_eq_of_length_le (Nat.not_lt.mp hr)] at h; exact h
          · rw [List.getElem?_set_ne (Ne.symm er)] at h; exact h
        obtain ⟨v', K, e1, o1, q⟩ := E.ro j d2 hρ
        have nf : ∀ a ∈ K, ¬ Fm f a := fun a ha ⟨z, hz⟩ => q a ha z hz
        refine ⟨v', K, by rw [List.getElem?_set_ne (Ne.symm e)]; exact e1, l.step.own nf o1, fun a ha k hk => ?_⟩
        obtain ⟨o', e'⟩ := own_there d2 v' K o1 a ha
        split at hk
        · rcases (fr a hk).1 with z | z
          · exact nf a ha z
          · rw [z] at e'; cases e'
        · rcases l.new a ⟨k, hk⟩ with z | z
          · exact nf a ha z
          · rw [z] at e'; cases e'
    · by_cases e : j = i
      · subst e
        exact absurd (List.getElem?_set_self hi') (h x)
      · simp only [e, if_false]
        exact E1.nil j fun d2 q => h d2 (by rw [List.getElem?_set_ne (Ne.symm e)]; exact q)
    · split
      · exact nd
      · exact E1.nd j
    · split at h1
      · split at h2
        · omega
        · exact absurd ⟨k, h2⟩ (fr a h1).2.1
      · split at h2
        · exact absurd ⟨j, h1⟩ (fr a h2).2.1
        · exact E1.dj j k a h1 h2
    · split at h
      · exact (fr a h).2.2
      · exact E1.un j a h
    · dsimp only at h
      split at h
      · exact (fr a h).1
      · exact l.new a ⟨j, h⟩
    · rw [List.getElem?_set_ne (fun z => hj (by simp [z]))]
  · have h1 : (ρ.set r (.ow d')).length ≤ i := by simpa using Nat.not_lt.mp hi
    have h2 : σ.length ≤ i := by rw [E.len]; exact Nat.not_lt.mp hi
    rw [List.set_eq_of_length_le h1, List.set_eq_of_length_le h2]
    exact ⟨f1, E1, l.mono fun j h => by cases h⟩
section
variable {G : Gx} {X : Cx} {W : WX} {e a b : Expr} {es rest : List Expr} {pos : Pos} {x : Str} {r : Nat} {mx : Evn → RM} {mb : Evn → R D} {T T' : List Nat} {s1 s2 : List Stmt} {ms mt : Evn → RS}
def xSet (i r : Nat) (mx : Evn → RM) : Evn → RS := fun ρ => (mx ρ).toS r ρ fun x ρ' => .nx (ρ'.set i (.ow x))
theorem ss_setX (i r : Nat) {pos' : Pos} (hN : X.N.Nodup) (h : SX G X W r mx e) (hi : X.N[i]? = some x := by rfl) (hx : Loc X.env.scope x := by first | exact Or.inl rfl | exact Or.inr rfl) (hs : swapsWith e (some (.Name x pos')) pos.line X.env = pure false := by rfl) (hf : X.fn x = true ∨ X.env.scope.names.lookup x = some .local := by first | exact .inl rfl | exact .inr rfl | assumption) :
    SS G X W [i] (xSet i r mx) (.Assign [.Name x pos'] e pos) := PS.imp (ps_set hN hi hx h hs hf) fun D σ H ⟨ρ, f, E, s⟩ => ⟨ρ, f, E, by
  unfold xSet at s
  cases em : mx ρ with
  | ok d' y =>
    rw [em] at s
    exact fun v H' f' Fr E' l ox nd hx => let ⟨f2, E2, l2⟩ := E.setX (i := i) E' l ox nd hx; s _ H' f2 E2 l2
  | exc c d' => rw [em] at s; exact fun H' f' E' l => s σ H' f' E' (l.mono fun j h => by cases h)
  | no => rw [em] at s; exact s.elim⟩
/-- compared -/
def xCmp (g : D → D → R D) (r : Nat) (mx : Evn → RM) (mb : Evn → R D) : Evn → RM := fun ρ => match mx ρ with
  | .ok d' y => match mb (ρ.set r (.ow d')) with
    | .ok z => match g y z with
      | .ok d => .ok d' d
      | _ => .no
    | _ => .no
  | .exc c d' => .exc c d'
  | .no => .no
theorem xCmp_of {g : D → D → R D} {rr : R2} (hd : OpD G rr g) {σ : St} {H : Hp} {f : Nat → List Addr} {ρ : Evn} {Q : VK} (E : EnvR G H σ ρ f) (s : SatX G W r σ H f ρ Q (xCmp g r mx mb ρ)) : tOp rr (tX G W r mx) (tE G W mb) σ H Q := by
  refine ⟨ρ, f, E, ?_⟩
  unfold xCmp at s
  cases em : mx ρ with
  | ok d' y =>
    rw [em] at s
    intro v1 H1 f1 Fr E1 l1 o1 nd1 fr1
    refine ⟨ρ.set r (.ow d'), E1.p, ?_⟩
    dsimp only at s
    cases eb : mb (ρ.set r (.ow d')) with
    | ok z =>
      rw [eb] at s
      intro v2 H2 F2 sm2 o2
      refine hd y z v1 v2 Fr F2 H2 _ (own_same sm2 o1) o2 ?_
      dsimp only at s
      cases hg : g y z with
      | ok d =>
        rw [hg] at s
        intro v H' F sm o nd frs
        have sm3 := sm2.trans sm
        refine s v H' f1 F (E1.same sm3) (l1.tr (Lk.same sm3)) o nd fun q hq => ⟨?_, ?_, (frs q hq).2⟩
        · exact l1.free (sm2.free (frs q hq).1)
        · exact not_fm E1 (fun z hz => sm2.free (frs z hz).1) q hq
      | exc c => rw [hg] at s; exact s.elim
      | no => rw [hg] at s; exact s.elim
    | exc c => rw [eb] at s; exact s.elim
    | no => rw [eb] at s; exact s.elim
  | exc c d' => rw [em] at s; exact s
  | no => rw [em] at s; exact s.elim
theorem sx_cmp {op : CmpOp} {g : D → D → R D} {rr : R2} (r : Nat) (ho : OpR X (compareOp op) rr) (hd : OpD G rr g) (ha : SX G X W r mx a) (hb : SE G X W mb b) (hm : behindInMarks op b = false) : SX G X W r (xCmp g r mx mb) (.Compare a [op] [b] pos) :=
  PE.imp (pe_cmpR ho ha hb hm) fun σ H Q ⟨ρ, f, E, s⟩ => xCmp_of hd E s
/-! ### tests that change something -/
inductive RB where
  | ok (b : Bool) (ρ : Evn) | exc (c : Nat) (ρ : Evn) | no
def SatB (G : Gx) (W : WX) (σ : St) (H : Hp) (f : Nat → List Addr) (Q : Bool → Hp → Prop) : RB → Prop
  | .ok b ρ' => ∀ H' f', EnvR G H' σ ρ' f' → Lk [] f σ H f' σ H' → Q b H'
  | .exc c ρ' => ∀ H' f', EnvR G H' σ ρ' f' → Lk [] f σ H f' σ H' → W (.ref (G.cls c)) none σ H'
  | .no => False
def tTX (G : Gx) (W : WX) (cx : Evn → RB) : TT := fun σ H Q => ∃ ρ f, EnvR G H σ ρ f ∧ SatB G W σ H f Q (cx ρ)
abbrev STX (G : Gx) (X : Cx) (W : WX) (cx : Evn → RB) (e : Expr) : Prop := PT X e (tTX G W cx)
abbrev SWX (G : Gx) (X : Cx) (W : WX) (cx : Evn → RB) (e : Expr) : Prop := PW X e (tTX G W cx)
def RM.toB (rm : RM) (r : Nat) (ρ : Evn) : RB := match rm with
  | .ok d' (.bl b) => .ok b (ρ.set r (.ow d'))
  | .exc c d' => .exc c (ρ.set r (.ow d'))
  | _ => .no
def bX (r : Nat) (mx : Evn → RM) : Evn → RB := fun ρ => (mx ρ).toB r ρ
theorem satB_of {σ : St} {H : Hp} {f : Nat → List Addr} {ρ : Evn} {Q : Bool → Hp → Prop} {rm : RM} (s : SatB G W σ H f Q (rm.toB r ρ)) : SatX G W r σ H f ρ (fun x H' => ∃ k, x = .bl k ∧ Q k H') rm := by
  unfold RM.toB at s
  split at s
  · intro v H' f' Fr E' l o nd fr
    obtain ⟨rfl, _⟩ := own_bl.mp o
    exact ⟨_, rfl, s H' f' E' l⟩
  · exact s
  · exact s.elim
theorem stx_val (r : Nat) (h : SX G X W r mx e) (he : ∀ whole, isTrue e X.env whole = (do let v ← whole; standAt e.pos; holding [v] (truthy v)) := by intro _; rfl) : STX G X W (bX r mx) e :=
  PT.imp (pt_val h he) fun σ H Q ⟨ρ, f, E, s⟩ => ⟨ρ, f, E, satB_of s⟩
theorem stx_cmp {op : CmpOp} {g : D → D → R D} {rr : R2} (r : Nat) (ho : OpR X (compareOp op) rr) (hd : OpD G rr g) (ha : SX G X W r mx a) (hb : SE G X W mb b) (hm : behindInMarks op b = false) : STX G X W (bX r (xCmp g r mx mb)) (.Compare a [op] [b] pos) :=
  PT.imp (pt_cmpR ho ha hb hm) fun σ H Q ⟨ρ, f, E, s⟩ => xCmp_of hd E (satB_of s)
def bPure (c : Evn → R Bool) : Evn → RB := fun ρ => match c ρ with
  | .ok b => .ok b ρ
  | .exc c => .exc c ρ
  | .no => .no
theorem stx_pure {c : Evn → R Bool} (h : ST G X W c e) : STX G X W (bPure c) e := PT.imp h fun σ H Q ⟨ρ, f, E, s⟩ => ⟨ρ, E.p, by
  unfold bPure at s
  cases ec : c ρ with
  | ok b => rw [ec] at s; exact fun H' sm => s H' f (E.same sm) (Lk.same sm)
  | exc c => rw [ec] at s; exact fun H' sm => s H' f (E.same sm) (Lk.same sm)
  | no => rw [ec] at s; exact s.elim⟩
def RB.thn (rb : RB) (k : Bool → Evn → RB) : RB := match rb with
  | .ok b ρ => k b ρ
  | .exc c ρ => .exc c ρ
  | .no => .no
theorem SatB.thn {σ : St} {H : Hp} {f : Nat → List Addr} {Q : Bool → Hp → Prop} {rb : RB} {k : Bool → Evn → RB} (s : SatB G W σ H f Q (rb.thn k)) : ∀ {P : Bool → Hp → Prop}, (∀ b ρ' H' f', EnvR G H' σ ρ' f' → Lk [] f σ H f' σ H' → SatB G W σ H' f' Q (k b ρ') → P b H') → SatB G W σ H f P rb := by
  intro P next
  have later : ∀ {b ρ' H' f'}, SatB G W σ H f Q (k b ρ') → Lk [] f σ H f' σ H' → SatB G W σ H' f' Q (k b ρ') := fun {b ρ' H' f'} q l => by
    cases ek : k b ρ' with
    | ok b2 ρ2 => rw [ek] at q; exact fun H2 f2 E2 l2 => q H2 f2 E2 (l.tr l2)
    | exc c ρ2 => rw [ek] at q; exact fun H2 f2 E2 l2 => q H2 f2 E2 (l.tr l2)
    | no => rw [ek] at q; exact q
  cases rb with
  | ok b ρ' => exact fun H' f' E' l => next b ρ' H' f' E' l (later s l)
  | exc c ρ' => exact s
  | no => exact s
def bNot (c : Evn → RB) : Evn → RB := fun ρ => (c ρ).thn fun b ρ' => .ok (!b) ρ'
theorem stx_not {cx : Evn → RB} (h : STX G X W cx a) : STX G X W (bNot cx) (.UnaryOp .Not a pos) :=
  PT.imp (pt_not h) fun σ H Q ⟨ρ, f, E, s⟩ => ⟨ρ, f, E, SatB.thn s fun b ρ' H' f' E' l q => q H' f' E' Lk.refl⟩
def bAnd (c1 c2 : Evn → RB) : Evn → RB := fun ρ => (c1 ρ).thn fun b ρ' => if b = true then c2 ρ' else .ok false ρ'
theorem swx_and1 {cx : Evn → RB} (h : STX G X W cx a) : SWX G X W cx (.BoolOp .And [a] pos) := pw_and1 h
theorem swx_and {c1 c2 : Evn → RB} (h1 : STX G X W c1 a) (h2 : SWX G X W c2 (.BoolOp .And (b :: rest) pos)) : SWX G X W (bAnd c1 c2) (.BoolOp .And (a :: b :: rest) pos) :=
  PW.imp (pw_and h1 h2) fun σ H Q ⟨ρ, f, E, s⟩ => ⟨ρ, f, E, SatB.thn s fun b ρ' H' f' E' l q => by
    cases b with
    | true => exact ⟨ρ', f', E', q⟩
    | false => exact q H' f' E' Lk.refl⟩
theorem stx_w {cx : Evn → RB} (h : SWX G X W cx e) : STX G X W cx e := h.pt
def xIf (c : Evn → RB) (m1 m2 : Evn → RS) : Evn → RS := fun ρ => match c ρ with
  | .ok b ρ' => if b = true then m1 ρ' else m2 ρ'
  | .exc c ρ' => .exc c ρ'
  | .no => .no
theorem ss_ifX {cx : Evn → RB} {c : Expr} (hc : STX G X W cx c) (h1 : SSs G X W T ms s1) (h2 : SSs G X W T' mt s2) : SS G X W (T ++ T') (xIf cx ms mt) (.If c s1 s2 pos) := PS.imp (ps_if hc h1 h2) fun D σ H ⟨ρ, f, E, s⟩ => ⟨ρ, f, E, by
  unfold xIf at s
  cases ec : cx ρ with
  | ok b ρ' =>
    rw [ec] at s
    intro H' f' E' l
    have s := s.later (l.mono (T' := T ++ T') fun j h => by cases h)
    cases b with
    | true => exact ⟨ρ', f', E', SatS.less s fun j h => List.mem_append_left _ h⟩
    | false => exact ⟨ρ', f', E', SatS.less s fun j h => List.mem_append_right _ h⟩
  | exc c ρ' => rw [ec] at s; exact fun H' f' E' l => s σ H' f' E' (l.mono fun j h => by cases h)
  | no => rw [ec] at s; exact s.elim⟩
end
end Rs

set_option maxRecDepth 100000
/-! Rs19: raise; self.f = e. -/
namespace Rs
open PySem PySem.Spec PyProof.Rows L2
theorem putF_new {f : Str} {y : V} : ∀ {fs : List (Str × V)}, f ∉ fs.map (·.1) → putF f y fs = fs ++ [(f, y)]
  | [], _ => rfl
  | p :: fs, h => by
    simp only [List.map_cons, List.mem_cons, not_or] at h
    show (if p.1 = f then _ else p :: putF f y fs) = _
    rw [if_neg (Ne.symm h.1), putF_new h.2]
    rfl
section
variable {G : Gx} {X : Cx} {W : WX} {e : Expr} {pos pos' p p2 : Pos} {x m fn : Str} {r : Nat} {mv : Evn → R D} {j : Nat}
theorem ss_raise {B newId initId : String} {bmB : List Value} {C : Addr} (c : Nat) (F : ExcBaseFacts B newId initId bmB) (q : PySem.W.excIn X.K C bmB newId = true) (gC : X.mg x = some (.ref C)) (kC : PySem.W.keepIn X.K (.ref C) = true) (rs : Raises X (.ref C)) (hC : G.cls c = C) (hc : X.calm = true) (tk : Takes X W) (hg : Gl X x := by rfl)
    (hdb : (x == ("__debug__" : Str)) = false := by decide) : SS G X W [] (fun ρ => .exc c ρ) (.Raise (some (.Call (.Name x p) [.Constant (.str m) j p2] [] pos')) none pos) :=
  PS.imp (ps_raise hc tk (pmk_own F q gC kC rs hg hdb)) fun D σ H ⟨ρ, f, E, s⟩ => by
    have := s σ H f E Lk.refl
    rw [hC] at this
    exact this
/-- self.f = e, a new attribute -/
def xFld (i r : Nat) (mv : Evn → R D) : Evn → RS := fun ρ => match ρ[r]? with
  | some (.ow (.node .ins xs)) => (mv ρ).toS ρ fun d => if xs.length = i then .nx (ρ.set r (.ow (.node .ins (xs ++ [d])))) else .no
  | _ => .no
theorem ss_fld (i r : Nat) (hK : X.K = G.K) (hC : ClsG G) (hi : G.names[i]? = some fn) (hsm : G.names.length < 1000) (he : SF G X W mv e) (hN : X.N[r]? = some x := by rfl) (hv : Vis X.env.scope x := by first | exact Or.inl rfl | exact Or.inr (Or.inl rfl) | exact Or.inr (Or.inr rfl))
    (hd : (x == ("__debug__" : Str)) = false := by decide) (hcd : (x == ("__classdict__" : Str)) = false := by decide) (hs : swapsWith e (some (.Attribute (.Name x p) fn pos')) pos.line X.env = pure false := by rfl) :
    SS G X W [] (xFld i r mv) (.Assign [.Attribute (.Name x p) fn pos'] e pos) := PS.imp (ps_fld (pe_var hN hv hd hcd) he hs) fun D σ H ⟨ρ, f, E, s⟩ => by
  unfold xFld at s
  split at s
  · rename_i xs hr
    obtain ⟨v0, h2, o0⟩ := E.ow r _ hr
    refine ⟨ρ, E.p, (SatS.toS s E).imp fun d _ ⟨_, s1⟩ v H1 Fx sm ox ndx frx => ⟨v0, h2, ?_⟩⟩
    by_cases hl : xs.length = i
    · rw [if_pos hl] at s1
      obtain ⟨a, vs, F1, rfl, ⟨dx, fs, ha, hf, hvs⟩, ol, ef⟩ := own_node.mp o0
      have lv := ownL_len ol
      have ilt : i < G.names.length := (List.getElem?_eq_some_iff.mp hi).1
      have hfs : fs.map (·.1) = G.names.take i := by rw [hf, lv, hl]
      have flen : fs.length = i := by
        have := congrArg List.length hfs
        simpa [Nat.min_eq_left (Nat.le_of_lt ilt)] using this
      have nin : fn ∉ fs.map (·.1) := by
        rw [hfs]
        intro q
        obtain ⟨k, hk, ek⟩ := List.mem_iff_getElem.mp q
        rw [List.length_take] at hk
        rw [List.getElem_take] at ek
        have e2 := (List.getElem?_eq_some_iff.mp hi).2
        have := (List.getElem_inj (hC.nd)).mp (ek.trans e2.symm)
        omega
      refine ⟨a, G.C, dx, fs, rfl, sm _ _ ha, by rw [hK]; exact hC.cl, by rw [hK]; exact hC.no fn (List.mem_of_getElem? hi), by omega, ?_⟩
      rw [putF_new nin]
      have hm : Hd.ins.mu = true := rfl
      rw [if_pos hm] at ef
      have nd := E.nd r
      rw [ef] at nd
      have ha1 : a ∉ F1 := (List.nodup_cons.mp nd).1
      have hmu : ∃ u, H1 a = some u ∧ MutO u := ⟨_, sm _ _ ha, trivial⟩
      have hax : a ∉ Fx := fun z => by have := (frx a z).1; rw [ha] at this; cases this
      have inF : ∀ z ∈ F1, z ∈ f r := fun z hz => by rw [ef]; exact List.mem_cons_of_mem _ hz
      have q1 : Own G (upd H1 a (.ins G.C dx (fs ++ [(fn, v)]))) (.node .ins (xs ++ [d])) (.ref a) (a :: (F1 ++ Fx)) := by
        refine own_node.mpr ⟨a, vs ++ [v], F1 ++ Fx, rfl, ⟨dx, fs ++ [(fn, v)], upd_same, ?_, ?_⟩, ownL_append (ownL_upd hmu ha1 (ownL_same sm ol)) (ownL_one (own_updv hmu hax ox)), rfl⟩
        · rw [List.map_append, hfs, List.length_append, lv, hl]
          have : G.names.take (i + 1) = G.names.take i ++ [fn] := by
            rw [List.take_succ_eq_append_getElem ilt, (List.getElem?_eq_some_iff.mp hi).2]
          simpa using this.symm
        · rw [List.map_append, hvs]
          rfl
      have q2 : (a :: (F1 ++ Fx)).Nodup := by
        refine List.nodup_cons.mpr ⟨fun z => (List.mem_append.mp z).elim ha1 hax, List.nodup_append.mpr ⟨(List.nodup_cons.mp nd).2, ndx, fun p hp q hq e => ?_⟩⟩
        subst e
        obtain ⟨o', e', _⟩ := E.un r p (inF p hp)
        rw [(frx p hq).1] at e'; cases e'
      have q3 : ∀ z ∈ a :: (F1 ++ Fx), z ∈ f r ∨ H z = none := by
        intro z hz
        rcases List.mem_cons.mp hz with rfl | hz
        · exact .inl (by rw [ef]; exact List.mem_cons_self)
        · rcases List.mem_append.mp hz with q | q
          · exact .inl (inF z q)
          · exact .inr (frx z q).1
      have q4 : ∀ z ∈ a :: (F1 ++ Fx), ∃ o, upd H1 a (.ins G.C dx (fs ++ [(fn, v)])) z = some o ∧ MutO o := by
        intro z hz
        by_cases e : z = a
        · subst e; exact ⟨_, upd_same, trivial⟩
        · rcases List.mem_cons.mp hz with q | hz
          · exact absurd q e
          · rcases List.mem_append.mp hz with q | q
            · obtain ⟨o', e', m⟩ := E.un r z (inF z q)
              exact ⟨o', by rw [upd_ne e]; exact sm _ _ e', m⟩
            · obtain ⟨o', e', m⟩ := (frx z q).2
              exact ⟨o', by rw [upd_ne e]; exact e', m⟩
      have q5 : ∀ b o, H b = some o → b ∉ f r → upd H1 a (.ins G.C dx (fs ++ [(fn, v)])) b = some o := by
        intro b o e hb
        have : b ≠ a := fun q => hb (by rw [ef, q]; exact List.mem_cons_self)
        rw [upd_ne this]
        exact sm _ _ e
      obtain ⟨f', E', l, _⟩ := E.mut hr h2 q1 q2 q3 q4 q5
      exact s1 _ _ _ E' l
    · rw [if_neg hl] at s1
      exact s1.elim
  · exact s.elim
end
end Rs

set_option maxRecDepth 100000
/-! Rs20: objects made. -/
namespace Rs
open PySem PySem.Spec PyProof.Rows L2
section
variable {G : Gx} {X : Cx} {W : WX} {e : Expr} {es : List Expr} {pos p : Pos} {x : Str} {ms : Evn → R (List D)} {k n : Nat} {fm : List D → RM} {CX : CXT} {C f : Addr} {fd : FuncData} {ps : List Str} {sp : Sp} {t : TA}
theorem make_at {pins : List (Addr × Obj)} {σ : St} {H : Hp} {s : Shared} {Q : VK} {us : List Value} {vs : List V} {E : XK} (M : Mk X.K C f) (F : FnOk X.prog X.w X.K X.mg X.base CX k f fd ps sp) (hr : Room (k + 1) X.A) (hb : Binds X.K fd ps [])
    (hx : PassesAt CX X σ E) (I : Inv X pins σ H s) (r : Vals vs us) (h : ∀ a dx, H a = none → H dx = none → dx ≠ a → sp (.ref a :: vs) (upd (upd H dx (.own a)) a (.ins C dx [])) (fun v H2 => v = .non ∧ Q (.ref a) H2) E) :
    wpAny (model X.prog X.w) X.A (call (.ref C) us) (EP X pins σ Q) X.xe s := by
  have ne : s.heap.objs.size ≠ s.heap.objs.size + 1 := Nat.ne_of_lt (Nat.lt_succ_self _)
  have q0 := h (s.heap.objs.size + 1) s.heap.objs.size (I.hok.fresh (Nat.le_succ _)) (I.hok.fresh (Nat.le_refl _)) ne
  have J := Inv.made (C := C) I; have rr : Vals (V.ref (s.heap.objs.size + 1) :: vs) (Value.ref (s.heap.objs.size + 1) :: us) := .cons rfl r
  have hl : (Value.ref (s.heap.objs.size + 1) :: us).length = ps.length := (rr.length.symm).trans (F.len _ _ _ _ q0)
  have bd := hb _ (Value.ref (s.heap.objs.size + 1) :: us) J.kIn (by rw [List.append_nil]; exact hl)
  rw [List.append_nil] at bd
  have run := F.run _ X.stack _ _ ⟨Value.ref (s.heap.objs.size + 1) :: us, []⟩ _ _ _ E (hr.make C us []) (J.env0.make C us []) bd rr q0
  refine wpAny_call (make_map (f := f) I.kIn M.makes M.init (beq_iff_eq.mp M.fn) (codeAny_mono run fun z s' hz => ?_))
  cases z with
  | error e => exact hx pins _ _ e s' J hz
  | ok fl =>
    cases fl with
    | ret u =>
      obtain ⟨v, H', I3, rv, ev, q3⟩ := J.after hz; subst ev
      exact ⟨rv, V.ref (s.heap.objs.size + 1), H', I3, rfl, q3⟩
    | _ => exact False.elim hz
def tMakeS (C : Addr) (sp : Sp) (E : St → XK) (t : TA) : TE := fun σ H Q => t σ H fun vs H1 => ∀ a dx, H1 a = none → H1 dx = none → dx ≠ a → sp (.ref a :: vs) (upd (upd H1 dx (.own a)) a (.ins C dx [])) (fun v H2 => v = .non ∧ Q (.ref a) H2) (E σ)
theorem pe_makeS {E : St → XK} (M : Mk X.K C f) (F : FnOk X.prog X.w X.K X.mg X.base CX k f fd ps sp) (hr : Room (k + 1) X.A) (hg : Gl X x) (hm : X.mg x = some (.ref C)) (hb : Binds X.K fd ps []) (hx : ∀ σ, PassesAt CX X σ (E σ)) (ha : PA X (e :: es) t)
    (hdb : (x == ("__debug__" : Str)) = false := by decide) (he : starEach (e :: es) X.env = (false, eval e X.env) :: starEach es X.env := by rfl) (hpl : (backTo pos (starEach es X.env)).any (·.1) = false := by rfl) : PE X (.Call (.Name x p) (e :: es) [] pos) (tMakeS C sp E t) :=
  ⟨fun pins s σ H Q I h => wpAny_Call_Name_kw (ld_glob I hg hm (PySem.W.callWith_K (h₀ := X.base) I.ok.mod.kin M.kp (thn (ha.run pos pins s σ H _ I h) fun us s1 ⟨vs, H1, I1, r, q⟩ => ⟨I1.kIn, make_at M F hr hb (hx σ) I1 r q⟩) he hpl) hdb)⟩
/-- the thing that __init__ leaves -/
def madeD : RM → R D
  | .ok d' .non => .ok d'
  | .exc c _ => .exc c
  | _ => .no
def mMake (n : Nat) (fm : List D → RM) (ms : Evn → R (List D)) : Evn → R D := fun ρ => (ms ρ).bind fun ds => if D.imms ds = true ∧ ds.length + 1 = n then madeD (fm (.node .ins [] :: ds)) else .no
theorem made_of {σ : St} {H H1 : Hp} {Q : VK} {rm : RM} {a dx : Addr} (sm : Same H H1) (ha : H1 a = none) (hd : H1 dx = none) (hne : dx ≠ a) (s : SatF G W (madeD rm) σ H Q) :
    SatM G (WE W σ) (upd (upd H1 dx (.own a)) a (.ins G.C dx [])) (.ref a) [a] (fun v H2 => v = .non ∧ Q (.ref a) H2) rm := by
  have same : ∀ {H' : Hp} {F' : List Addr}, Mv (upd (upd H1 dx (.own a)) a (.ins G.C dx [])) H' [a] F' → Same H H' := fun {H' F'} mv b o e => by
    have e1 := sm _ _ e
    have na : b ≠ a := fun q => by rw [q, ha] at e1; cases e1
    have nd : b ≠ dx := fun q => by rw [q, hd] at e1; cases e1
    exact mv.st b o (by rw [upd_ne na, upd_ne nd]; exact e1) (by simpa using na)
  cases rm with
  | ok d' y =>
    cases y with
    | non =>
      intro v H' F' Fr mv o0 ox _ _
      obtain ⟨rfl, _⟩ := own_non.mp ox
      refine ⟨rfl, s (.ref a) H' F' (same mv) o0 mv.nd fun z hz => ⟨?_, mv.mo z hz⟩⟩
      rcases mv.nw z hz with q | q
      · rw [List.mem_singleton.mp q]; exact sm.free ha
      · by_cases e1 : z = a
        · rw [e1]; exact sm.free ha
        · by_cases e2 : z = dx
          · rw [e2]; exact sm.free hd
          · rw [upd_ne e1, upd_ne e2] at q; exact sm.free q
    | _ => exact s.elim
  | exc c d' => exact fun H' F' mv o0 => s H' (same mv)
  | no => exact s.elim
theorem sf_make (hK : X.K = G.K) (M : Mk X.K G.C f) (F : FnOk X.prog X.w X.K X.mg X.base (L2.CX X.prog X.w) k f fd ps (spM G n fm)) (hb : Binds X.K fd ps []) (tk : Takes X W) (hr : Room (k + 1) X.A) (hg : Gl X x) (hm : X.mg x = some (.ref G.C)) (ha : SA G X W ms (e :: es))
    (hdb : (x == ("__debug__" : Str)) = false := by decide) (he : starEach (e :: es) X.env = (false, eval e X.env) :: starEach es X.env := by rfl) (hpl : (backTo pos (starEach es X.env)).any (·.1) = false := by rfl) : SF G X W (mMake n fm ms) (.Call (.Name x p) (e :: es) [] pos) :=
  PE.imp (pe_makeS M F hr hg hm hb (fun σ => passAt tk σ) ha hdb he hpl) fun σ H Q ⟨ρ, E, s⟩ => ⟨ρ, E, by
    refine (SatG.bind s).imp fun ds _ ⟨_, q⟩ vs H1 F1 sm o => fun a dx hna hnd hne => ?_
    by_cases hi : D.imms ds = true ∧ ds.length + 1 = n
    · rw [if_pos hi] at q
      have e2 := ownL_imm ds vs F1 hi.1 o
      subst e2
      have sm2 : Same H1 (upd (upd H1 dx (.own a)) a (.ins G.C dx [])) := fun b o e => by
        have na : b ≠ a := fun q => by rw [q, hna] at e; cases e
        have nd : b ≠ dx := fun q => by rw [q, hnd] at e; cases e
        rw [upd_ne na, upd_ne nd]; exact e
      refine ⟨.node .ins [], .ref a, [a], ds, vs, [], rfl, own_node.mpr ⟨a, [], [], rfl, ⟨dx, [], upd_same, by simp, rfl⟩, ownL_nil.mpr ⟨rfl, rfl⟩, rfl⟩, by simp, fun z hz => ?_, ownL_same sm2 o, fun z hz => (by cases hz), hi.2, made_of sm hna hnd hne q⟩
      rw [List.mem_singleton.mp hz]
      exact ⟨_, upd_same, trivial⟩
    · rw [if_neg hi] at q
      exact q.elim⟩
end
end Rs

set_option maxRecDepth 100000
/-! Rs21: try with several clauses. -/
namespace Rs
open PySem PySem.Spec PyProof.Rows L2
/-- a clause: which of the classes it takes, and its suite -/
abbrev Cls1 : Type := List Nat × (Evn → RS)
def pick (c : Nat) (ρ : Evn) : List Cls1 → RS
  | [] => .exc c ρ
  | q :: r => if c ∈ q.1 then noExc (q.2 ρ) else pick c ρ r
def mTry (known : List Nat) (mb : Evn → RS) (l : List Cls1) : Evn → RS := fun ρ => match mb ρ with
  | .exc c ρ' => if c ∈ known then pick c ρ' l else .no
  | r => r
section
variable {G : Gx} {X : Cx} {W W' : WX} {T T' : List Nat} {D : Ends} {σ σ' : St} {H H' : Hp} {f f' : Nat → List Addr} {r : RS} {known : List Nat} {mb : Evn → RS} {body : List Stmt} {h₀ : ExceptHandler} {hds : List ExceptHandler} {pos : Pos}
theorem SatS.quiet (s : SatS G W T D σ H f (noExc r)) : SatS G W' T D σ H f r := by
  cases r with
  | exc c ρ => exact s.elim
  | nx ρ => exact s
  | rt d ρ => exact s
  | bk ρ => exact s
  | ct ρ => exact s
  | no => exact s
/-- the clauses' suites hold what they say -/
inductive TryOk (G : Gx) (X : Cx) (known : List Nat) (T : List Nat) : List ExceptHandler → List (Value × (Addr → Value → Option Addr → TS)) → List Cls1 → Prop
  | nil : TryOk G X known T [] [] []
  | cons {x : Str} {cv : Value} {q : Cls1} {T1 : List Nat} {b₀ : Stmt} {suite : List Stmt} {np pos' : Pos} {hds : List ExceptHandler} {l : List (Value × (Addr → Value → Option Addr → TS))} {lc : List Cls1} (hc : Names X x cv)
      (hk : ∀ c ∈ known, PySem.W.exmOne X.K (.ref (G.cls c)) cv = some (decide (c ∈ q.1))) (hT : ∀ j ∈ T1, j ∈ T)
      (hs : ∀ (a : Addr) (pn : List (Addr × Obj)), SSs G (X.suite a pn) W0 T1 q.2 (b₀ :: suite)) (r : TryOk G X known T hds l lc) :
      TryOk G X known T (.ExceptHandler (some (.Name x np)) none (b₀ :: suite) pos' :: hds) ((cv, fun _ _ _ => tS G W0 T q.2) :: l) (q :: lc)
theorem SSs.wide {X : Cx} {W : WX} {T T' : List Nat} {m : Evn → RS} {st : List Stmt} (h : SSs G X W T m st) (hT : ∀ j ∈ T, j ∈ T') : SSs G X W T' m st := PSs.imp h fun D σ H ⟨ρ, f, E, s⟩ => ⟨ρ, f, E, SatS.less s hT⟩
theorem TryOk.heads {hs : List ExceptHandler} {l : List (Value × (Addr → Value → Option Addr → TS))} {lc : List Cls1} (t : TryOk G X known T hs l lc) : HdsOk X hs l := by
  induction t with
  | nil => exact .nil
  | cons hc hk hT hs r ih => exact .cons hc (fun a oe cls d pn _ _ => SSs.wide (hs a ((a, oe) :: pn)) hT) ih
theorem TryOk.many {hs : List ExceptHandler} {l : List (Value × (Addr → Value → Option Addr → TS))} {lc : List Cls1} (t : TryOk G X known T hs l lc) {c : Nat} (hc : c ∈ known) {ρ' : Evn} (E' : EnvR G H' σ' ρ' f') (s : SatS G W T D σ' H' f' (pick c ρ' lc)) :
    wMany X.K W D l (.ref (G.cls c)) none σ' H' := by
  induction t with
  | nil => exact s σ' H' f' E' Lk.refl
  | @cons x cv q T1 b₀ suite np pos' hds l lc hn hk hT hs r ih =>
    refine ⟨_, hk c hc, fun hb a _ => ?_, fun hb => ?_⟩
    · unfold pick at s
      rw [if_pos (of_decide_eq_true hb)] at s
      exact ⟨ρ', f', E', SatS.quiet s⟩
    · unfold pick at s
      rw [if_neg (of_decide_eq_false hb)] at s
      exact ih s
theorem ss_try {l : List (Value × (Addr → Value → Option Addr → TS))} {lc : List Cls1} (known : List Nat) (hs : X.stack = X.env :: X.outer) (hf : X.env.frame = some X.env.locals) (tk : Takes X W)
    (hb : ∀ (W : WX) (pn : List (Addr × Obj)) (xe : Value → Shared → Prop), Takes (X.tr pn xe) W → PassesOwn (model X.prog X.w) X.A X.env xe → SSs G (X.tr pn xe) W T mb body) (hh : TryOk G X known T' (h₀ :: hds) l lc) :
    SS G X W (T ++ T') (mTry known mb lc) (.Try body (h₀ :: hds) [] [] pos) := PS.imp (ps_try_many (tb := fun W => tS G W T mb) hs hf tk hb hh.heads) fun D σ H ⟨ρ, f, E, s⟩ => ⟨ρ, f, E, by
  unfold mTry at s
  have up : ∀ j ∈ T, j ∈ T ++ T' := fun j h => List.mem_append_left _ h
  cases em : mb ρ with
  | exc c ρ' =>
    rw [em] at s
    intro σ' H' f' E' l
    by_cases hc : c ∈ known
    · simp only [if_pos hc] at s
      have hT' : ∀ j ∈ T', j ∈ T ++ T' := fun j h => List.mem_append_right _ h
      exact hh.many hc E' (SatS.less (s.later (l.mono up)) hT')
    · simp only [if_neg hc] at s
      exact s.elim
  | nx ρ' => rw [em] at s; exact fun σ' H' f' E' l => s σ' H' f' E' (l.mono up)
  | rt d ρ' => rw [em] at s; exact fun v σ' H' f' F E' l o nd q => s v σ' H' f' F E' (l.mono up) o nd q
  | bk ρ' => rw [em] at s; exact fun σ' H' f' E' l => s σ' H' f' E' (l.mono up)
  | ct ρ' => rw [em] at s; exact fun σ' H' f' E' l => s σ' H' f' E' (l.mono up)
  | no => rw [em] at s; exact s.elim⟩
end
end Rs

set_option maxRecDepth 100000
/-! Rs22: a, b = e; x = y that moves. -/
namespace Rs
open PySem PySem.Spec PyProof.Rows L2
section
variable {G : Gx} {X : Cx} {W : WX} {e : Expr} {pos p1 p2 p3 : Pos} {x y : Str} {m : Evn → R D} {kk : Nat}
/-- a, b = e, e a tuple of two that hold nothing that can change -/
def mUnp (i j : Nat) (m : Evn → R D) : Evn → RS := fun ρ => (m ρ).toS ρ fun d => match d with
  | .node .tup [a, b] => if a.imm = true ∧ b.imm = true then .nx ((ρ.set i (.ow a)).set j (.ow b)) else .no
  | _ => .no
theorem ss_unp (i j : Nat) (hc : X.calm = true) (hK : X.K = G.K) (hN : X.N.Nodup) (he : SE G X W m e) (hi : X.N[i]? = some x := by rfl) (hx : Loc X.env.scope x := by first | exact Or.inl rfl | exact Or.inr rfl) (hj : X.N[j]? = some y := by rfl) (hy : Loc X.env.scope y := by first | exact Or.inl rfl | exact Or.inr rfl)
    (hn : (assignEach [.Name x p1, .Name y p2] X.env).length = 2 := by rfl) (hst : (assignEach [.Name x p1, .Name y p2] X.env).findIdx? (·.1) = none := by rfl)
    (hs : swapsWithSole [.Tuple [.Name x p1, .Name y p2] kk p3] e pos.line X.env = pure false := by rfl) (hw : swappedStores [.Tuple [.Name x p1, .Name y p2] kk p3] e X.env = pure none := by rfl)
    (h1 : (assignEach [.Tuple [.Name x p1, .Name y p2] kk p3] X.env).map (·.2) = [assign (.Tuple [.Name x p1, .Name y p2] kk p3) X.env] := by rfl)
    (hf : X.fn x = true ∨ X.env.scope.names.lookup x = some .local := by first | exact .inl rfl | exact .inr rfl | assumption) (hf2 : X.fn y = true ∨ X.env.scope.names.lookup y = some .local := by first | exact .inl rfl | exact .inr rfl | assumption) :
    SS G X W ([i] ++ [j]) (mUnp i j m) (.Assign [.Tuple [.Name x p1, .Name y p2] kk p3] e pos) := by
  have gx : PG X (.Name x p1) (gName i) := pg_name hN hi hx hf
  have gy : PG X (.Name y p2) (gName j) := pg_name hN hj hy hf2
  refine PS.imp (ps_asg he (pg_tup hc (pgs_cons gx (pgs_cons gy pgs_nil)) hn hst) hs hw h1) fun D σ H ⟨ρ, f, E, s⟩ => ⟨ρ, E.p, ?_⟩
  unfold mUnp at s
  refine (SatS.toS s E).imp fun d e8 ⟨e9, q⟩ v H1 F sm o => ?_
  clear e8 e9 s
  split at q
  · split at q
    · rename_i him
      obtain ⟨t, vs, F1, rfl, n, ol, _⟩ := own_node.mp o
      obtain ⟨v1, r1, A1, A2, rfl, o1, l1, _⟩ := ownL_cons.mp ol
      obtain ⟨v2, r2, B1, B2, rfl, o2, l2, _⟩ := ownL_cons.mp l1
      obtain ⟨rfl, _⟩ := ownL_nil.mp l2
      have ea := own_imm _ v1 A1 him.1 o1
      have eb := own_imm _ v2 B1 him.2 o2
      subst ea; subst eb
      obtain ⟨f1, E1, k1⟩ := E.setOw sm (i := i) o1 List.nodup_nil fun z hz => by cases hz
      obtain ⟨f2, E2, k2⟩ := E1.setOw (Same.refl H1) (i := j) o2 List.nodup_nil fun z hz => by cases hz
      exact ⟨t, [v1, v2], rfl, .inl (.inl n), rfl, v1, [v2], rfl, v2, [], rfl, rfl, q _ _ _ E2 (k1.trans k2)⟩
    · exact q.elim
  · exact q.elim
end
end Rs

set_option maxRecDepth 100000
/-! Rs23: x = y, the thing moves. -/
namespace Rs
open PySem PySem.Spec PyProof.Rows L2
theorem EnvR.move {G : Gx} {H : Hp} {σ : St} {ρ : Evn} {f : Nat → List Addr} {i j : Nat} {d : D} {v : V} (E : EnvR G H σ ρ f) (hij : i ≠ j) (hi : i < ρ.length) (hj : ρ[j]? = some (Slot.ow d)) (hv : σ[j]? = some (some v)) (o : Own G H d v (f j)) :
    ∃ f2, EnvR G H (σ.set i (some v)) ((ρ.set j .un).set i (.ow d)) f2 ∧ Lk [i] f σ H f2 (σ.set i (some v)) H := by
  have hi' : i < (ρ.set j .un).length := by simpa using hi
  have hσ : i < σ.length := by rw [E.len]; exact hi
  have jlt := (List.getElem?_eq_some_iff.mp hj).1
  let f2 : Nat → List Addr := fun n => if n = i then f j else if n = j then [] else f n
  have sub : ∀ n a, a ∈ f2 n → ∃ n', a ∈ f n' ∧ (n = i ∧ n' = j ∨ n ≠ i ∧ n ≠ j ∧ n' = n) := fun n a h => by
    show ∃ n', _
    by_cases e : n = i
    · exact ⟨j, by simpa [f2, e] using h, .inl ⟨e, rfl⟩⟩
    · by_cases e2 : n = j
      · simp [f2, e, e2, Ne.symm hij] at h
      · exact ⟨n, by simpa [f2, e, e2] using h, .inr ⟨e, e2, rfl⟩⟩
  refine ⟨f2, ⟨by simp [E.len], fun n d2 h => ?_, fun n d2 h => ?_, fun n h => ?_, fun n => ?_, fun n k a h1 h2 => ?_, fun n a h => ?_⟩, ⟨Step.same (Same.refl H), fun a ⟨n, h⟩ => ?_, fun n hn => ?_⟩⟩
  · by_cases e : n = i
    · subst e
      rw [List.getElem?_set_self hi'] at h
      cases h
      exact ⟨v, List.getElem?_set_self hσ, by simpa [f2] using o⟩
    · rw [List.getElem?_set_ne (Ne.symm e)] at h
      by_cases e2 : n = j
      · subst e2
        rw [List.getElem?_set_self jlt] at h
        cases h
      · rw [List.getElem?_set_ne (Ne.symm e2)] at h
        obtain ⟨v', e1, o1⟩ := E.ow n d2 h
        exact ⟨v', by rw [List.getElem?_set_ne (Ne.symm e)]; exact e1, by simpa [f2, e, e2] using o1⟩
  · by_cases e : n = i
    · subst e
      rw [List.getElem?_set_self hi'] at h
      cases h
    · rw [List.getElem?_set_ne (Ne.symm e)] at h
      by_cases e2 : n = j
      · subst e2
        rw [List.getElem?_set_self jlt] at h
        cases h
      · rw [List.getElem?_set_ne (Ne.symm e2)] at h
        obtain ⟨v', K, e1, o1, q⟩ := E.ro n d2 h
        refine ⟨v', K, by rw [List.getElem?_set_ne (Ne.symm e)]; exact e1, o1, fun a ha k hk => ?_⟩
        obtain ⟨n', h', _⟩ := sub k a hk
        exact q a ha n' h'
  · by_cases e : n = i
    · subst e
      exact absurd (List.getElem?_set_self hi') (h d)
    · by_cases e2 : n = j
      · simp [f2, e, e2, Ne.symm hij]
      · have : f2 n = f n := by simp [f2, e, e2]
        rw [this]
        exact E.nil n fun d2 q => h d2 (by rw [List.getElem?_set_ne (Ne.symm e), List.getElem?_set_ne (Ne.symm e2)]; exact q)
  · by_cases e : n = i
    · have : f2 n = f j := by simp [f2, e]
      rw [this]; exact E.nd j
    · by_cases e2 : n = j
      · simp [f2, e, e2, Ne.symm hij]
      · have : f2 n = f n := by simp [f2, e, e2]
        rw [this]; exact E.nd n
  · obtain ⟨n1, q1, c1⟩ := sub n a h1
    obtain ⟨n2, q2, c2⟩ := sub k a h2
    have := E.dj n1 n2 a q1 q2
    rcases c1 with ⟨a1, a2⟩ | ⟨a1, a2, a3⟩ <;> rcases c2 with ⟨b1, b2⟩ | ⟨b1, b2, b3⟩ <;> omega
  · obtain ⟨n1, q1, _⟩ := sub n a h
    exact E.un n1 a q1
  · obtain ⟨n1, q1, _⟩ := sub n a h
    exact .inl ⟨n1, q1⟩
  · rw [List.getElem?_set_ne (fun z => hn (by simp [z]))]
section
variable {G : Gx} {X : Cx} {W : WX} {pos pos' p : Pos} {x y : Str}
def mMv (i j : Nat) : Evn → RS := fun ρ => match ρ[j]? with
  | some (.ow d) => if i ≠ j ∧ i < ρ.length then .nx ((ρ.set j .un).set i (.ow d)) else .no
  | _ => .no
theorem ss_move (i j : Nat) (hN : X.N.Nodup) (hj : X.N[j]? = some y := by rfl) (hv : Vis X.env.scope y := by first | exact Or.inl rfl | exact Or.inr (Or.inl rfl) | exact Or.inr (Or.inr rfl)) (hi : X.N[i]? = some x := by rfl) (hx : Loc X.env.scope x := by first | exact Or.inl rfl | exact Or.inr rfl)
    (hd : (y == ("__debug__" : Str)) = false := by decide) (hcd : (y == ("__classdict__" : Str)) = false := by decide) (hs : swapsWith (.Name y p) (some (.Name x pos')) pos.line X.env = pure false := by rfl) (hf : X.fn x = true ∨ X.env.scope.names.lookup x = some .local := by first | exact .inl rfl | exact .inr rfl | assumption) :
    SS G X W [i] (mMv i j) (.Assign [.Name x pos'] (.Name y p) pos) := PS.imp (ps_set hN hi hx (pe_var hj hv hd hcd) hs hf) fun D σ H ⟨ρ, f, E, s⟩ => by
  unfold mMv at s
  split at s
  · rename_i d hr
    obtain ⟨v, e1, o⟩ := E.ow j d hr
    refine ⟨v, e1, ?_⟩
    by_cases hc : i ≠ j ∧ i < ρ.length
    · rw [if_pos hc] at s
      obtain ⟨f2, E2, l⟩ := E.move hc.1 hc.2 hr e1 o
      exact s _ _ _ E2 l
    · rw [if_neg hc] at s
      exact s.elim
  · exact s.elim
end
end Rs

set_option maxRecDepth 100000
/-! Rs24: except X as e. -/
namespace Rs
open PySem PySem.Spec PyProof.Rows L2
/-- the error that a suite holds stands at a, of class c -/
def Gx.err (G : Gx) (a : Addr) (c : Nat) : Gx := { G with exa := fun c' v => v = .ref a ∧ c' = c }
mutual
def noX : D → Bool
  | .exc _ => false
  | .node _ ds => noXs ds
  | .non => true
  | .bl _ => true
  | .int _ => true
  | .str _ => true
def noXs : List D → Bool
  | [] => true
  | d :: ds => noX d && noXs ds
end
section
variable {G : Gx} {H : Hp} {a : Addr} {c : Nat}
theorem nodeAt_err {h : Hd} {b : Addr} {vs : List V} : NodeAt (G.err a c) H h b vs ↔ NodeAt G H h b vs := by cases h <;> exact Iff.rfl
mutual
theorem own_err : ∀ (d : D) (v : V) (F : List Addr), noX d = true → (Own (G.err a c) H d v F ↔ Own G H d v F)
  | .non, v, F, _ => by rw [own_non, own_non]
  | .bl b, v, F, _ => by rw [own_bl, own_bl]
  | .int i, v, F, _ => by rw [own_int, own_int]
  | .str x, v, F, _ => by rw [own_str, own_str]
  | .exc c, v, F, h => by simp [noX] at h
  | .node hd ds, v, F, h => by
    simp only [noX] at h
    rw [own_node, own_node]
    constructor
    · rintro ⟨b, vs, F1, e1, n, o, ef⟩
      exact ⟨b, vs, F1, e1, nodeAt_err.mp n, (ownL_err ds vs F1 h).mp o, ef⟩
    · rintro ⟨b, vs, F1, e1, n, o, ef⟩
      exact ⟨b, vs, F1, e1, nodeAt_err.mpr n, (ownL_err ds vs F1 h).mpr o, ef⟩
theorem ownL_err : ∀ (ds : List D) (vs : List V) (F : List Addr), noXs ds = true → (OwnL (G.err a c) H ds vs F ↔ OwnL G H ds vs F)
  | [], vs, F, _ => by rw [ownL_nil, ownL_nil]
  | d :: ds, vs, F, h => by
    simp only [noXs, Bool.and_eq_true] at h
    rw [ownL_cons, ownL_cons]
    constructor
    · rintro ⟨v, vr, F1, F2, e1, o1, o2, e2⟩
      exact ⟨v, vr, F1, F2, e1, (own_err d v F1 h.1).mp o1, (ownL_err ds vr F2 h.2).mp o2, e2⟩
    · rintro ⟨v, vr, F1, F2, e1, o1, o2, e2⟩
      exact ⟨v, vr, F1, F2, e1, (own_err d v F1 h.1).mpr o1, (ownL_err ds vr F2 h.2).mpr o2, e2⟩
end
def slotX (s : Slot) : Bool := match s.dat with
  | some d => noX d
  | none => true
theorem env_err {σ : St} {ρ : Evn} {f : Nat → List Addr} (h : ρ.all slotX = true) : EnvR (G.err a c) H σ ρ f ↔ EnvR G H σ ρ f := by
  have nx : ∀ {i : Nat} {s : Slot} {d : D}, ρ[i]? = some s → s.dat = some d → noX d = true := fun {i s d} hs hd => by
    have := List.all_eq_true.mp h s (List.mem_of_getElem? hs)
    unfold slotX at this
    rw [hd] at this
    exact this
  constructor
  · intro E
    exact ⟨E.len, fun i d q => let ⟨v, e, o⟩ := E.ow i d q; ⟨v, e, (own_err d v _ (nx q rfl)).mp o⟩, fun i d q => let ⟨v, F, e, o, z⟩ := E.ro i d q; ⟨v, F, e, (own_err d v _ (nx q rfl)).mp o, z⟩, E.nil, E.nd, E.dj, E.un⟩
  · intro E
    exact ⟨E.len, fun i d q => let ⟨v, e, o⟩ := E.ow i d q; ⟨v, e, (own_err d v _ (nx q rfl)).mpr o⟩, fun i d q => let ⟨v, F, e, o, z⟩ := E.ro i d q; ⟨v, F, e, (own_err d v _ (nx q rfl)).mpr o, z⟩, E.nil, E.nd, E.dj, E.un⟩
end
/-! ### isinstance(e, T), e the error that the suite holds -/
section
variable {G : Gx} {X : Cx} {W : WX} {a : Addr} {oe : Obj} {pn : List (Addr × Obj)} {p pos pt : Pos} {x : Str}
def mIsE (i : Nat) (tab : Nat → Bool) : Evn → R D := fun ρ => match ρ[i]? with
  | some (.ro (.exc c)) => .ok (.bl (tab c))
  | _ => .no
theorem sf_isE {p0 : Pos} (i : Nat) (tab : Nat → Bool) {c : Nat} {tn : Str} {T : String} (C : ExcC X.K (G.cls c)) (hz : Zc (.ref (G.cls c)) none oe) (hf : ∃ vs, oe.data = .fields vs) (hk : PySem.W.kitOne X.K (.ref (G.cls c)) (.type T) = some (tab c))
    (hg : Gl (X.suite a ((a, oe) :: pn)) "isinstance") (hm : X.mg "isinstance" = none) (hgt : Gl (X.suite a ((a, oe) :: pn)) tn) (hmt : X.mg tn = none) (hvt : bootBuiltins tn = some (.type T))
    (hN : X.N[i]? = some x := by rfl) (hv : Vis X.env.scope x := by first | exact Or.inl rfl | exact Or.inr (Or.inl rfl) | exact Or.inr (Or.inr rfl)) (hd : (x == ("__debug__" : Str)) = false := by decide) (hcd : (x == ("__classdict__" : Str)) = false := by decide)
    (hn : tn ≠ "__name__" := by decide) (hd2 : (tn == ("__debug__" : Str)) = false := by decide)
    (hs : starEach [.Name x p, .Name tn pt] X.env = (false, eval (.Name x p) X.env) :: starEach [.Name tn pt] X.env := by rfl) (hs2 : starEach [.Name tn pt] X.env = (false, eval (.Name tn pt) X.env) :: starEach [] X.env := by rfl) (hpl : (backTo pos (starEach [.Name tn pt] X.env)).any (·.1) = false := by rfl) :
    SF (G.err a c) (X.suite a ((a, oe) :: pn)) W (mIsE i tab) (.Call (.Name "isinstance" p0) [.Name x p, .Name tn pt] [] pos) :=
  PE.imp (pe_callB (call_isE C hz hf) hg hm (by decide +kernel) (pa_cons (pe_var hN hv hd hcd) (pa_cons (pe_bltn (v := .ty T) hgt hmt hvt rfl hn hd2) pa_nil hs2) hs) (by decide) (by decide) hs hpl) fun σ H Q ⟨ρ, E, s⟩ => by
    unfold mIsE at s
    split at s
    · rename_i c' hr
      have hd : rdv ρ i = some (.exc c') := by unfold rdv; rw [hr]; rfl
      obtain ⟨v, F, e1, o⟩ := E.rd i _ hd
      simp only [Own] at o
      obtain ⟨⟨rfl, rfl⟩, _⟩ := o
      exact ⟨.ref a, e1, .ty T, .type T, tab c', rfl, fun u hu => hu, hk, s (.bl (tab c')) H [] (Same.refl H) (own_bl.mpr ⟨rfl, rfl⟩) List.nodup_nil fun z hz => by cases hz⟩
    · exact s.elim
end
/-- behind the suite: the name is gone -/
def fin1 (i : Nat) (ρ : Evn) (k : Evn → RS) : RS := if (ρ.set i .un).all slotX = true then k (ρ.set i .un) else .no
def finX (i : Nat) : RS → RS
  | .nx ρ => fin1 i ρ .nx
  | .rt d ρ => if noX d = true then fin1 i ρ (.rt d) else .no
  | .bk ρ => fin1 i ρ .bk
  | .ct ρ => fin1 i ρ .ct
  | _ => .no
def mTryAs (i : Nat) (known cs : List Nat) (mb m : Evn → RS) : Evn → RS := fun ρ => match mb ρ with
  | .exc c ρ' => if c ∈ known ∧ ρ'.all slotX = true then (if c ∈ cs then finX i (m (ρ'.set i (.ro (.exc c)))) else .exc c ρ') else .no
  | r => r
theorem EnvR.gone {G : Gx} {H : Hp} {σ : St} {ρ : Evn} {f : Nat → List Addr} {a : Addr} {c i : Nat} (E : EnvR (G.err a c) H σ ρ f) (h : (ρ.set i .un).all slotX = true) : EnvR G H (σ.set i none) (ρ.set i .un) (fun n => if n = i then [] else f n) := by
  refine (env_err (a := a) (c := c) h).mp ⟨by simp [E.len], fun n d q => ?_, fun n d q => ?_, fun n q => ?_, fun n => ?_, fun n k z h1 h2 => ?_, fun n z q => ?_⟩
  · by_cases e : n = i
    · subst e
      by_cases hl : n < ρ.length
      · rw [List.getElem?_set_self hl] at q; cases q
      · rw [List.set_eq_of_length_le (Nat.not_lt.mp hl)] at q
        exact absurd (List.getElem?_eq_some_iff.mp q).1 hl
    · rw [List.getElem?_set_ne (Ne.symm e)] at q
      obtain ⟨v, e1, o⟩ := E.ow n d q
      exact ⟨v, by rw [List.getElem?_set_ne (Ne.symm e)]; exact e1, by simpa [e] using o⟩
  · by_cases e : n = i
    · subst e
      by_cases hl : n < ρ.length
      · rw [List.getElem?_set_self hl] at q; cases q
      · rw [List.set_eq_of_length_le (Nat.not_lt.mp hl)] at q
        exact absurd (List.getElem?_eq_some_iff.mp q).1 hl
    · rw [List.getElem?_set_ne (Ne.symm e)] at q
      obtain ⟨v, K, e1, o, z⟩ := E.ro n d q
      refine ⟨v, K, by rw [List.getElem?_set_ne (Ne.symm e)]; exact e1, o, fun b hb j hj => ?_⟩
      split at hj
      · cases hj
      · exact z b hb j hj
  · by_cases e : n = i
    · simp [e]
    · simp only [e, if_false]
      exact E.nil n fun d hd => q d (by rw [List.getElem?_set_ne (Ne.symm e)]; exact hd)
  · split
    · exact List.nodup_nil
    · exact E.nd n
  · split at h1
    · cases h1
    · split at h2
      · cases h2
      · exact E.dj n k z h1 h2
  · split at q
    · cases q
    · exact E.un n z q
end Rs

set_option maxRecDepth 100000
/-! Rs25: try .. except X as e. -/
namespace Rs
open PySem PySem.Spec PyProof.Rows L2
section
variable {G : Gx} {X : Cx} {W : WX} {T T1 : List Nat} {mb m : Evn → RS} {body suite : List Stmt} {b₀ : Stmt} {np pos pos' : Pos} {x n : Str} {cv : Value}
/-- the ends behind the suite -/
abbrev endX (i : Nat) (D : Ends) : Ends := { nx := fun σ' H' => D.nx (σ'.set i none) H', rt := D.rt, bk := fun σ' H' => D.bk (σ'.set i none) H', ct := fun σ' H' => D.ct (σ'.set i none) H' }
theorem fin1_ok {i : Nat} {T : List Nat} {D : Ends} {σ : St} {H : Hp} {f : Nat → List Addr} {ρ : Evn} {k : Evn → RS} (s : SatS G W T D σ H f (fin1 i ρ k)) : (ρ.set i .un).all slotX = true ∧ SatS G W T D σ H f (k (ρ.set i .un)) := by
  unfold fin1 at s
  by_cases h : (ρ.set i .un).all slotX = true
  · rw [if_pos h] at s; exact ⟨h, s⟩
  · rw [if_neg h] at s; exact s.elim
theorem finX_of {i : Nat} {D : Ends} {σ σ1 : St} {H H1 : Hp} {f f1 : Nat → List Addr} {a : Addr} {c : Nat} {r : RS} (hl : Lk (i :: T1) f σ H f1 σ1 H1) (s : SatS G W (i :: T1) D σ H f (finX i r)) : SatS (G.err a c) W0 T1 (endX i D) σ1 H1 f1 r := by
  have lk : ∀ {σ' H' f'}, Lk T1 f1 σ1 H1 f' σ' H' → Lk (i :: T1) f σ H (fun n => if n = i then [] else f' n) (σ'.set i none) H' := fun {σ' H' f'} l => by
    have l2 := hl.tr (l.mono (T' := i :: T1) fun j h => List.mem_cons_of_mem _ h)
    refine ⟨l2.step, fun z ⟨n, hz⟩ => ?_, fun j hj => ?_⟩
    · dsimp only at hz
      split at hz
      · cases hz
      · exact l2.new z ⟨n, hz⟩
    · rw [List.getElem?_set_ne (fun q => hj (by simp [q]))]
      exact l2.keep j hj
  cases r with
  | nx ρ2 =>
    obtain ⟨h, s⟩ := fin1_ok (k := RS.nx) s
    exact fun σ' H' f' E' l => s _ H' _ (E'.gone h) (lk l)
  | rt d ρ2 =>
    by_cases hd : noX d = true
    · have s : SatS G W (i :: T1) D σ H f (if noX d = true then fin1 i ρ2 (RS.rt d) else .no) := s
      rw [if_pos hd] at s
      obtain ⟨h, s⟩ := fin1_ok (k := RS.rt d) s
      intro v σ' H' f' F E' l o nd q
      refine s v _ H' _ F (E'.gone h) (lk l) ((own_err d v F hd).mp o) nd fun z hz => ⟨?_, ?_, (q z hz).2.2⟩
      · rcases (q z hz).1 with y | y
        · exact hl.new z y
        · exact hl.free y
      · rintro ⟨n, hn⟩
        dsimp only at hn
        split at hn
        · cases hn
        · exact (q z hz).2.1 ⟨n, hn⟩
    · have s : SatS G W (i :: T1) D σ H f (if noX d = true then fin1 i ρ2 (RS.rt d) else .no) := s
      rw [if_neg hd] at s
      exact s.elim
  | bk ρ2 =>
    obtain ⟨h, s⟩ := fin1_ok (k := RS.bk) s
    exact fun σ' H' f' E' l => s _ H' _ (E'.gone h) (lk l)
  | ct ρ2 =>
    obtain ⟨h, s⟩ := fin1_ok (k := RS.ct) s
    exact fun σ' H' f' E' l => s _ H' _ (E'.gone h) (lk l)
  | exc c ρ2 => exact s.elim
  | no => exact s.elim
theorem ss_tryAs (i : Nat) (known cs : List Nat) (hs : X.stack = X.env :: X.outer) (hf : X.env.frame = some X.env.locals) (hN : X.N.Nodup) (hi : X.N[i]? = some n) (hln : X.env.kindOf n = some .local) (hc : Names X x cv) (tk : Takes X W)
    (hk : ∀ c ∈ known, PySem.W.exmOne X.K (.ref (G.cls c)) cv = some (decide (c ∈ cs)))
    (hb : ∀ (W : WX) (pn : List (Addr × Obj)) (xe : Value → Shared → Prop), Takes (X.tr pn xe) W → PassesOwn (model X.prog X.w) X.A X.env xe → SSs G (X.tr pn xe) W T mb body)
    (hsu : ∀ (a : Addr) (oe : Obj) (c : Nat) (pn : List (Addr × Obj)), c ∈ known → Zc (.ref (G.cls c)) none oe → (∃ vs, oe.data = .fields vs) → SSs (G.err a c) (X.suite a ((a, oe) :: pn)) W0 T1 m (b₀ :: suite)) :
    SS G X W (T ++ (i :: T1)) (mTryAs i known cs mb m) (.Try body [.ExceptHandler (some (.Name x np)) (some n) (b₀ :: suite) pos'] [] [] pos) := by
  have base := ps_try_as (pos := pos) (pos' := pos') (np := np) (tb := fun W => tS G W T mb) (ts := fun a cls d => fun D σ H => ∃ c, c ∈ known ∧ cls = .ref (G.cls c) ∧ d = none ∧ tS (G.err a c) W0 T1 m D σ H) hs hf hN hi hln hc tk hb
    (fun a oe cls d pn hz hv => ⟨fun pins s σ H D I ⟨c, h1, h2, h3, h4⟩ => by
      subst h2; subst h3
      exact (hsu a oe c pn h1 hz hv).run pins s σ H D I h4⟩)
  refine PS.imp base fun D σ H ⟨ρ, f, E, s⟩ => ⟨ρ, f, E, ?_⟩
  unfold mTryAs at s
  have up : ∀ j ∈ T, j ∈ T ++ (i :: T1) := fun j h => List.mem_append_left _ h
  cases em : mb ρ with
  | nx ρ' => rw [em] at s; exact fun σ' H' f' E' l => s σ' H' f' E' (l.mono up)
  | rt d ρ' => rw [em] at s; exact fun v σ' H' f' F E' l o nd q => s v σ' H' f' F E' (l.mono up) o nd q
  | bk ρ' => rw [em] at s; exact fun σ' H' f' E' l => s σ' H' f' E' (l.mono up)
  | ct ρ' => rw [em] at s; exact fun σ' H' f' E' l => s σ' H' f' E' (l.mono up)
  | no => rw [em] at s; exact s.elim
  | exc c ρ' =>
    rw [em] at s
    intro σ' H' f' E' l
    dsimp only at s
    split at s
    · rename_i hcx
      have s := s.later (l.mono up)
      refine ⟨_, hk c hcx.1, fun hb2 a hna => ⟨c, hcx.1, rfl, rfl, ?_⟩, fun hb2 => ?_⟩
      · rw [if_pos (of_decide_eq_true hb2)] at s
        have E1 := (env_err (a := a) (c := c) hcx.2).mpr E'
        have oe : Own (G.err a c) H' (.exc c) (.ref a) [] := by
          rw [Own]
          exact ⟨⟨rfl, rfl⟩, rfl⟩
        obtain ⟨f2, E2, l2, _⟩ := E1.setRo (i := i) oe fun z hz => by cases hz
        have s2 : SatS G W (i :: T1) D σ' H' f' (finX i (m (ρ'.set i (.ro (.exc c))))) := SatS.less s fun j h => List.mem_append_right _ h
        exact ⟨_, f2, E2, finX_of (l2.mono fun j h => by rw [List.mem_singleton.mp h]; exact List.mem_cons_self) s2⟩
      · rw [if_neg (of_decide_eq_false hb2)] at s
        exact s σ' H' f' E' Lk.refl
    · exact s.elim
end
end Rs

set_option maxRecDepth 100000
/-! Rs26: isinstance(e, (A, B)), e the error that the suite holds. -/
namespace Rs
open PySem PySem.Spec PyProof.Rows L2
def rIsET (K : PySem.W.Frag) (D a : Addr) : List V → Hp → VK → Prop := fun xs H Q => ∃ (tp : Addr) (cs : List V) (us : List Value) (b : Bool), xs = [.ref a, .ref tp] ∧ H tp = some (.tup cs) ∧ Paired ClsV cs us ∧ PySem.W.kitAny K (.ref D) us = some b ∧ Q (.bl b) H
theorem call_isET {X : Cx} {a D : Addr} {oe : Obj} {pn : List (Addr × Obj)} (C : ExcC X.K D) (hz : Zc (.ref D) none oe) (hf : ∃ vs, oe.data = .fields vs) : CallR (X.suite a ((a, oe) :: pn)) (.builtin "isinstance") (rIsET X.K D a) := by
  intro pins s σ H xs us Q I r h
  obtain ⟨tp, cs, ws, b, rfl, hT, k, e, q⟩ := h
  obtain ⟨u1, u2, rfl, r1, r2⟩ := vals2 r
  obtain rfl : u1 = Value.ref a := r1
  obtain rfl : u2 = Value.ref tp := r2
  obtain ⟨hget, _⟩ := I.pin (a, oe) (List.mem_append.mpr (.inl List.mem_cons_self))
  obtain ⟨vs, hv⟩ := hf
  have J : PySem.W.InstAt s.heap a oe D none := by
    obtain ⟨oc, od, oda, osl⟩ := oe
    obtain ⟨h1, h2⟩ := hz
    dsimp only at h1 h2 hv
    subst h1 h2 hv
    exact ⟨hget, rfl, rfl, trivial⟩
  obtain ⟨_, its, rv, o, g1, g2, n, g3⟩ := (show ObjOk X.prog X.w H s.heap tp (.tup cs) from I.hok tp _ hT)
  have e3 := ClsV.all k rv; subst e3
  obtain ⟨oc, od, dt, sl⟩ := o
  simp only at g2 g3; subst g2 g3
  have Z := PySem.W.handS_kitx_exc (x := a) (ox := oe) C.hg C.hk C.hs C.hd C.ha C.hn C.ht C.hm
  exact PySem.W.kia_tup Z I.kIn J g1 e (fun z => nomatch z) fun tk => ⟨.bl b, H, I.kept (t' := tk) fun _ _ z => z, rfl, q⟩
section
variable {G : Gx} {X : Cx} {W : WX} {a : Addr} {oe : Obj} {pn : List (Addr × Obj)} {p pos p1 p2 pt : Pos} {x : Str}
/-- two own classes -/
theorem sf_isET {p0 : Pos} (i : Nat) (tab : Nat → Bool) {c kk : Nat} {t1 t2 : Str} {C1 C2 : Addr} (C : ExcC X.K (G.cls c)) (hz : Zc (.ref (G.cls c)) none oe) (hf : ∃ vs, oe.data = .fields vs) (hk : PySem.W.kitAny X.K (.ref (G.cls c)) [.ref C1, .ref C2] = some (tab c))
    (hg : Gl (X.suite a ((a, oe) :: pn)) "isinstance") (hm : X.mg "isinstance" = none) (hg1 : Gl (X.suite a ((a, oe) :: pn)) t1) (hm1 : X.mg t1 = some (.ref C1)) (hg2 : Gl (X.suite a ((a, oe) :: pn)) t2) (hm2 : X.mg t2 = some (.ref C2))
    (hN : X.N[i]? = some x := by rfl) (hv : Vis X.env.scope x := by first | exact Or.inl rfl | exact Or.inr (Or.inl rfl) | exact Or.inr (Or.inr rfl)) (hd : (x == ("__debug__" : Str)) = false := by decide) (hcd : (x == ("__classdict__" : Str)) = false := by decide)
    (hd1 : (t1 == ("__debug__" : Str)) = false := by decide) (hd2 : (t2 == ("__debug__" : Str)) = false := by decide)
    (hs : starEach [.Name x p, .Tuple [.Name t1 p1, .Name t2 p2] kk pt] X.env = (false, eval (.Name x p) X.env) :: starEach [.Tuple [.Name t1 p1, .Name t2 p2] kk pt] X.env := by rfl)
    (hs2 : starEach [.Tuple [.Name t1 p1, .Name t2 p2] kk pt] X.env = (false, eval (.Tuple [.Name t1 p1, .Name t2 p2] kk pt) X.env) :: starEach [] X.env := by rfl)
    (hs3 : starEach [.Name t1 p1, .Name t2 p2] X.env = (false, eval (.Name t1 p1) X.env) :: starEach [.Name t2 p2] X.env := by rfl) (hs4 : starEach [.Name t2 p2] X.env = (false, eval (.Name t2 p2) X.env) :: starEach [] X.env := by rfl)
    (hpl : (backTo pos (starEach [.Tuple [.Name t1 p1, .Name t2 p2] kk pt] X.env)).any (·.1) = false := by rfl) :
    SF (G.err a c) (X.suite a ((a, oe) :: pn)) W (mIsE i tab) (.Call (.Name "isinstance" p0) [.Name x p, .Tuple [.Name t1 p1, .Name t2 p2] kk pt] [] pos) :=
  PE.imp (pe_callB (call_isET C hz hf) hg hm (by decide +kernel) (pa_cons (pe_var hN hv hd hcd) (pa_cons (pe_tup (pa_cons (pe_glob (v := .ref C1) hg1 hm1 rfl hd1) (pa_cons (pe_glob (v := .ref C2) hg2 hm2 rfl hd2) pa_nil hs4) hs3)) pa_nil hs2) hs) (by decide) (by decide) hs hpl) fun σ H Q ⟨ρ, E, s⟩ => by
    unfold mIsE at s
    split at s
    · rename_i c' hr
      have hd : rdv ρ i = some (.exc c') := by unfold rdv; rw [hr]; rfl
      obtain ⟨v, F, e1, o⟩ := E.rd i _ hd
      simp only [Own] at o
      obtain ⟨⟨rfl, rfl⟩, _⟩ := o
      refine ⟨.ref a, e1, by show 2 ≤ sizeLine; rw [sizeLine_eq]; decide, fun tp htp => ?_⟩
      exact ⟨tp, [.ref C1, .ref C2], [.ref C1, .ref C2], tab c', rfl, upd_same, .cons (.own _) (.cons (.own _) .nil), hk, s (.bl (tab c')) _ [] (upd_new htp) (own_bl.mpr ⟨rfl, rfl⟩) List.nodup_nil fun z hz => by cases hz⟩
    · exact s.elim
end
end Rs

set_option maxRecDepth 100000
/-! Rs27: the sheet's class and its errors' classes, as the top has made them. -/
namespace Rs
open PySem PySem.Spec PyProof.Rows L2
def sheetG (K : PySem.W.Frag) (C cB cO cT : Addr) : Gx := ⟨K, C, ["high", "wide", "kept"], fun n => if n = 1 then cB else if n = 2 then cO else cT, fun _ _ => False⟩
theorem nlG {K : PySem.W.Frag} {C cB cO cT : Addr} : (sheetG K C cB cO cT).names.length < 1000 := by show 3 < 1000; decide
theorem nmG {K : PySem.W.Frag} {C cB cO cT : Addr} {x : Str} (h : x ∉ (["high", "wide", "kept"] : List Str)) : x ∉ (sheetG K C cB cO cT).names := h
section
variable {K : PySem.W.Frag} {C D cB cO cT : Addr}
theorem sheet_cls (cl : Cls K C) (h1 : PySem.W.findIn K (.ref C) "high" = some none) (h2 : PySem.W.findIn K (.ref C) "wide" = some none) (h3 : PySem.W.findIn K (.ref C) "kept" = some none) : ClsG (sheetG K C cB cO cT) :=
  ⟨cl, fun f hf => by
    have hf' : f ∈ (["high", "wide", "kept"] : List Str) := hf
    simp only [List.mem_cons, List.not_mem_nil, or_false] at hf'
    rcases hf' with rfl | rfl | rfl
    · exact h1
    · exact h2
    · exact h3, by show (["high", "wide", "kept"] : List Str).Nodup; decide +kernel⟩
theorem kit_type {T : String} {b : Bool} (h : PySem.W.subIn K (.ref D) (.type T) = some b) (m : PySem.W.kitMeta T = true) : PySem.W.kitOne K (.ref D) (.type T) = some b := by
  unfold PySem.W.kitOne
  rw [if_neg (by intro z; have := beq_iff_eq.mp z; cases this)]
  show (if PySem.W.kitMeta T = true then PySem.W.subIn K (.ref D) (.type T) else none) = some b
  rw [if_pos m]; exact h
theorem kit_ref {b : Bool} (hd : PySem.W.hasDictIn K C = true) (ht : PySem.W.typeIn K (.ref C) = some (.type "type")) (s : PySem.W.subIn K (.ref C) (.ref C) = some true) (h : PySem.W.subIn K (.ref D) (.ref C) = some b) : PySem.W.kitOne K (.ref D) (.ref C) = some b := by
  unfold PySem.W.kitOne
  by_cases e : ((Value.ref D) == Value.ref C) = true
  · rw [if_pos e]
    have e' := beq_iff_eq.mp e
    rw [e', s] at h
    exact h
  · rw [if_neg e]
    obtain ⟨cd, hc, _⟩ := PySem.W.any_some hd
    have e2 : ((PySem.W.clsIn K C).isSome && PySem.W.typeIn K (.ref C) == some (.type "type")) = true := by rw [hc, ht] <;> rfl
    show (if ((PySem.W.clsIn K C).isSome && PySem.W.typeIn K (.ref C) == some (.type "type")) = true then PySem.W.subIn K (.ref D) (.ref C) else none) = some b
    rw [if_pos e2]
    exact h
theorem kit_clsr {b : Bool} (hd : PySem.W.hasDictIn K C = true) (ht : PySem.W.typeIn K (.ref C) = some (.type "type")) (h : PySem.W.subIn K (.ref D) (.ref C) = some b) : PySem.W.kitCls K (.ref D) (.ref C) = some b := by
  obtain ⟨cd, hc, _⟩ := PySem.W.any_some hd
  have e2 : ((PySem.W.clsIn K C).isSome && PySem.W.typeIn K (.ref C) == some (.type "type")) = true := by rw [hc, ht] <;> rfl
  show (if ((PySem.W.clsIn K C).isSome && PySem.W.typeIn K (.ref C) == some (.type "type")) = true then PySem.W.subIn K (.ref D) (.ref C) else none) = some b
  rw [if_pos e2]
  exact h
theorem exm_one {b : Bool} (r : PySem.W.subIn K (.ref C) (.type "BaseException") = some true) (h : PySem.W.kitCls K (.ref D) (.ref C) = some b) : PySem.W.exmOne K (.ref D) (.ref C) = some b := by
  unfold PySem.W.exmOne
  rw [if_pos (by rw [r]; rfl)]
  exact h
theorem kit_two {C1 C2 : Addr} {b1 b2 : Bool} (h1 : PySem.W.kitOne K (.ref D) (.ref C1) = some b1) (h2 : PySem.W.kitOne K (.ref D) (.ref C2) = some b2) : PySem.W.kitAny K (.ref D) [.ref C1, .ref C2] = some (b1 || b2) := by
  unfold PySem.W.kitAny
  rw [h1]
  cases b1
  · show (match PySem.W.kitOne K (.ref D) (.ref C2) with | some true => some true | some false => some false | none => none) = some (false || b2)
    rw [h2]
    cases b2 <;> rfl
  · rfl
theorem three {p : Nat → Prop} (h1 : p 1) (h2 : p 2) (h3 : p 3) : ∀ c ∈ [1, 2, 3], p c := by
  intro c hc
  simp only [List.mem_cons, List.not_mem_nil, or_false] at hc
  rcases hc with rfl | rfl | rfl
  · exact h1
  · exact h2
  · exact h3
end
end Rs

set_option maxRecDepth 100000
/-! Rs28: chains as tests; d.get(k); x = y where y goes on. -/
namespace Rs
open PySem PySem.Spec PyProof.Rows L2
section
variable {G : Gx} {X : Cx} {W : WX} {a b c e : Expr} {pos apos cpos : Pos} {ma mb mc : Evn → R D} {op op' : CmpOp} {r r' : R2} {g g' : D → D → R D}
theorem st_chain (ho : OpR X (compareOp op) r) (ho' : OpR X (compareOp op') r') (hd : OpD G r g) (hd' : OpD G r' g') (ha : SE G X W ma a) (hb : SE G X W mb b) (hc : SE G X W mc c)
    (hm : lastMarks [op, op'] [b, c] = false := by with_unfolding_all rfl) : ST G X W (mTest (mChain g g' ma mb mc)) (.Compare a [op, op'] [b, c] pos) :=
  PT.imp (pt_chain ho ho' ha hb hc hm) fun σ H Q ⟨ρ, E, s⟩ => chain_of hd hd' E ((satT_of s).imp fun d _ p v H' F s o _ _ => p v H' F s o)
/-- d.get(k) -/
def gGet (d k : D) : R D := match dlook d k with
  | some (some x) => .ok x
  | some none => .ok .non
  | none => .no
theorem isD_of {H : Hp} {d k : D} {o : Option D} {v : V} {F : List Addr} (h : dlook d k = some o) (od : Own G H d v F) : ∃ a, v = .ref a ∧ IsD H a := by
  unfold dlook at h
  split at h
  · obtain ⟨a, kvs, F', rfl, rd, _⟩ := own_dK od
    exact ⟨a, rfl, .inl ⟨kvs, rd⟩⟩
  · obtain ⟨a, kvs, F', rfl, rd, _⟩ := own_dT od
    exact ⟨a, rfl, .inr ⟨kvs, rd⟩⟩
  · cases h
def isDic : D → Bool
  | .node (.dK _) _ => true
  | .node (.dT _) _ => true
  | _ => false
theorem isDic_of {H : Hp} {d : D} {v : V} {F : List Addr} (h : isDic d = true) (od : Own G H d v F) : ∃ a, v = .ref a ∧ IsD H a := by
  unfold isDic at h
  split at h
  · obtain ⟨a, kvs, F', rfl, rd, _⟩ := own_dK od
    exact ⟨a, rfl, .inl ⟨kvs, rd⟩⟩
  · obtain ⟨a, kvs, F', rfl, rd, _⟩ := own_dT od
    exact ⟨a, rfl, .inr ⟨kvs, rd⟩⟩
  · cases h
def mGet (a b : Evn → R D) : Evn → R D := fun ρ => (a ρ).bind fun x => if isDic x = true then (b ρ).bind fun y => match gGet x y with
  | .ok d => .ok d
  | _ => .no
  else .no
theorem se_get (hu : X.A.units + 100 < cLine) (ha : SE G X W ma a) (hb : SE G X W mb b)
    (hbase : attributeBase a "get" X.env (eval a X.env) = eval a X.env := by rfl)
    (hfew : ((backTo cpos (starEach [b] X.env)).all (fun x => !x.1) && (backToKw cpos (keywordEach [] X.env)).all (fun x => x.1.isSome)
      && decide (([b] : List Expr).length + ([] : List Keyword).length + (if ([] : List Keyword).isEmpty then 0 else 1) < 30)) = true := by rfl)
    (hline : (apos.endLine == cpos.line) = true := by rfl) (htr : backTo cpos (starEach [b] X.env) = [(false, eval b X.env)] := by rfl) :
    SE G X W (mGet ma mb) (.Call (.Attribute a "get" apos) [b] [] cpos) := by
  refine PE.imp (pe_dget1 (by omega) ha hb ⟨hbase, hfew, hline, htr⟩) fun σ H Q ⟨ρ, E, s⟩ => ?_
  refine ⟨ρ, E, (SatG.bind s).imp fun d1 e1 ⟨_, p⟩ v1 H1 F1 sm1 o1 => ?_⟩
  by_cases hi : isDic d1 = true
  · rw [if_pos hi] at p
    obtain ⟨a1, rfl, hD⟩ := isDic_of hi o1
    refine ⟨a1, rfl, hD, ρ, E.same sm1, ?_⟩
    refine ((SatG.bind p).imp fun d2 _ ⟨_, q⟩ v2 H2 F2 sm2 o2 => ?_).later sm1
    unfold gGet at q
    cases h : dlook d1 d2 with
    | none => rw [h] at q; exact q.elim
    | some o =>
      rw [h] at q
      obtain ⟨a2, r2, e2, dg, hs, hn⟩ := dget_of h (own_same sm2 o1) o2
      cases e2
      refine ⟨r2, dg, ?_⟩
      cases o with
      | none =>
        rw [hn rfl]
        exact q .non H2 [] (sm1.trans sm2) (own_non.mpr ⟨rfl, rfl⟩)
      | some d =>
        obtain ⟨v, F, er, ov, _⟩ := hs d rfl
        rw [er]
        exact q v H2 F (sm1.trans sm2) ov
  · rw [if_neg hi] at p
    exact p.elim
end
section
variable {G : Gx} {X : Cx} {W : WX} {pos pos' p : Pos} {x y : Str}
theorem EnvR.junk {H : Hp} {σ : St} {ρ : Evn} {f : Nat → List Addr} {i : Nat} (E : EnvR G H σ ρ f) (h : ∀ s, ρ[i]? = some s → s = .un) (o : Option V) : EnvR G H (σ.set i o) ρ f := by
  refine ⟨by simpa using E.len, fun j d q => ?_, fun j d q => ?_, E.nil, E.nd, E.dj, E.un⟩
  · have hj : j ≠ i := fun e => by subst e; cases h _ q
    rw [List.getElem?_set_ne (Ne.symm hj)]
    exact E.ow j d q
  · have hj : j ≠ i := fun e => by subst e; cases h _ q
    rw [List.getElem?_set_ne (Ne.symm hj)]
    exact E.ro j d q
/-- x = y; y goes on, x is not to be read (but where y holds nothing that can change) -/
def mAli (i j : Nat) : Evn → RS := fun ρ => match ρ[j]? with
  | some (.ow d) => if d.imm = true then .nx (ρ.set i (.ow d)) else .nx (ρ.set i .un)
  | _ => .no
theorem ss_ali (i j : Nat) (hN : X.N.Nodup) (hj : X.N[j]? = some y := by rfl) (hv : Vis X.env.scope y := by first | exact Or.inl rfl | exact Or.inr (Or.inl rfl) | exact Or.inr (Or.inr rfl)) (hi : X.N[i]? = some x := by rfl) (hx : Loc X.env.scope x := by first | exact Or.inl rfl | exact Or.inr rfl)
    (hd : (y == ("__debug__" : Str)) = false := by decide) (hcd : (y == ("__classdict__" : Str)) = false := by decide) (hs : swapsWith (.Name y p) (some (.Name x pos')) pos.line X.env = pure false := by rfl) (hf : X.fn x = true ∨ X.env.scope.names.lookup x = some .local := by first | exact .inl rfl | exact .inr rfl | assumption) :
    SS G X W [i] (mAli i j) (.Assign [.Name x pos'] (.Name y p) pos) := PS.imp (ps_set hN hi hx (pe_var hj hv hd hcd) hs hf) fun D σ H ⟨ρ, f, E, s⟩ => by
  unfold mAli at s
  split at s
  · rename_i d hr
    obtain ⟨v, e1, o⟩ := E.ow j d hr
    refine ⟨v, e1, ?_⟩
    by_cases him : d.imm = true
    · rw [if_pos him] at s
      have e := own_imm d v _ him o
      rw [e] at o
      obtain ⟨f2, E2, l⟩ := E.setOw (Same.refl H) (i := i) o List.nodup_nil fun z hz => by cases hz
      exact s _ _ _ E2 l
    · rw [if_neg him] at s
      have E1 := (E.setUn i).junk (i := i) (fun z hz => by
        by_cases hl : i < ρ.length
        · rw [List.getElem?_set_self hl] at hz; exact (Option.some.inj hz).symm
        · rw [List.set_eq_of_length_le (Nat.not_lt.mp hl)] at hz
          exact absurd (List.getElem?_eq_some_iff.mp hz).1 hl) (some v)
      refine s _ _ _ E1 ⟨Step.same (Same.refl H), fun a ⟨n, hn⟩ => .inl ?_, fun k hk => ?_⟩
      · dsimp only at hn
        split at hn
        · cases hn
        · exact ⟨n, hn⟩
      · rw [List.getElem?_set_ne fun q => hk (by simp [q])]
  · exact s.elim
end
theorem fnM2 {P : Program} {w : World} {K : PySem.W.Frag} {mg : Str → Option Value} {base : Heap} {G : Gx} {x qual : Str} {st : Stmt} {f : Addr} {fd : FuncData} {N ps : List Str} {k n : Nat} {T : List Nat} {m : Evn → RS} {fm : List D → RM} (F : Fun K x qual st f fd) (S : FnScope N ps (defScope st)) (hn : ps.length = n) (hN : n ≤ N.length) (hf : fm = runM n N.length m)
    (body : ∀ (cdv : Value) (A : Around) (outer : List PySem.Env) (s : Shared) (H : Hp) (E : XK), Room k (A.deeper (envOfC qual (defScope st) s.heap.objs.size f cdv)) →
      SSs G (cxOf (L2.CX P w) P w K mg base N qual (defScope st) f cdv A outer s H E) (WE0 E) T m (defBody st)) (hT : 0 ∉ T) : FnOk P w K mg base (L2.CX P w) (k + 1) f fd ps (spM G n fm) := fnM F S hn hN hT hf body
@[simp] theorem ap_get {ma mb : Evn → R D} {ρ : Evn} : mGet ma mb ρ = (ma ρ).bind fun x => if isDic x = true then (mb ρ).bind fun y => (gGet x y).only else .no := rfl
def Slot.ali (o : Option Slot) (k : D → RS) : RS := match o with
  | some (.ow d) => k d
  | _ => .no
@[simp] theorem Slot.ali_ow {d : D} {k : D → RS} : Slot.ali (some (.ow d)) k = k d := rfl
@[simp] theorem ap_ali {i j : Nat} {ρ : Evn} : mAli i j ρ = Slot.ali ρ[j]? fun d => if d.imm = true then .nx (ρ.set i (.ow d)) else .nx (ρ.set i .un) := rfl
@[simp] theorem ap_mv {i j : Nat} {ρ : Evn} : mMv i j ρ = Slot.ali ρ[j]? fun d => if i ≠ j ∧ i < ρ.length then .nx ((ρ.set j .un).set i (.ow d)) else .no := rfl
@[simp] theorem dic_T {ks : List (Int × Int)} {xs : List D} : isDic (.node (.dT ks) xs) = true := rfl
@[simp] theorem dic_K {ks : List Int} {xs : List D} : isDic (.node (.dK ks) xs) = true := rfl
end Rs
/-! ### calls that change slot r, with further arguments that may hold things of other slots -/
namespace Rs
open PySem PySem.Spec PyProof.Rows L2
def tAN (G : Gx) (W : WX) (r : Nat) (m : Evn → R (List D)) : TA := fun σ H Q => ∃ ρ f, EnvR G H σ ρ f ∧ SatG G W (fun ds => ∀ vs H' F, Same H H' → OwnL G H' ds vs F → (∀ a ∈ F, a ∉ f r) → Q vs H') σ H (m ρ)
abbrev SAN (G : Gx) (X : Cx) (W : WX) (r : Nat) (m : Evn → R (List D)) (e : List Expr) : Prop := PA X e (tAN G W r m)
section
variable {G : Gx} {X : Cx} {W : WX} {e : Expr} {es : List Expr} {p pos apos : Pos} {x y : Str} {m : Evn → R D} {ms : Evn → R (List D)} {k n r : Nat} {fm : List D → RM}
theorem san_nil : SAN G X W r mNil [] := PA.imp pa_nil fun σ H Q ⟨ρ, f, E, s⟩ => s [] H [] (Same.refl H) (ownL_nil.mpr ⟨rfl, rfl⟩) fun a ha => by cases ha
theorem san_e (h : SE G X W m e) (hs : SAN G X W r ms es) (hst : starEach (e :: es) X.env = (false, eval e X.env) :: starEach es X.env := by rfl) : SAN G X W r (mCons (mImm m) ms) (e :: es) :=
  PA.imp (pa_cons h hs hst) fun σ H Q ⟨ρ, f, E, s⟩ => ⟨ρ, E.p, by
    have s : SatG G W (fun ds => ∀ vs H' F, Same H H' → OwnL G H' ds vs F → (∀ a ∈ F, a ∉ f r) → Q vs H') σ H ((m ρ).bind fun d => ((if d.imm = true then R.ok d else .no).bind fun d => (ms ρ).bind fun ds => .ok (d :: ds))) := by
      have e1 : mCons (mImm m) ms ρ = ((m ρ).bind fun d => ((if d.imm = true then R.ok d else .no).bind fun d => (ms ρ).bind fun ds => .ok (d :: ds))) := by
        unfold mCons mImm
        cases m ρ <;> rfl
      rw [← e1]; exact s
    refine (SatG.bind s).imp fun d _ ⟨_, p⟩ v H1 F sm o => ?_
    by_cases hi : d.imm = true
    · rw [if_pos hi, R.bind_ok] at p
      have eF := own_imm d v F hi o
      subst eF
      refine ⟨ρ, f, E.same sm, ?_⟩
      refine ((SatG.bind p).imp fun ds _ ⟨_, q⟩ => ?_).later sm
      intro vs H2 F2 sm2 o2 dis
      exact q (v :: vs) H2 F2 (sm.trans sm2) (ownL_cons.mpr ⟨v, vs, [], F2, rfl, own_same sm2 o, o2, rfl⟩) dis
    · rw [if_neg hi, R.bind_no] at p
      exact p.elim⟩
theorem san_var (j : Nat) (hj : j ≠ r) (hs : SAN G X W r ms es) (hN : X.N[j]? = some x := by rfl) (hv : Vis X.env.scope x := by first | exact Or.inl rfl | exact Or.inr (Or.inl rfl) | exact Or.inr (Or.inr rfl)) (hd : (x == ("__debug__" : Str)) = false := by decide) (hcd : (x == ("__classdict__" : Str)) = false := by decide)
    (hst : starEach (.Name x p :: es) X.env = (false, eval (.Name x p) X.env) :: starEach es X.env := by rfl) : SAN G X W r (mCons (mVar j) ms) (.Name x p :: es) :=
  PA.imp (pa_cons (pe_var hN hv hd hcd) hs hst) fun σ H Q ⟨ρ, f, E, s⟩ => by
    have s : SatG G W (fun ds => ∀ vs H' F, Same H H' → OwnL G H' ds vs F → (∀ a ∈ F, a ∉ f r) → Q vs H') σ H ((mVar j ρ).bind fun d => (ms ρ).bind fun ds => .ok (d :: ds)) := s
    unfold mVar at s
    cases er : rdv ρ j with
    | none => rw [er] at s; exact s.elim
    | some d =>
      rw [er] at s
      rw [R.bind_ok] at s
      obtain ⟨v, F, e1, o, dis⟩ : ∃ v F, σ[j]? = some (some v) ∧ Own G H d v F ∧ ∀ a ∈ F, a ∉ f r := by
        unfold rdv at er
        cases es : ρ[j]? with
        | none => rw [es] at er; cases er
        | some sl =>
          rw [es] at er
          cases sl with
          | un => cases er
          | ow d' =>
            cases er
            obtain ⟨v, e1, o⟩ := E.ow j _ es
            exact ⟨v, f j, e1, o, fun a ha hr => hj (E.dj j r a ha hr)⟩
          | ro d' =>
            cases er
            obtain ⟨v, F, e1, o, q⟩ := E.ro j _ es
            exact ⟨v, F, e1, o, fun a ha => q a ha r⟩
      refine ⟨v, e1, ρ, f, E, (SatG.bind s).imp fun ds _ ⟨_, q⟩ => ?_⟩
      intro vs H2 F2 sm2 o2 dis2
      exact q (v :: vs) H2 (F ++ F2) sm2 (ownL_cons.mpr ⟨v, vs, F, F2, rfl, own_same sm2 o, o2, rfl⟩) fun a ha => (List.mem_append.mp ha).elim (dis a) (dis2 a)
/-- as xCall, with such arguments -/
def xCallN (n : Nat) (fm : List D → RM) (r : Nat) (ms : Evn → R (List D)) : Evn → RM := fun ρ => match ρ[r]? with
  | some (.ow d) => match ms ρ with
    | .ok ds => if ds.length + 1 = n then fm (d :: ds) else .no
    | .exc c => .exc c d
    | .no => .no
  | _ => .no
theorem sx_callN (r : Nat) {py : Pos} (c : CalM X.prog X.w X.K X.mg X.base G x k n fm) (tk : Takes X W) (hr : Room k X.A) (hg : Gl X x) (ha : SAN G X W r ms es)
    (hN : X.N[r]? = some y := by rfl) (hv : Vis X.env.scope y := by first | exact Or.inl rfl | exact Or.inr (Or.inl rfl) | exact Or.inr (Or.inr rfl)) (hd : (y == ("__debug__" : Str)) = false := by decide) (hcd : (y == ("__classdict__" : Str)) = false := by decide)
    (hdb : (x == ("__debug__" : Str)) = false := by decide) (he : starEach (.Name y py :: es) X.env = (false, eval (.Name y py) X.env) :: starEach es X.env := by rfl) (hpl : (backTo pos (starEach es X.env)).any (·.1) = false := by rfl) :
    SX G X W r (xCallN n fm r ms) (.Call (.Name x p) (.Name y py :: es) [] pos) := by
  obtain ⟨f, fd, ps, hm, hk, hb, F⟩ := c
  refine PE.imp (pe_callS F hr hg hm hk hb (fun σ => passAt tk σ) (pa_cons (pe_var hN hv hd hcd) ha he) hdb he hpl) fun σ H Q ⟨ρ, ff, E, s⟩ => ?_
  unfold xCallN at s
  split at s
  · rename_i d h1
    obtain ⟨v0, h2, o0⟩ := E.ow r d h1
    refine ⟨v0, h2, ρ, ff, E, ?_⟩
    cases em : ms ρ with
    | ok ds =>
      rw [em] at s
      dsimp only at s
      intro vs H2 F2 sm o2 dis
      by_cases hn : ds.length + 1 = n
      · rw [if_pos hn] at s
        exact ⟨d, v0, ff r, ds, vs, F2, rfl, own_same sm o0, E.nd r, fun b hb => let ⟨o, e, m⟩ := E.un r b hb; ⟨o, sm _ _ e, m⟩, o2, dis, hn, satX_of E sm h1 h2 s⟩
      · rw [if_neg hn] at s
        exact s.elim
    | exc c =>
      rw [em] at s
      have hset : ρ.set r (.ow d) = ρ := by
        apply List.ext_getElem?
        intro i
        by_cases e : i = r
        · subst e
          rw [List.getElem?_set_self (List.getElem?_eq_some_iff.mp h1).1, h1]
        · rw [List.getElem?_set_ne (Ne.symm e)]
      exact fun H' sm => s H' ff (by rw [hset]; exact E.same sm) (Lk.same sm)
    | no => rw [em] at s; exact s.elim
  · exact s.elim
end
end Rs

set_option maxRecDepth 100000
/-! Rs29: xs.index(y); comprehensions over dicts. -/
namespace Rs
open PySem PySem.Spec PyProof.Rows L2
section
variable {G : Gx} {X : Cx} {W : WX} {a b : Expr} {pos apos cpos : Pos} {ma mb : Evn → R D}
def gIndex (d y : D) : R D := match d with
  | .node .lst ys => if okD 58 y = true ∧ okDs 57 ys = true then (match ys.findIdx? fun z => eqD z y with
    | some j => .ok (.int (j : Nat))
    | none => .no) else .no
  | _ => .no
def isLst : D → Bool
  | .node .lst _ => true
  | _ => false
def mIndex (ma mb : Evn → R D) : Evn → R D := fun ρ => (ma ρ).bind fun d => if isLst d = true then (mb ρ).bind fun y => match gIndex d y with
  | .ok d => .ok d
  | _ => .no
  else .no
mutual
theorem okD_mono : ∀ {d : D} {m n : Nat}, m ≤ n → okD m d = true → okD n d = true
  | .non, m, n, _, _ => by simp [okD]
  | .bl _, m, n, _, _ => by simp [okD]
  | .int _, m, n, _, _ => by simp [okD]
  | .str x, m, n, _, h => by simpa [okD] using h
  | .exc c, m, n, _, h => by simp [okD] at h
  | .node hd xs, m, n, hl, h => by
    cases hd with
    | tup => simp [okD] at h ⊢; exact ⟨by omega, okDs_mono (m := m - 1) (by omega) h.2⟩
    | lst => simp [okD] at h ⊢; exact ⟨by omega, okDs_mono (m := m - 1) (by omega) h.2⟩
    | fls => simp [okD] at h ⊢; exact ⟨by omega, okDs_mono (m := m - 1) (by omega) h.2⟩
    | dK _ => simp [okD] at h
    | dT _ => simp [okD] at h
    | ins => simp [okD] at h
theorem okDs_mono : ∀ {ds : List D} {m n : Nat}, m ≤ n → okDs m ds = true → okDs n ds = true
  | [], m, n, _, _ => by simp [okDs]
  | d :: ds, m, n, hl, h => by
    simp [okDs] at h ⊢
    exact ⟨okD_mono hl h.1, okDs_mono hl h.2⟩
end
theorem toPs_get {ys : List D} {j : Nat} {z : D} (h : ys[j]? = some z) : (toPs ys)[j]? = some (toP z) := by
  rw [toPs_map, List.getElem?_map, h]
  rfl
theorem sf_index (hK : X.K = G.K) (hu : X.A.units + 100 < cLine) (ha : SE G X W ma a) (hb : SE G X W mb b)
    (hbase : attributeBase a "index" X.env (eval a X.env) = eval a X.env := by rfl)
    (hfew : ((backTo cpos (starEach [b] X.env)).all (fun x => !x.1) && (backToKw cpos (keywordEach [] X.env)).all (fun x => x.1.isSome)
      && decide (([b] : List Expr).length + ([] : List Keyword).length + (if ([] : List Keyword).isEmpty then 0 else 1) < 30)) = true := by rfl)
    (hline : (apos.endLine == cpos.line) = true := by rfl) (hs : starEach [b] X.env = (false, eval b X.env) :: starEach [] X.env := by rfl) (hplain : (backTo cpos (starEach [] X.env)).any (·.1) = false := by rfl) :
    SF G X W (mIndex ma mb) (.Call (.Attribute a "index" apos) [b] [] cpos) := by
  refine PE.imp (pe_bm PySem.F.plainAttrs_list PySem.F.slot_list_index PySem.F.type_list_index (mt_indexD (by omega)) ha (pa_cons hb pa_nil hs) hbase hfew hline hs hplain) fun σ H Q ⟨ρ, E, s⟩ => ?_
  refine ⟨ρ, E, (SatG.bind s).imp fun d1 e1 ⟨_, p⟩ v1 H1 F1 sm1 o1 => ?_⟩
  by_cases hi : isLst d1 = true
  · rw [if_pos hi] at p
    obtain ⟨ys, rfl⟩ : ∃ ys, d1 = .node .lst ys := by
      unfold isLst at hi
      split at hi
      · exact ⟨_, rfl⟩
      · cases hi
    obtain ⟨a1, vs, F', rfl, hH, ol, _⟩ := own_lst o1
    refine ⟨.inl ⟨rfl, vs, .inl (.inl hH)⟩, ρ, E.same sm1, ?_⟩
    refine ((SatG.bind p).imp fun d2 _ ⟨_, q⟩ v2 H2 F2 sm2 o2 => ?_).later sm1
    unfold gIndex at q
    dsimp only at q
    split at q
    · rename_i hok
      split at hok
      · rename_i hc
        split at hok
        · rename_i j hj
          cases hok
          obtain ⟨hlt, hz, hno⟩ := List.findIdx?_eq_some_iff_getElem.mp hj
          have hall := okDs_iff.mp hc.2
          have okl : okD 60 (.node .lst ys) = true := by
            simp only [okD, Bool.and_eq_true]
            exact ⟨by decide, okDs_mono (m := 57) (by omega) hc.2⟩
          rw [hK]
          refine ⟨a1, v2, toP d2, toPs ys, j, toP ys[j], rfl, rfl, ?_, ?_, okD_shaped okl, okD_shaped (okD_mono (m := 58) (by omega) hc.1), toPs_get (List.getElem?_eq_getElem hlt), hz, fun m z' hm hz' => ?_, ?_⟩
          · exact dp_of 60 _ _ _ okl (own_same sm2 o1)
          · exact dp_of 58 _ _ _ hc.1 o2
          · have hmlt : m < ys.length := by omega
            rw [toPs_get (List.getElem?_eq_getElem hmlt)] at hz'
            cases hz'
            have e3 : eqD ys[m] d2 = false := by simpa using hno m hm
            exact e3
          · exact q (.int (j : Nat)) H2 [] (sm1.trans sm2) (own_int.mpr ⟨rfl, rfl⟩) List.nodup_nil fun z hz => by cases hz
        · cases hok
      · cases hok
    · exact q.elim
  · rw [if_neg hi] at p
    exact p.elim
end
/-! ### comprehensions over dicts -/
theorem lc_keysT {d : Addr} {o : Obj} {kvs : List (List Key × V)} {g : TG} {tt : TT} {te : TE} {vs : List Nat} {σ : St} {H1 : Hp} {D : Addr} {Qd : Hp → Prop} (Pv : Nat → Hp → Prop) (h0 : Pv 0 (upd H1 D (.lst []))) (hl : ∀ i H, Pv i H → H d = some (.frz o (.dT kvs)))
    (hs : ∀ i k v q H, kvs[i]? = some (k, v) → H q = some (.tup (k.map kV)) → Pv i H → g (.ref q) (wipe σ vs) H fun σ2 H2 => wipe σ2 vs = wipe σ vs ∧ tt σ2 H2 fun b H3 =>
      if b = true then te σ2 H3 fun y H4 => ∃ acc, H4 D = some (.lst acc) ∧ acc.length < sizeLine ∧ Pv (i + 1) (upd H4 D (.lst (acc ++ [y]))) else Pv (i + 1) H3) (hd : ∀ H, Pv kvs.length H → Qd H) :
    ∃ W : Nat → Nat → Hp → Prop, (∃ m, W 0 m (upd H1 D (.lst []))) ∧ ∀ i m H, W i m H →
      ((Itkt d o kvs).stop i H ∧ Qd H) ∨ ((Itkt d o kvs).go i H ∧ ∃ Nx : Hp → Prop, (∀ H', Nx H' → ∃ m', m' < m ∧ W (i + 1) m' H') ∧ ∀ x H', (Itkt d o kvs).yld i H x H' → g x (wipe σ vs) H' fun σ2 H2 => wipe σ2 vs = wipe σ vs ∧ tt σ2 H2 fun b H3 =>
        if b = true then te σ2 H3 fun y H4 => ∃ acc, H4 D = some (.lst acc) ∧ acc.length < sizeLine ∧ Nx (upd H4 D (.lst (acc ++ [y]))) else Nx H3) := by
  refine ⟨fun i m H => m = kvs.length - i ∧ i ≤ kvs.length ∧ Pv i H, ⟨kvs.length, by simp, Nat.zero_le _, h0⟩, ?_⟩
  rintro i m H ⟨rfl, hi, p⟩
  have q := hl i H p
  by_cases hlt : i < kvs.length
  · refine .inr ⟨⟨q, hlt⟩, Pv (i + 1), fun H' p' => ⟨kvs.length - (i + 1), by omega, rfl, hlt, p'⟩, fun x H' y => ?_⟩
    obtain ⟨e, k, v, b, e1, e2, e3⟩ := y
    subst e e2
    exact hs i k v b _ e1 e3 p
  · have e : i = kvs.length := by omega
    subst e
    exact .inl ⟨⟨q, Nat.le_refl _⟩, hd H p⟩
theorem lc_keysK {d : Addr} {o : Obj} {kvs : List (Key × V)} {g : TG} {tt : TT} {te : TE} {vs : List Nat} {σ : St} {H1 : Hp} {D : Addr} {Qd : Hp → Prop} (Pv : Nat → Hp → Prop) (h0 : Pv 0 (upd H1 D (.lst []))) (hl : ∀ i H, Pv i H → H d = some (.frz o (.dK kvs)))
    (hs : ∀ i k v H, kvs[i]? = some (k, v) → Pv i H → g (kV k) (wipe σ vs) H fun σ2 H2 => wipe σ2 vs = wipe σ vs ∧ tt σ2 H2 fun b H3 =>
      if b = true then te σ2 H3 fun y H4 => ∃ acc, H4 D = some (.lst acc) ∧ acc.length < sizeLine ∧ Pv (i + 1) (upd H4 D (.lst (acc ++ [y]))) else Pv (i + 1) H3) (hd : ∀ H, Pv kvs.length H → Qd H) :
    ∃ W : Nat → Nat → Hp → Prop, (∃ m, W 0 m (upd H1 D (.lst []))) ∧ ∀ i m H, W i m H →
      ((Itk d o kvs).stop i H ∧ Qd H) ∨ ((Itk d o kvs).go i H ∧ ∃ Nx : Hp → Prop, (∀ H', Nx H' → ∃ m', m' < m ∧ W (i + 1) m' H') ∧ ∀ x H', (Itk d o kvs).yld i H x H' → g x (wipe σ vs) H' fun σ2 H2 => wipe σ2 vs = wipe σ vs ∧ tt σ2 H2 fun b H3 =>
        if b = true then te σ2 H3 fun y H4 => ∃ acc, H4 D = some (.lst acc) ∧ acc.length < sizeLine ∧ Nx (upd H4 D (.lst (acc ++ [y]))) else Nx H3) := by
  refine ⟨fun i m H => m = kvs.length - i ∧ i ≤ kvs.length ∧ Pv i H, ⟨kvs.length, by simp, Nat.zero_le _, h0⟩, ?_⟩
  rintro i m H ⟨rfl, hi, p⟩
  have q := hl i H p
  by_cases hlt : i < kvs.length
  · refine .inr ⟨⟨q, hlt⟩, Pv (i + 1), fun H' p' => ⟨kvs.length - (i + 1), by omega, rfl, hlt, p'⟩, fun x H' y => ?_⟩
    obtain ⟨e, k, v, e1, e2⟩ := y
    subst e e2
    exact hs i k v _ e1 p
  · have e : i = kvs.length := by omega
    subst e
    exact .inl ⟨⟨q, Nat.le_refl _⟩, hd H p⟩
section
variable {G : Gx} {X : Cx} {W : WX}
def mLcK (i r : Nat) (t : Evn → R Bool) (e : Evn → R D) : Evn → R D := fun ρ => match rdv ρ r with
  | some (.node (.dT ks) _) => lcR i t e (ks.map pairD) ρ
  | some (.node (.dK ks) _) => lcR i t e (ks.map D.int) ρ
  | _ => .no
variable {elt : Expr} {ifs : List Expr} {scope : Scope} {x y : Str} {p p' pos : Pos} {tm : Evn → R Bool} {em : Evn → R D}
/-- what a locked reading gives behind the lock -/
theorem unlock_q {H H' : Hp} {a : Addr} {od : Obj} {u : HO} {rs : List D} {Q : VK} (hu : DicO u) (ha : H a = some u)
    (q : ∀ v H' F, Same H H' → Own G H' (.node .lst rs) v F → F.Nodup → (∀ a ∈ F, H a = none ∧ ∃ o, H' a = some o ∧ MutO o) → Q v H')
    {v : V} {F : List Addr} (sm : Same (upd H a (.frz od u)) H') (o : Own G H' (.node .lst rs) v F) (nd : F.Nodup) (fr : ∀ b ∈ F, upd H a (.frz od u) b = none ∧ ∃ o, H' b = some o ∧ MutO o) : H' a = some (.frz od u) ∧ Q v (upd H' a u) := by
  have hf : H' a = some (.frz od u) := sm _ _ upd_same
  refine ⟨hf, q v _ F (fun b ob e => ?_) (own_kp (kp_unlock hf hu) o) nd fun b hb => ?_⟩
  · by_cases e1 : b = a
    · subst e1
      rw [ha] at e
      cases e
      exact upd_same
    · rw [upd_ne e1]
      exact sm _ _ (by rw [upd_ne e1]; exact e)
  · obtain ⟨n1, o', e', m⟩ := fr b hb
    have e1 : b ≠ a := fun z => by rw [z, upd_same] at n1; cases n1
    rw [upd_ne e1] at n1
    exact ⟨n1, o', by rw [upd_ne e1]; exact e', m⟩
theorem sf_lcK (i r : Nat) (hc : X.calm = true) (hN : X.N.Nodup)
    (ok : BlkOk X.N X.env.scope scope [(x, i)])
    (hg : ∀ (s : Shared) (H : Hp) (C : Addr) (cl : List (Str × Addr)) (fp : List Addr), PG (X.blk s H scope (compEnvC scope cl C X.env) fp) (.Name x p) (gName i))
    (ht : ∀ (s : Shared) (H : Hp) (C : Addr) (cl : List (Str × Addr)) (fp : List Addr), STs G (X.blk s H scope (compEnvC scope cl C X.env) fp) W0 tm ifs)
    (he : ∀ (s : Shared) (H : Hp) (C : Addr) (cl : List (Str × Addr)) (fp : List Addr), SF G (X.blk s H scope (compEnvC scope cl C X.env) fp) W0 em elt)
    (hy : X.N[r]? = some y := by rfl) (hv : Vis X.env.scope y := by first | exact Or.inl rfl | exact Or.inr (Or.inl rfl) | exact Or.inr (Or.inr rfl)) (hs : ∀ z, foldedSetIterable (.Name y p') X.env z = pure z := by intro _; rfl)
    (hd : (y == ("__debug__" : Str)) = false := by decide) (hcd : (y == ("__classdict__" : Str)) = false := by decide) :
    SF G X W (mLcK i r tm em) (.ListComp elt [⟨.Name x p, .Name y p', ifs, 0⟩] scope pos) := by
  have base := pe_lc (pos := pos) (own := [(x, i)]) hc hN (pi_keys (tg := .Name x p) (pe_var (pos := p') hy hv hd hcd)) ok hg ht he hs
  refine PE.imp (PE.or (pe_lock base) base) fun σ H Q ⟨ρ, E, s⟩ => ?_
  unfold mLcK at s
  split at s
  · rename_i ks ds hr
    obtain ⟨hlen, rs, hrs, q⟩ := lcR_ok s
    obtain ⟨v, F, e1, o⟩ := E.rd r _ hr
    obtain ⟨a, kvs, F1, rfl, rd, hk, ol, ef⟩ := own_dT o
    have hkl : kvs.length = ks.length := by have := congrArg List.length hk; simpa using this
    have loop : ∀ (H : Hp) (Q : VK) (od : Obj), H a = some (.frz od (.dT kvs)) → EnvP G H σ ρ → (∀ v H' F, Same H H' → Own G H' (.node .lst rs) v F → F.Nodup → (∀ a ∈ F, H a = none ∧ ∃ o, H' a = some o ∧ MutO o) → Q v H') → tLc (iKeys (tVar r)) (gName i) (tT G W0 tm) (tF G W0 em) [i] σ H Q := fun H Q od hf E q => by
      refine ⟨.ref a, e1, a, od, rfl, .inr ⟨kvs, hf, fun L hL => ?_⟩⟩
      refine lc_keysT (LcI G i tm em (ks.map pairD) rs ρ H L) (lc_start hL hrs) (fun k H' I => I.same _ _ hf) (fun k key v b H' hkv hb I => ?_) fun H' I => ?_
      · have hlt : k < ks.length := by
          have := (List.getElem?_eq_some_iff.mp hkv).1
          rw [← hkl]; exact this
        have ek : key = kp ks[k] := by
          have h1 : (kvs.map (·.1))[k]? = some key := by rw [List.getElem?_map, hkv]; rfl
          rw [hk, List.getElem?_map, List.getElem?_eq_getElem hlt] at h1
          exact (Option.some.inj h1).symm
        subst ek
        exact lc_turn hlen hL E I (by rw [List.getElem?_map, List.getElem?_eq_getElem hlt]; rfl) (keyD_own hb)
      · exact lc_end hL (by rw [List.length_map, hkl]; exact Nat.le_refl _) I q
    rcases rd with rd | ⟨od, rd⟩
    · refine .inl ⟨a, .dT kvs, rd, trivial, fun od => ?_⟩
      exact loop _ _ od upd_same (E.kp (kp_lock rd trivial)) fun v H' F sm o nd fr => unlock_q (u := .dT kvs) trivial rd q sm o nd fr
    · exact .inr (loop H Q od rd E q)
  · rename_i ks ds hr
    obtain ⟨hlen, rs, hrs, q⟩ := lcR_ok s
    obtain ⟨v, F, e1, o⟩ := E.rd r _ hr
    obtain ⟨a, kvs, F1, rfl, rd, hk, ol, ef⟩ := own_dK o
    have hkl : kvs.length = ks.length := by have := congrArg List.length hk; simpa using this
    have loop : ∀ (H : Hp) (Q : VK) (od : Obj), H a = some (.frz od (.dK kvs)) → EnvP G H σ ρ → (∀ v H' F, Same H H' → Own G H' (.node .lst rs) v F → F.Nodup → (∀ a ∈ F, H a = none ∧ ∃ o, H' a = some o ∧ MutO o) → Q v H') → tLc (iKeys (tVar r)) (gName i) (tT G W0 tm) (tF G W0 em) [i] σ H Q := fun H Q od hf E q => by
      refine ⟨.ref a, e1, a, od, rfl, .inl ⟨kvs, hf, fun L hL => ?_⟩⟩
      refine lc_keysK (LcI G i tm em (ks.map D.int) rs ρ H L) (lc_start hL hrs) (fun k H' I => I.same _ _ hf) (fun k key v H' hkv I => ?_) fun H' I => ?_
      · have hlt : k < ks.length := by
          have := (List.getElem?_eq_some_iff.mp hkv).1
          rw [← hkl]; exact this
        have ek : key = Sum.inl ks[k] := by
          have h1 : (kvs.map (·.1))[k]? = some key := by rw [List.getElem?_map, hkv]; rfl
          rw [hk, List.getElem?_map, List.getElem?_eq_getElem hlt] at h1
          exact (Option.some.inj h1).symm
        subst ek
        exact lc_turn hlen hL E I (by rw [List.getElem?_map, List.getElem?_eq_getElem hlt]; rfl) (own_int.mpr ⟨rfl, rfl⟩)
      · exact lc_end hL (by rw [List.length_map, hkl]; exact Nat.le_refl _) I q
    rcases rd with rd | ⟨od, rd⟩
    · refine .inl ⟨a, .dK kvs, rd, trivial, fun od => ?_⟩
      exact loop _ _ od upd_same (E.kp (kp_lock rd trivial)) fun v H' F sm o nd fr => unlock_q (u := .dK kvs) trivial rd q sm o nd fr
    · exact .inr (loop H Q od rd E q)
  · exact s.elim
end
/-! ### walks over what a slot that stands still holds -/
section
variable {G : Gx} {X : Cx} {W : WX} {a b : Expr} {pos : Pos} {ma mb : Evn → R D}
theorem sn_ix (hK : X.K = G.K) (hu : X.A.units + 100 < cLine) (ha : SN G X W ma a) (hb : SE G X W mb b) (hs : PlainIx b := by exact fun _ _ => rfl) : SN G X W (mBinE gIx ma mb) (.Subscript a b pos) := by
  refine PE.imp (PE.or (pe_ix (ix_list.or ix_tup) ha hb hs) (pe_dget (by omega) ha hb hs)) fun σ H Q ⟨ρ, f, E, s⟩ => ?_
  have left : (∀ d1, ma ρ = .ok d1 → ∃ xs, d1.seq = some xs) → tOp (fun x y H Q => rIxL X.K x y H Q ∨ rIxT X.K x y H Q) (tN G W ma) (tE G W mb) σ H Q := fun hd => by
    refine ⟨ρ, f, E, (SatG.bind s).imp fun d1 e1 ⟨_, p⟩ v1 H1 F1 sm1 o1 nf => ⟨ρ, (E.same sm1).p, ?_⟩⟩
    refine ((SatG.bind p).imp fun d2 _ ⟨_, q⟩ v2 H2 F2 sm2 o2 => ?_).later sm1
    obtain ⟨xs, hx⟩ := hd d1 e1
    unfold gIx at q
    rw [hx] at q
    cases d2 with
    | int i =>
      dsimp only at q
      cases e3 : atI xs i with
      | none => rw [e3] at q; exact q.elim
      | some x =>
        rw [e3] at q
        obtain ⟨rfl, _⟩ := own_int.mp o2
        obtain ⟨p', vs, F', rfl, hsq, ol, hsub⟩ := own_seq hx (own_same sm2 o1)
        obtain ⟨v, F3, e4, o3, hsub3⟩ := atI_own e3 ol
        have fin := q v H2 F3 (sm1.trans sm2) o3 fun z hz => nf z (hsub z (hsub3 z hz))
        rw [hK]
        rcases hsq with hsq | hsq
        · exact .inl ⟨p', vs, i, v, rfl, rfl, hsq, e4, fin⟩
        · exact .inr ⟨p', vs, i, v, rfl, rfl, hsq, e4, fin⟩
    | _ => exact q.elim
  cases e1 : ma ρ with
  | ok d1 =>
    cases hx : d1.seq with
    | some xs => exact .inl (left fun d h => by rw [e1] at h; cases h; exact ⟨xs, hx⟩)
    | none =>
      refine .inr ⟨ρ, f, E, (SatG.bind s).imp fun d1' e1' ⟨_, p⟩ v1 H1 F1 sm1 o1 nf => ⟨ρ, (E.same sm1).p, ?_⟩⟩
      rw [e1] at e1'
      cases e1'
      refine ((SatG.bind p).imp fun d2 _ ⟨_, q⟩ v2 H2 F2 sm2 o2 => ?_).later sm1
      unfold gIx at q
      rw [hx] at q
      dsimp only at q
      cases hl : dlook d1 d2 with
      | none => rw [hl] at q; exact q.elim
      | some o =>
        rw [hl] at q
        cases o with
        | none => exact q.elim
        | some x =>
          obtain ⟨a2, r2, e2, dg, hs, _⟩ := dget_of hl (own_same sm2 o1) o2
          obtain ⟨v, F3, e3, o3, hsub⟩ := hs x rfl
          subst e3
          exact ⟨a2, v, e2, dg, q v H2 F3 (sm1.trans sm2) o3 fun z hz => nf z (hsub z hz)⟩
  | exc c =>
    refine .inl (left fun d h => by rw [e1] at h; cases h)
  | no =>
    refine .inl (left fun d h => by rw [e1] at h; cases h)
end
def dicR (d : D) (k : List D → R D) : R D := match d with
  | .node (.dT ks) _ => k (ks.map pairD)
  | .node (.dK ks) _ => k (ks.map D.int)
  | _ => .no
@[simp] theorem dicR_T {ks : List (Int × Int)} {xs : List D} {k : List D → R D} : dicR (.node (.dT ks) xs) k = k (ks.map pairD) := rfl
@[simp] theorem dicR_K {ks : List Int} {xs : List D} {k : List D → R D} : dicR (.node (.dK ks) xs) k = k (ks.map D.int) := rfl
@[simp] theorem ap_lcK {i r : Nat} {t : Evn → R Bool} {e : Evn → R D} {ρ : Evn} : mLcK i r t e ρ = (Slot.val ρ[r]?).bind fun d => dicR d fun xs => lcR i t e xs ρ := by
  unfold mLcK rdv dicR
  cases ρ[r]? with
  | none => rfl
  | some q =>
    cases q with
    | un => rfl
    | ow d =>
      cases d with
      | node hd xs => cases hd <;> rfl
      | _ => rfl
    | ro d =>
      cases d with
      | node hd xs => cases hd <;> rfl
      | _ => rfl
@[simp] theorem ap_index {ma mb : Evn → R D} {ρ : Evn} : mIndex ma mb ρ = (ma ρ).bind fun d => if isLst d = true then (mb ρ).bind fun y => (gIndex d y).only else .no := rfl
@[simp] theorem lst_is {xs : List D} : isLst (.node .lst xs) = true := rfl
end Rs

set_option maxRecDepth 100000
/-! RsA: area, by places. -/
namespace Rs
open PySem PySem.Spec PyProof.Rows L2
def rowP (lo : Int) (n : Nat) (r : Int) : List (Int × Int) := (List.range n).map fun (k : Nat) => (r, lo + (k : Nat))
def boxP (top : Int) (high : Nat) (left : Int) (wide : Nat) : List (Int × Int) := (List.range high).flatMap fun (k : Nat) => rowP left wide (top + (k : Nat))
/-- the places between two -/
def areaP (a b c d : Int) : List (Int × Int) := boxP (min a c) (max a c + 1 - min a c).toNat (min b d) (max b d + 1 - min b d).toNat
theorem rowP_len {lo : Int} {n : Nat} {r : Int} : (rowP lo n r).length = n := by simp [rowP]
theorem boxP_len {t : Int} {h : Nat} {l : Int} {w : Nat} : (boxP t h l w).length = h * w := by
  simp [boxP, List.length_flatMap, rowP_len, List.map_const', List.sum_replicate_nat]
theorem boxP_succ {t : Int} {h : Nat} {l : Int} {w : Nat} : boxP t (h + 1) l w = boxP t h l w ++ rowP l w (t + (h : Nat)) := by
  simp [boxP, List.range_succ]
theorem rowP_succ {l : Int} {w : Nat} {r : Int} : rowP l (w + 1) r = rowP l w r ++ [(r, l + (w : Nat))] := by
  simp [rowP, List.range_succ]
/-- by one number -/
theorem boxP_dm {t : Int} {h : Nat} {l : Int} {w : Nat} : boxP t h l w = (List.range (h * w)).map fun (k : Nat) => (t + ((k / w : Nat) : Int), l + ((k % w : Nat) : Int)) := by
  induction h with
  | zero => simp [boxP]
  | succ h ih =>
    rw [boxP_succ, ih, Nat.succ_mul, List.range_add, List.map_append, List.map_map]
    congr 1
    unfold rowP
    refine List.map_congr_left fun k hk => ?_
    have hk : k < w := List.mem_range.mp hk
    have h1 : (h * w + k) / w = h := by
      rw [Nat.add_comm, Nat.add_mul_div_right _ _ (by omega), Nat.div_eq_of_lt hk]
      omega
    have h2 : (h * w + k) % w = k := by
      rw [Nat.add_comm, Nat.add_mul_mod_self_right, Nat.mod_eq_of_lt hk]
    simp only [Function.comp, h1, h2]
theorem rangeD_get {lo : Int} {n k : Nat} {x : D} (h : (rangeD lo n)[k]? = some x) : x = .int (lo + (k : Nat)) ∧ k < n := by
  unfold rangeD at h
  rw [List.getElem?_map] at h
  by_cases hk : k < n
  · rw [List.getElem?_range hk] at h
    cases h
    exact ⟨rfl, hk⟩
  · rw [List.getElem?_eq_none (by simpa using hk)] at h
    cases h
theorem rangeD_len {lo : Int} {n : Nat} : (rangeD lo n).length = n := by simp [rangeD]
def m_area : Evn → RS :=
    (mSeq (mSet 2 (mLst mNil))
    (mSeq (mForR 3 (mCons (mCall gMin2 (mCons (mBinE gIx (mVar 0) (mC (.int 0))) (mCons (mBinE gIx (mVar 1) (mC (.int 0))) mNil))) (mCons (mBin gAdd (mCall gMax2 (mCons (mBinE gIx (mVar 0) (mC (.int 0))) (mCons (mBinE gIx (mVar 1) (mC (.int 0))) mNil))) (mC (.int 1))) mNil)) (mForR 4 (mCons (mCall gMin2 (mCons (mBinE gIx (mVar 0) (mC (.int 1))) (mCons (mBinE gIx (mVar 1) (mC (.int 1))) mNil))) (mCons (mBin gAdd (mCall gMax2 (mCons (mBinE gIx (mVar 0) (mC (.int 1))) (mCons (mBinE gIx (mVar 1) (mC (.int 1))) mNil))) (mC (.int 1))) mNil)) (mMut "list" gAppend 2 pRoot (mCons (mTup (mCons (mImm (mVar 3)) (mCons (mImm (mVar 4)) mNil))) mNil))))
    (mRetV 2)))
def f_area : List D → R D := runP 2 5 m_area
theorem area_run {a b c d : Int} {xs ys : List D} (hn : (max a c + 1 - min a c).toNat * (max b d + 1 - min b d).toNat < 100000) :
    f_area [.node .tup (.int a :: .int b :: xs), .node .tup (.int c :: .int d :: ys)] = .ok (.node .lst ((areaP a b c d).map pairD)) := by
  have g0 : ∀ (u v : Int) (zs : List D), gIx (.node .tup (.int u :: .int v :: zs)) (.int 0) = .ok (.int u) := fun u v zs => gIx_at (k := 0) rfl rfl rfl
  have g1 : ∀ (u v : Int) (zs : List D), gIx (.node .tup (.int u :: .int v :: zs)) (.int 1) = .ok (.int v) := fun u v zs => gIx_at (k := 1) rfl rfl rfl
  generalize eh : (max a c + 1 - min a c).toNat = h at hn
  generalize ew : (max b d + 1 - min b d).toNat = w at hn
  let R1 : Slot := .ro (.node .tup (.int a :: .int b :: xs))
  let R2 : Slot := .ro (.node .tup (.int c :: .int d :: ys))
  have outer := forL_inv (i := 3) (body := mForR 4 (mCons (mCall gMin2 (mCons (mBinE gIx (mVar 0) (mC (.int 1))) (mCons (mBinE gIx (mVar 1) (mC (.int 1))) mNil))) (mCons (mBin gAdd (mCall gMax2 (mCons (mBinE gIx (mVar 0) (mC (.int 1))) (mCons (mBinE gIx (mVar 1) (mC (.int 1))) mNil))) (mC (.int 1))) mNil)) (mMut "list" gAppend 2 pRoot (mCons (mTup (mCons (mImm (mVar 3)) (mCons (mImm (mVar 4)) mNil))) mNil)))
    (xs := rangeD (min a c) h) (ρ := [R1, R2, .ow (.node .lst []), .un, .un]) (I := fun k ρ => ∃ s1 s2, ρ = [R1, R2, .ow (.node .lst ((boxP (min a c) k (min b d) w).map pairD)), s1, s2])
    ⟨_, _, rfl⟩ fun k x ρ hx ⟨s1, s2, e⟩ => by
      subst e
      obtain ⟨rfl, hk⟩ := rangeD_get hx
      have inner := forL_inv (i := 4) (body := mMut "list" gAppend 2 pRoot (mCons (mTup (mCons (mImm (mVar 3)) (mCons (mImm (mVar 4)) mNil))) mNil)) (xs := rangeD (min b d) w)
        (ρ := [R1, R2, .ow (.node .lst ((boxP (min a c) k (min b d) w).map pairD)), .ro (.int (min a c + (k : Nat))), s2])
        (I := fun j ρ => ∃ s2, ρ = [R1, R2, .ow (.node .lst ((boxP (min a c) k (min b d) w ++ rowP (min b d) j (min a c + (k : Nat))).map pairD)), .ro (.int (min a c + (k : Nat))), s2])
        ⟨s2, by simp [rowP]⟩ fun j y ρ hy ⟨s2, e⟩ => by
          subst e
          obtain ⟨rfl, hj⟩ := rangeD_get hy
          have hl : k * w + j < 100000 := by
            have : k * w + w ≤ h * w := by rw [← Nat.succ_mul]; exact Nat.mul_le_mul_right _ hk
            omega
          refine ⟨_, ?_, .ro (.int (min b d + (j : Nat))), rfl⟩
          simp [R1, R2, boxP_len, rowP_len, hl, rowP_succ, pairD]
      obtain ⟨ρ', e1, s3, e2⟩ := inner
      rw [rangeD_len] at e2
      rw [← boxP_succ] at e2
      exact ⟨ρ', by simpa [R1, R2, g0, g1, ew] using e1, _, _, e2⟩
  obtain ⟨ρ', e1, s1, s2, e2⟩ := outer
  subst e2
  rw [rangeD_len] at e1
  unfold f_area
  rw [run_out]
  unfold m_area
  simp [g0, g1, eh, ew] at e1 ⊢
  simp [R1, R2] at e1
  rw [e1]
  simp [areaP, eh, ew]
end Rs

set_option maxRecDepth 100000
/-! RsR: rules. -/
namespace Rs
open PySem PySem.Spec PyProof.Rows L2
theorem eq_w {u v : Str} {b : Bool} (h : okD 60 (.str u) = true ∧ okD 60 (.str v) = true) (e : eqD (.str u) (.str v) = b) : gEq (.str u) (.str v) = .ok (.bl b) := by
  unfold gEq
  rw [if_pos h, e]
theorem ne_w {u v : Str} {b : Bool} (h : okD 60 (.str u) = true ∧ okD 60 (.str v) = true) (e : eqD (.str u) (.str v) = b) : gNe (.str u) (.str v) = .ok (.bl (!b)) := by
  unfold gNe
  rw [if_pos h, e]
section
variable {x0 x1 x2 x3 x4 : D} {xs : List D}
@[simp] theorem ix_t0 : gIx (.node .tup (x0 :: xs)) (.int 0) = .ok x0 := gIx_at (k := 0) rfl rfl rfl
@[simp] theorem ix_t1 : gIx (.node .tup (x0 :: x1 :: xs)) (.int 1) = .ok x1 := gIx_at (k := 1) rfl rfl rfl
@[simp] theorem ix_t2 : gIx (.node .tup (x0 :: x1 :: x2 :: xs)) (.int 2) = .ok x2 := gIx_at (k := 2) rfl rfl rfl
@[simp] theorem ix_t3 : gIx (.node .tup (x0 :: x1 :: x2 :: x3 :: xs)) (.int 3) = .ok x3 := gIx_at (k := 3) rfl rfl rfl
@[simp] theorem ix_t4 : gIx (.node .tup (x0 :: x1 :: x2 :: x3 :: x4 :: xs)) (.int 4) = .ok x4 := gIx_at (k := 4) rfl rfl rfl
@[simp] theorem ix_l0 : gIx (.node .lst (x0 :: xs)) (.int 0) = .ok x0 := gIx_at (k := 0) rfl rfl rfl
@[simp] theorem ix_l1 : gIx (.node .lst (x0 :: x1 :: xs)) (.int 1) = .ok x1 := gIx_at (k := 1) rfl rfl rfl
@[simp] theorem ix_l2 : gIx (.node .lst (x0 :: x1 :: x2 :: xs)) (.int 2) = .ok x2 := gIx_at (k := 2) rfl rfl rfl
/-- all but the first -/
@[simp] theorem sl_tail (h : D.imms (x0 :: xs) = true) : gSl (.node .tup (x0 :: xs)) (some 1) none = .ok (.node .tup xs) := by
  have e1 : HT.sIx (x0 :: xs).length 0 (some 1) = 1 := by
    unfold HT.sIx
    simp
    try omega
  have e2 : HT.sIx (x0 :: xs).length (x0 :: xs).length none = (x0 :: xs).length := rfl
  have c : ¬ (HT.sIx (x0 :: xs).length 0 (some 1) = 0 ∧ HT.sIx (x0 :: xs).length (x0 :: xs).length none = (x0 :: xs).length) := by rw [e1]; omega
  show (if _ then _ else _) = _
  rw [if_pos ⟨c, h⟩]
  unfold cutD
  rw [e1, e2]
  simp
end
structure Ref where
  r : Int
  c : Int
  sr : Bool
  sc : Bool
def Ref.toD (x : Ref) : D := .node .tup [.int x.r, .int x.c, .bl x.sr, .bl x.sc]
inductive Op where
  | add | sub | mul
def Op.nm : Op → Str
  | .add => "add"
  | .sub => "sub"
  | .mul => "mul"
inductive Ru where
  | num (i : Int) | cell (a : Ref) | sum (a b : Ref) | most (a b : Ref) | op (w : Op) (x y : Ru) | pick (x y z : Ru) | look (k : Ru) (a b : Ref) (o : Ru)
def Ru.toD : Ru → D
  | .num i => .node .tup [.str "num", .int i]
  | .cell a => .node .tup [.str "cell", a.toD]
  | .sum a b => .node .tup [.str "sum", a.toD, b.toD]
  | .most a b => .node .tup [.str "most", a.toD, b.toD]
  | .op w x y => .node .tup [.str w.nm, x.toD, y.toD]
  | .pick x y z => .node .tup [.str "pick", x.toD, y.toD, z.toD]
  | .look k a b o => .node .tup [.str "look", k.toD, a.toD, b.toD, o.toD]
def Ru.dep : Ru → Nat
  | .op _ x y => max x.dep y.dep + 1
  | .pick x y z => max x.dep (max y.dep z.dep) + 1
  | .look k _ _ o => max k.dep o.dep + 1
  | _ => 1
@[simp] theorem Ref.imm (x : Ref) : x.toD.imm = true := by simp [Ref.toD]
@[simp] theorem Ru.imm : ∀ x : Ru, x.toD.imm = true
  | .num i => by simp [Ru.toD]
  | .cell a => by simp [Ru.toD]
  | .sum a b => by simp [Ru.toD]
  | .most a b => by simp [Ru.toD]
  | .op w x y => by simp [Ru.toD, Ru.imm x, Ru.imm y]
  | .pick x y z => by simp [Ru.toD, Ru.imm x, Ru.imm y, Ru.imm z]
  | .look k a b o => by simp [Ru.toD, Ru.imm k, Ru.imm o]
theorem Ru.dep_pos : ∀ x : Ru, 0 < x.dep := fun x => by cases x <;> simp [Ru.dep]
@[simp] theorem strOk_num : PyData.strOk "num" = true := by decide +kernel
@[simp] theorem strOk_cell : PyData.strOk "cell" = true := by decide +kernel
@[simp] theorem strOk_sum : PyData.strOk "sum" = true := by decide +kernel
@[simp] theorem strOk_most : PyData.strOk "most" = true := by decide +kernel
@[simp] theorem strOk_pick : PyData.strOk "pick" = true := by decide +kernel
@[simp] theorem strOk_look : PyData.strOk "look" = true := by decide +kernel
@[simp] theorem strOk_op (w : Op) : PyData.strOk w.nm = true := by cases w <;> decide +kernel
@[simp] theorem Ref.ok (x : Ref) {n : Nat} (h : 0 < n) : okD n x.toD = true := by simp [Ref.toD, okD, okDs, h]
theorem Ru.ok : ∀ (x : Ru) {n : Nat}, x.dep < n → okD n x.toD = true
  | .num i, n, h => by
    have : 0 < n := by simp [Ru.dep] at h; omega
    simp [Ru.toD, okD, okDs, this]
  | .cell a, n, h => by
    simp [Ru.dep] at h
    simp [Ru.toD, okD, okDs, show 0 < n by omega, a.ok (n := n - 1) (by omega)]
  | .sum a b, n, h => by
    simp [Ru.dep] at h
    simp [Ru.toD, okD, okDs, show 0 < n by omega, a.ok (n := n - 1) (by omega), b.ok (n := n - 1) (by omega)]
  | .most a b, n, h => by
    simp [Ru.dep] at h
    simp [Ru.toD, okD, okDs, show 0 < n by omega, a.ok (n := n - 1) (by omega), b.ok (n := n - 1) (by omega)]
  | .op w x y, n, h => by
    simp [Ru.dep] at h
    simp [Ru.toD, okD, okDs, show 0 < n by omega, x.ok (n := n - 1) (by omega), y.ok (n := n - 1) (by omega)]
  | .pick x y z, n, h => by
    simp [Ru.dep] at h
    simp [Ru.toD, okD, okDs, show 0 < n by omega, x.ok (n := n - 1) (by omega), y.ok (n := n - 1) (by omega), z.ok (n := n - 1) (by omega)]
  | .look k a b o, n, h => by
    simp [Ru.dep] at h
    simp [Ru.toD, okD, okDs, show 0 < n by omega, k.ok (n := n - 1) (by omega), o.ok (n := n - 1) (by omega), a.ok (n := n - 1) (by omega), b.ok (n := n - 1) (by omega)]
@[simp] theorem w_eq_num_num : gEq (.str "num") (.str "num") = .ok (.bl true) := eq_w (by decide +kernel) (by decide +kernel)
@[simp] theorem w_ne_num_num : gNe (.str "num") (.str "num") = .ok (.bl false) := ne_w (b := true) (by decide +kernel) (by decide +kernel)
@[simp] theorem w_eq_num_cell : gEq (.str "num") (.str "cell") = .ok (.bl false) := eq_w (by decide +kernel) (by decide +kernel)
@[simp] theorem w_eq_num_sum : gEq (.str "num") (.str "sum") = .ok (.bl false) := eq_w (by decide +kernel) (by decide +kernel)
@[simp] theorem w_eq_num_most : gEq (.str "num") (.str "most") = .ok (.bl false) := eq_w (by decide +kernel) (by decide +kernel)
@[simp] theorem w_eq_num_add : gEq (.str "num") (.str "add") = .ok (.bl false) := eq_w (by decide +kernel) (by decide +kernel)
@[simp] theorem w_eq_num_sub : gEq (.str "num") (.str "sub") = .ok (.bl false) := eq_w (by decide +kernel) (by decide +kernel)
@[simp] theorem w_eq_num_mul : gEq (.str "num") (.str "mul") = .ok (.bl false) := eq_w (by decide +kernel) (by decide +kernel)
@[simp] theorem w_eq_num_pick : gEq (.str "num") (.str "pick") = .ok (.bl false) := eq_w (by decide +kernel) (by decide +kernel)
@[simp] theorem w_eq_num_look : gEq (.str "num") (.str "look") = .ok (.bl false) := eq_w (by decide +kernel) (by decide +kernel)
@[simp] theorem w_ne_num_look : gNe (.str "num") (.str "look") = .ok (.bl true) := ne_w (b := false) (by decide +kernel) (by decide +kernel)
@[simp] theorem w_eq_cell_num : gEq (.str "cell") (.str "num") = .ok (.bl false) := eq_w (by decide +kernel) (by decide +kernel)
@[simp] theorem w_ne_cell_num : gNe (.str "cell") (.str "num") = .ok (.bl true) := ne_w (b := false) (by decide +kernel) (by decide +kernel)
@[simp] theorem w_eq_cell_cell : gEq (.str "cell") (.str "cell") = .ok (.bl true) := eq_w (by decide +kernel) (by decide +kernel)
@[simp] theorem w_eq_cell_sum : gEq (.str "cell") (.str "sum") = .ok (.bl false) := eq_w (by decide +kernel) (by decide +kernel)
@[simp] theorem w_eq_cell_most : gEq (.str "cell") (.str "most") = .ok (.bl false) := eq_w (by decide +kernel) (by decide +kernel)
@[simp] theorem w_eq_cell_add : gEq (.str "cell") (.str "add") = .ok (.bl false) := eq_w (by decide +kernel) (by decide +kernel)
@[simp] theorem w_eq_cell_sub : gEq (.str "cell") (.str "sub") = .ok (.bl false) := eq_w (by decide +kernel) (by decide +kernel)
@[simp] theorem w_eq_cell_mul : gEq (.str "cell") (.str "mul") = .ok (.bl false) := eq_w (by decide +kernel) (by decide +kernel)
@[simp] theorem w_eq_cell_pick : gEq (.str "cell") (.str "pick") = .ok (.bl false) := eq_w (by decide +kernel) (by decide +kernel)
@[simp] theorem w_eq_cell_look : gEq (.str "cell") (.str "look") = .ok (.bl false) := eq_w (by decide +kernel) (by decide +kernel)
@[simp] theorem w_ne_cell_look : gNe (.str "cell") (.str "look") = .ok (.bl true) := ne_w (b := false) (by decide +kernel) (by decide +kernel)
@[simp] theorem w_eq_sum_num : gEq (.str "sum") (.str "num") = .ok (.bl false) := eq_w (by decide +kernel) (by decide +kernel)
@[simp] theorem w_ne_sum_num : gNe (.str "sum") (.str "num") = .ok (.bl true) := ne_w (b := false) (by decide +kernel) (by decide +kernel)
@[simp] theorem w_eq_sum_cell : gEq (.str "sum") (.str "cell") = .ok (.bl false) := eq_w (by decide +kernel) (by decide +kernel)
@[simp] theorem w_eq_sum_sum : gEq (.str "sum") (.str "sum") = .ok (.bl true) := eq_w (by decide +kernel) (by decide +kernel)
@[simp] theorem w_eq_sum_most : gEq (.str "sum") (.str "most") = .ok (.bl false) := eq_w (by decide +kernel) (by decide +kernel)
@[simp] theorem w_eq_sum_add : gEq (.str "sum") (.str "add") = .ok (.bl false) := eq_w (by decide +kernel) (by decide +kernel)
@[simp] theorem w_eq_sum_sub : gEq (.str "sum") (.str "sub") = .ok (.bl false) := eq_w (by decide +kernel) (by decide +kernel)
@[simp] theorem w_eq_sum_mul : gEq (.str "sum") (.str "mul") = .ok (.bl false) := eq_w (by decide +kernel) (by decide +kernel)
@[simp] theorem w_eq_sum_pick : gEq (.str "sum") (.str "pick") = .ok (.bl false) := eq_w (by decide +kernel) (by decide +kernel)
@[simp] theorem w_eq_sum_look : gEq (.str "sum") (.str "look") = .ok (.bl false) := eq_w (by decide +kernel) (by decide +kernel)
@[simp] theorem w_ne_sum_look : gNe (.str "sum") (.str "look") = .ok (.bl true) := ne_w (b := false) (by decide +kernel) (by decide +kernel)
@[simp] theorem w_eq_most_num : gEq (.str "most") (.str "num") = .ok (.bl false) := eq_w (by decide +kernel) (by decide +kernel)
@[simp] theorem w_ne_most_num : gNe (.str "most") (.str "num") = .ok (.bl true) := ne_w (b := false) (by decide +kernel) (by decide +kernel)
@[simp] theorem w_eq_most_cell : gEq (.str "most") (.str "cell") = .ok (.bl false) := eq_w (by decide +kernel) (by decide +kernel)
@[simp] theorem w_eq_most_sum : gEq (.str "most") (.str "sum") = .ok (.bl false) := eq_w (by decide +kernel) (by decide +kernel)
@[simp] theorem w_eq_most_most : gEq (.str "most") (.str "most") = .ok (.bl true) := eq_w (by decide +kernel) (by decide +kernel)
@[simp] theorem w_eq_most_add : gEq (.str "most") (.str "add") = .ok (.bl false) := eq_w (by decide +kernel) (by decide +kernel)
@[simp] theorem w_eq_most_sub : gEq (.str "most") (.str "sub") = .ok (.bl false) := eq_w (by decide +kernel) (by decide +kernel)
@[simp] theorem w_eq_most_mul : gEq (.str "most") (.str "mul") = .ok (.bl false) := eq_w (by decide +kernel) (by decide +kernel)
@[simp] theorem w_eq_most_pick : gEq (.str "most") (.str "pick") = .ok (.bl false) := eq_w (by decide +kernel) (by decide +kernel)
@[simp] theorem w_eq_most_look : gEq (.str "most") (.str "look") = .ok (.bl false) := eq_w (by decide +kernel) (by decide +kernel)
@[simp] theorem w_ne_most_look : gNe (.str "most") (.str "look") = .ok (.bl true) := ne_w (b := false) (by decide +kernel) (by decide +kernel)
@[simp] theorem w_eq_add_num : gEq (.str "add") (.str "num") = .ok (.bl false) := eq_w (by decide +kernel) (by decide +kernel)
@[simp] theorem w_ne_add_num : gNe (.str "add") (.str "num") = .ok (.bl true) := ne_w (b := false) (by decide +kernel) (by decide +kernel)
@[simp] theorem w_eq_add_cell : gEq (.str "add") (.str "cell") = .ok (.bl false) := eq_w (by decide +kernel) (by decide +kernel)
@[simp] theorem w_eq_add_sum : gEq (.str "add") (.str "sum") = .ok (.bl false) := eq_w (by decide +kernel) (by decide +kernel)
@[simp] theorem w_eq_add_most : gEq (.str "add") (.str "most") = .ok (.bl false) := eq_w (by decide +kernel) (by decide +kernel)
@[simp] theorem w_eq_add_add : gEq (.str "add") (.str "add") = .ok (.bl true) := eq_w (by decide +kernel) (by decide +kernel)
@[simp] theorem w_eq_add_sub : gEq (.str "add") (.str "sub") = .ok (.bl false) := eq_w (by decide +kernel) (by decide +kernel)
@[simp] theorem w_eq_add_mul : gEq (.str "add") (.str "mul") = .ok (.bl false) := eq_w (by decide +kernel) (by decide +kernel)
@[simp] theorem w_eq_add_pick : gEq (.str "add") (.str "pick") = .ok (.bl false) := eq_w (by decide +kernel) (by decide +kernel)
@[simp] theorem w_eq_add_look : gEq (.str "add") (.str "look") = .ok (.bl false) := eq_w (by decide +kernel) (by decide +kernel)
@[simp] theorem w_ne_add_look : gNe (.str "add") (.str "look") = .ok (.bl true) := ne_w (b := false) (by decide +kernel) (by decide +kernel)
@[simp] theorem w_eq_sub_num : gEq (.str "sub") (.str "num") = .ok (.bl false) := eq_w (by decide +kernel) (by decide +kernel)
@[simp] theorem w_ne_sub_num : gNe (.str "sub") (.str "num") = .ok (.bl true) := ne_w (b := false) (by decide +kernel) (by decide +kernel)
@[simp] theorem w_eq_sub_cell : gEq (.str "sub") (.str "cell") = .ok (.bl false) := eq_w (by decide +kernel) (by decide +kernel)
@[simp] theorem w_eq_sub_sum : gEq (.str "sub") (.str "sum") = .ok (.bl false) := eq_w (by decide +kernel) (by decide +kernel)
@[simp] theorem w_eq_sub_most : gEq (.str "sub") (.str "most") = .ok (.bl false) := eq_w (by decide +kernel) (by decide +kernel)
@[simp] theorem w_eq_sub_add : gEq (.str "sub") (.str "add") = .ok (.bl false) := eq_w (by decide +kernel) (by decide +kernel)
@[simp] theorem w_eq_sub_sub : gEq (.str "sub") (.str "sub") = .ok (.bl true) := eq_w (by decide +kernel) (by decide +kernel)
@[simp] theorem w_eq_sub_mul : gEq (.str "sub") (.str "mul") = .ok (.bl false) := eq_w (by decide +kernel) (by decide +kernel)
@[simp] theorem w_eq_sub_pick : gEq (.str "sub") (.str "pick") = .ok (.bl false) := eq_w (by decide +kernel) (by decide +kernel)
@[simp] theorem w_eq_sub_look : gEq (.str "sub") (.str "look") = .ok (.bl false) := eq_w (by decide +kernel) (by decide +kernel)
@[simp] theorem w_ne_sub_look : gNe (.str "sub") (.str "look") = .ok (.bl true) := ne_w (b := false) (by decide +kernel) (by decide +kernel)
@[simp] theorem w_eq_mul_num : gEq (.str "mul") (.str "num") = .ok (.bl false) := eq_w (by decide +kernel) (by decide +kernel)
@[simp] theorem w_ne_mul_num : gNe (.str "mul") (.str "num") = .ok (.bl true) := ne_w (b := false) (by decide +kernel) (by decide +kernel)
@[simp] theorem w_eq_mul_cell : gEq (.str "mul") (.str "cell") = .ok (.bl false) := eq_w (by decide +kernel) (by decide +kernel)
@[simp] theorem w_eq_mul_sum : gEq (.str "mul") (.str "sum") = .ok (.bl false) := eq_w (by decide +kernel) (by decide +kernel)
@[simp] theorem w_eq_mul_most : gEq (.str "mul") (.str "most") = .ok (.bl false) := eq_w (by decide +kernel) (by decide +kernel)
@[simp] theorem w_eq_mul_add : gEq (.str "mul") (.str "add") = .ok (.bl false) := eq_w (by decide +kernel) (by decide +kernel)
@[simp] theorem w_eq_mul_sub : gEq (.str "mul") (.str "sub") = .ok (.bl false) := eq_w (by decide +kernel) (by decide +kernel)
@[simp] theorem w_eq_mul_mul : gEq (.str "mul") (.str "mul") = .ok (.bl true) := eq_w (by decide +kernel) (by decide +kernel)
@[simp] theorem w_eq_mul_pick : gEq (.str "mul") (.str "pick") = .ok (.bl false) := eq_w (by decide +kernel) (by decide +kernel)
@[simp] theorem w_eq_mul_look : gEq (.str "mul") (.str "look") = .ok (.bl false) := eq_w (by decide +kernel) (by decide +kernel)
@[simp] theorem w_ne_mul_look : gNe (.str "mul") (.str "look") = .ok (.bl true) := ne_w (b := false) (by decide +kernel) (by decide +kernel)
@[simp] theorem w_eq_pick_num : gEq (.str "pick") (.str "num") = .ok (.bl false) := eq_w (by decide +kernel) (by decide +kernel)
@[simp] theorem w_ne_pick_num : gNe (.str "pick") (.str "num") = .ok (.bl true) := ne_w (b := false) (by decide +kernel) (by decide +kernel)
@[simp] theorem w_eq_pick_cell : gEq (.str "pick") (.str "cell") = .ok (.bl false) := eq_w (by decide +kernel) (by decide +kernel)
@[simp] theorem w_eq_pick_sum : gEq (.str "pick") (.str "sum") = .ok (.bl false) := eq_w (by decide +kernel) (by decide +kernel)
@[simp] theorem w_eq_pick_most : gEq (.str "pick") (.str "most") = .ok (.bl false) := eq_w (by decide +kernel) (by decide +kernel)
@[simp] theorem w_eq_pick_add : gEq (.str "pick") (.str "add") = .ok (.bl false) := eq_w (by decide +kernel) (by decide +kernel)
@[simp] theorem w_eq_pick_sub : gEq (.str "pick") (.str "sub") = .ok (.bl false) := eq_w (by decide +kernel) (by decide +kernel)
@[simp] theorem w_eq_pick_mul : gEq (.str "pick") (.str "mul") = .ok (.bl false) := eq_w (by decide +kernel) (by decide +kernel)
@[simp] theorem w_eq_pick_pick : gEq (.str "pick") (.str "pick") = .ok (.bl true) := eq_w (by decide +kernel) (by decide +kernel)
@[simp] theorem w_eq_pick_look : gEq (.str "pick") (.str "look") = .ok (.bl false) := eq_w (by decide +kernel) (by decide +kernel)
@[simp] theorem w_ne_pick_look : gNe (.str "pick") (.str "look") = .ok (.bl true) := ne_w (b := false) (by decide +kernel) (by decide +kernel)
@[simp] theorem w_eq_look_num : gEq (.str "look") (.str "num") = .ok (.bl false) := eq_w (by decide +kernel) (by decide +kernel)
@[simp] theorem w_ne_look_num : gNe (.str "look") (.str "num") = .ok (.bl true) := ne_w (b := false) (by decide +kernel) (by decide +kernel)
@[simp] theorem w_eq_look_cell : gEq (.str "look") (.str "cell") = .ok (.bl false) := eq_w (by decide +kernel) (by decide +kernel)
@[simp] theorem w_eq_look_sum : gEq (.str "look") (.str "sum") = .ok (.bl false) := eq_w (by decide +kernel) (by decide +kernel)
@[simp] theorem w_eq_look_most : gEq (.str "look") (.str "most") = .ok (.bl false) := eq_w (by decide +kernel) (by decide +kernel)
@[simp] theorem w_eq_look_add : gEq (.str "look") (.str "add") = .ok (.bl false) := eq_w (by decide +kernel) (by decide +kernel)
@[simp] theorem w_eq_look_sub : gEq (.str "look") (.str "sub") = .ok (.bl false) := eq_w (by decide +kernel) (by decide +kernel)
@[simp] theorem w_eq_look_mul : gEq (.str "look") (.str "mul") = .ok (.bl false) := eq_w (by decide +kernel) (by decide +kernel)
@[simp] theorem w_eq_look_pick : gEq (.str "look") (.str "pick") = .ok (.bl false) := eq_w (by decide +kernel) (by decide +kernel)
@[simp] theorem w_eq_look_look : gEq (.str "look") (.str "look") = .ok (.bl true) := eq_w (by decide +kernel) (by decide +kernel)
@[simp] theorem w_ne_look_look : gNe (.str "look") (.str "look") = .ok (.bl false) := ne_w (b := true) (by decide +kernel) (by decide +kernel)
section
variable {a b c : D} {xs : List D}
theorem gIx_back {d : D} {xs : List D} {i : Int} {k : Nat} {x : D} (h : d.seq = some xs) (hi : i < 0) (hk : i + xs.length = k) (hx : xs[k]? = some x) : gIx d (.int i) = .ok x := by
  have hl := (List.getElem?_eq_some_iff.mp hx).1
  have e : atI xs i = some x := by
    unfold atI ixN
    rw [if_neg (by omega), if_pos (by omega)]
    show xs[(i + xs.length).toNat]? = _
    rw [hk]
    exact hx
  unfold gIx
  rw [h]
  simp only [e]
@[simp] theorem ix_m1 : gIx (.node .lst (xs ++ [a])) (.int (-1)) = .ok a := gIx_back (k := xs.length) rfl (by decide) (by simp; omega) (by simp)
@[simp] theorem ix_m2 : gIx (.node .lst (xs ++ [a, b])) (.int (-2)) = .ok a := gIx_back (k := xs.length) rfl (by decide) (by simp; omega) (by simp)
@[simp] theorem ix_m12 : gIx (.node .lst (xs ++ [a, b])) (.int (-1)) = .ok b := gIx_back (k := xs.length + 1) rfl (by decide) (by simp; omega) (by simp)
@[simp] theorem ix_m3 : gIx (.node .lst (xs ++ [a, b, c])) (.int (-3)) = .ok a := gIx_back (k := xs.length) rfl (by decide) (by simp; omega) (by simp)
@[simp] theorem ix_m23 : gIx (.node .lst (xs ++ [a, b, c])) (.int (-2)) = .ok b := gIx_back (k := xs.length + 1) rfl (by decide) (by simp; omega) (by simp)
@[simp] theorem ix_m13 : gIx (.node .lst (xs ++ [a, b, c])) (.int (-1)) = .ok c := gIx_back (k := xs.length + 2) rfl (by decide) (by simp; omega) (by simp)
theorem sl_but {xs ys : List D} {j : Int} (h : D.imms (xs ++ ys) = true) (hj : j = -(ys.length : Int)) (hy : ys ≠ []) : gSl (.node .lst (xs ++ ys)) none (some j) = .ok (.node .lst xs) := by
  have hp : 0 < ys.length := List.length_pos_iff.mpr hy
  have e2 : HT.sIx (xs ++ ys).length (xs ++ ys).length (some j) = xs.length := by
    unfold HT.sIx
    simp only [List.length_append]
    split <;> omega
  show (if _ then _ else _) = _
  rw [if_pos h]
  unfold cutD
  rw [e2]
  have e1 : HT.sIx (xs ++ ys).length 0 none = 0 := rfl
  rw [e1]
  simp
@[simp] theorem sl_m2 (h : D.imms (xs ++ [a, b]) = true) : gSl (.node .lst (xs ++ [a, b])) none (some (-2)) = .ok (.node .lst xs) := sl_but h rfl (by simp)
@[simp] theorem sl_m3 (h : D.imms (xs ++ [a, b, c]) = true) : gSl (.node .lst (xs ++ [a, b, c])) none (some (-3)) = .ok (.node .lst xs) := sl_but h rfl (by simp)
end
theorem imms_ru (st : List Ru) : D.imms (st.map Ru.toD) = true := imms_iff.mpr fun d hd => by
  obtain ⟨x, _, rfl⟩ := List.mem_map.mp hd
  exact x.imm
theorem two_last {α : Type} {l : List α} (h : 1 < l.length) : ∃ p x y, l = p ++ [x, y] := by
  refine ⟨l.take (l.length - 2), l[l.length - 2], l[l.length - 1], ?_⟩
  have := List.take_append_drop (l.length - 2) l
  conv => lhs; rw [← this]
  congr 1
  rw [List.drop_eq_getElem_cons (by omega), List.drop_eq_getElem_cons (by omega), List.drop_eq_nil_iff.mpr (by omega)]
  simp only [show l.length - 2 + 1 = l.length - 1 by omega]
theorem three_last {α : Type} {l : List α} (h : 2 < l.length) : ∃ p x y z, l = p ++ [x, y, z] := by
  refine ⟨l.take (l.length - 3), l[l.length - 3], l[l.length - 2], l[l.length - 1], ?_⟩
  have := List.take_append_drop (l.length - 3) l
  conv => lhs; rw [← this]
  congr 1
  rw [List.drop_eq_getElem_cons (by omega), List.drop_eq_getElem_cons (by omega), List.drop_eq_getElem_cons (by omega), List.drop_eq_nil_iff.mpr (by omega)]
  simp only [show l.length - 3 + 1 = l.length - 2 by omega, show l.length - 2 + 1 = l.length - 1 by omega]
theorem one_last {α : Type} {l : List α} (h : l ≠ []) : ∃ p x, l = p ++ [x] := ⟨_, _, (List.dropLast_concat_getLast h).symm⟩
@[simp] theorem isi_ru (T : Tn) (x : Ru) : isiD T x.toD = some (decide (T = .tuple)) := by cases x <;> rfl
@[simp] theorem isi_ref (T : Tn) (x : Ref) : isiD T x.toD = some (decide (T = .tuple)) := rfl
@[simp] theorem isi_int (T : Tn) (x : Int) : isiD T (.int x) = some (decide (T = .int)) := rfl
@[simp] theorem isi_str (T : Tn) (x : Str) : isiD T (.str x) = some (decide (T = .str)) := rfl
@[simp] theorem isi_bl (T : Tn) (x : Bool) : isiD T (.bl x) = some (decide (T = .int) || decide (T = .bool)) := rfl
@[simp] theorem isi_tup (T : Tn) (x : List D) : isiD T (.node .tup x) = some (decide (T = .tuple)) := rfl
@[simp] theorem isi_lst (T : Tn) (x : List D) : isiD T (.node .lst x) = some (decide (T = .list)) := rfl
@[simp] theorem rangeD2 : rangeD 0 2 = [.int 0, .int 1] := by simp [rangeD, List.range_succ]
@[simp] theorem rangeD3 : rangeD 0 3 = [.int 0, .int 1, .int 2] := by simp [rangeD, List.range_succ]
@[simp] theorem rangeD4 : rangeD 0 4 = [.int 0, .int 1, .int 2, .int 3] := by simp [rangeD, List.range_succ]
@[simp] theorem rangeD5 : rangeD 0 5 = [.int 0, .int 1, .int 2, .int 3, .int 4] := by simp [rangeD, List.range_succ]
theorem sl_ints {ns : List Int} (lo hi : Nat) : ∃ cs : List Int, gSl (.node .fls (ns.map D.int)) (some (lo : Int)) (some (hi : Int)) = .ok (.node .lst (cs.map D.int)) ∧ cs.length ≤ hi - lo := by
  have e1 : HT.sIx (ns.map D.int).length 0 (some (lo : Int)) = min lo ns.length := by rw [HT.sIx_nat, List.length_map]
  have e2 : HT.sIx (ns.map D.int).length (ns.map D.int).length (some (hi : Int)) = min hi ns.length := by rw [HT.sIx_nat, List.length_map]
  have h : D.imms (ns.map D.int) = true := imms_iff.mpr fun d hd => by
    obtain ⟨x, _, rfl⟩ := List.mem_map.mp hd
    rfl
  refine ⟨(ns.drop (min lo ns.length)).take (min hi ns.length - min lo ns.length), ?_, ?_⟩
  · show (if _ then _ else _) = _
    rw [if_pos h]
    unfold cutD
    rw [e1, e2, List.map_take, List.map_drop]
  · rw [List.length_take, List.length_drop]
    omega
end Rs

set_option maxRecDepth 100000
/-! RsM: max(xs, default=d) of a list of ints; sorted of pairs. -/
namespace Rs
open PySem PySem.Spec PyProof.Rows L2
def bestI (m : Int) (l : List Int) : Int := l.foldl (fun a x => if x > a then x else a) m
def maxD (ns : List Int) (d : Int) : Int := match ns with
  | [] => d
  | n :: r => bestI n r
section
variable {prog : Program} {w : World} {A : Around} {E : Value → Shared → Prop}
theorem ints_get {its : List Value} {ns : List Int} (h : IntsAre its ns) : its.length = ns.length ∧ ∀ (i : Nat) (v : Value), its[i]? = some v → ∃ n t, ns[i]? = some n ∧ v = .int n t := by
  induction h with
  | nil => exact ⟨rfl, fun i v e => by simp at e⟩
  | cons n t h ih =>
    refine ⟨by simp [ih.1], fun i v e => ?_⟩
    cases i with
    | zero => simp at e; exact ⟨n, t, rfl, e.symm⟩
    | succ i => exact ih.2 i v (by simpa using e)
abbrev boxO (v : Value) (c : Nat) : Obj := { cls := .type "list", dict := none, data := .seq #[v, v] c, slots := #[] }
/-- the loop with a keyword: from the place j on, the best so far is m -/
theorem maxK_go {kw : List (Str × Value)} {I ax S : Addr} {its : List Value} {ns : List Int} {R : Result → Shared → Prop} (hi : IntsAre its ns) (hh : A.in1.handled = none) (hax : ax ≠ I) (hS1 : S ≠ I) (hS2 : S ≠ ax) :
    ∀ (k j : Nat) (s : Shared) (m : Int) (t : Tok) (c : Nat), ns.length - j = k → j ≤ ns.length → (s.heap.IsListIter I ax j ∧ s.heap.IsList ax its.toArray) → s.heap.get? S = some (boxO (.int m t) c) →
    (∀ h' tk t', (∀ b o, b ≠ I → b ≠ S → s.heap.get? b = some o → h'.get? b = some o) → R (.ok (.ret (.int (bestI m (ns.drop j)) t'))) { s with heap := h', toks := tk }) →
    codeAny (model prog w) A (.builtin "max.loop" ⟨[.ref I, .none, .ref S], kw⟩) R s := by
  obtain ⟨hlen, hget⟩ := ints_get hi
  have W := Walks.list (prog := prog) (w := w) (A := A.in1) hh I ax hax its.toArray
  have wl : ("max" ++ ".loop" : String) = "max.loop" := by decide
  intro k
  induction k with
  | zero =>
    intro j s m t c hk hj st hS done
    have hn : j = ns.length := by omega
    apply codeAny_builtin PySem.F.entry_max_loop; rw [Around.under_plainId PySem.F.plain_max_loop _]
    show wpAny _ A.in1 (seqItems? (.ref S) >>= _) _ _ s
    apply wpAny_bind; apply wpAny_seqItems hS rfl
    show wpAny _ A.in1 (tryCatch (pyNext (.ref I)) _ >>= _) _ _ s
    apply wpAny_bind; apply wpAny_tryCatch
    have st' : s.heap.IsListIter I ax its.toArray.size ∧ s.heap.IsList ax its.toArray := by
      rw [show its.toArray.size = j by simp [hlen, hn]]; exact st
    refine W.done s _ _ st' fun h' tk kp => ?_
    have hS' := kp S _ (by simpa using hS1) hS
    show wpAny _ A.in1 (updateSeq S (fun _ => #[]) >>= _) _ _ _
    apply wpAny_bind; apply wpAny_updateSeq hS' rfl; apply wpAny_bind; apply wpAny_letGo; apply wpAny_pure
    have fin := done (h'.update S (Obj.mapSeq fun _ => #[])) tk t fun b o h1 h2 e => (Heap.get?_update_other _ _ (Ne.symm h2)).trans (kp b o (by simpa using h1) e)
    rw [hn, List.drop_length] at fin
    exact fin
  | succ k ih =>
    intro j s m t c hk hj st hS done
    have hlt : j < ns.length := by omega
    apply codeAny_builtin PySem.F.entry_max_loop; rw [Around.under_plainId PySem.F.plain_max_loop _]
    show wpAny _ A.in1 (seqItems? (.ref S) >>= _) _ _ s
    apply wpAny_bind; apply wpAny_seqItems hS rfl
    show wpAny _ A.in1 (tryCatch (pyNext (.ref I)) _ >>= _) _ _ s
    apply wpAny_bind; apply wpAny_tryCatch
    refine W.item j s _ _ (by simp [hlen, hlt]) st fun v h' tk hP st' kp => ?_
    obtain ⟨n, t2, hn, rfl⟩ := hget j v (by simpa using hP)
    have hS' := kp S _ (by simpa using hS1) hS
    have hd : ns.drop j = n :: ns.drop (j + 1) := by
      have e := (List.getElem?_eq_some_iff.mp hn).2
      rw [List.drop_eq_getElem_cons hlt, e]
    show wpAny _ A.in1 (tryCatch (holding [.int n t2, .int n t2] (richCompare .Gt (.int n t2) (.int m t) >>= _)) _ >>= _) _ _ _
    have cmp := CmpOf.ints_gt (prog := prog) (w := w) (A := A.in1) (P := fun i v => if i = 0 then v = .int m t else v = .int n t2) (fun i => if i = 0 then m else n) fun i v hv => by
      by_cases q : i = 0
      · rw [if_pos q] at hv ⊢; exact ⟨t, hv⟩
      · rw [if_neg q] at hv ⊢; exact ⟨t2, hv⟩
    apply wpAny_bind; apply wpAny_tryCatch; apply wpAny_holding; apply wpAny_bind
    refine cmp 1 0 (.int n t2) (.int m t) _ _ _ rfl rfl ?_
    apply wpAny_bind; apply wpAny_holding; apply wpAny_truthy_bool
    apply wpAny_bind; apply wpAny_letGo; apply wpAny_pure
    have val : (fun (i j : Nat) => decide ((if i = 0 then m else n) > if j = 0 then m else n)) 1 0 = decide (n > m) := rfl
    rw [val]
    by_cases hb : n > m
    · rw [decide_eq_true hb]
      simp only [if_true]
      apply wpAny_bind; apply wpAny_updateSeq hS' rfl; apply wpAny_bind; apply wpAny_letGo
      rw [show (toString "max" ++ toString ".loop" : String) = "max.loop" from wl]
      refine wpAny_pure ⟨plainId_quiet PySem.F.plain_max_loop _, ih (j + 1) _ n t2 _ (by omega) hlt (W.frame _ _ _ st' fun b hm o e => ?_) (Heap.get?_update_self _ hS' rfl) fun h2 tk2 t3 kp2 => ?_⟩
      · have : b ≠ S := fun q => by
          subst q
          rcases List.mem_cons.mp hm with q | q
          · exact hS1 q
          · exact hS2 (by simpa using q)
        exact (Heap.get?_update_other _ _ (Ne.symm this)).trans e
      · have fin := done h2 tk2 t3 fun b o h1 h2' e => kp2 b o h1 h2' ((Heap.get?_update_other _ _ (Ne.symm h2')).trans (kp b o (by simpa using h1) e))
        rw [hd] at fin
        simpa [bestI, hb] using fin
    · rw [decide_eq_false hb]
      simp only [Bool.false_eq_true, if_false]
      apply wpAny_bind; apply wpAny_letGo
      rw [show (toString "max" ++ toString ".loop" : String) = "max.loop" from wl]
      refine wpAny_pure ⟨plainId_quiet PySem.F.plain_max_loop _, ih (j + 1) _ m t c (by omega) hlt st' hS' fun h2 tk2 t3 kp2 => ?_⟩
      have fin := done h2 tk2 t3 fun b o h1 h2' e => kp2 b o h1 h2' (kp b o (by simpa using h1) e)
      rw [hd] at fin
      simpa [bestI, hb] using fin
abbrev boxE (c : Nat) : Obj := { cls := .type "list", dict := none, data := .seq #[] c, slots := #[] }
/-- the first turn, and the end where there is none -/
theorem maxK_first {I ax S : Addr} {its : List Value} {ns : List Int} {d : Value} {nm : Str} {R : Result → Shared → Prop} (hi : IntsAre its ns) (hh : A.in1.handled = none) (hax : ax ≠ I) (hS1 : S ≠ I) (hS2 : S ≠ ax) {s : Shared} {c : Nat}
    (st : s.heap.IsListIter I ax 0 ∧ s.heap.IsList ax its.toArray) (hS : s.heap.get? S = some (boxE c))
    (done : ∀ h' tk, (∀ b o, b ≠ I → b ≠ S → s.heap.get? b = some o → h'.get? b = some o) → (ns = [] → R (.ok (.ret d)) { s with heap := h', toks := tk }) ∧ ∀ n r t', ns = n :: r → R (.ok (.ret (.int (bestI n r) t'))) { s with heap := h', toks := tk }) :
    codeAny (model prog w) A (.builtin "max.loop" ⟨[.ref I, .none, .ref S], [(nm, d)]⟩) R s := by
  obtain ⟨hlen, hget⟩ := ints_get hi
  have W := Walks.list (prog := prog) (w := w) (A := A.in1) hh I ax hax its.toArray
  have wl : ("max" ++ ".loop" : String) = "max.loop" := by decide
  apply codeAny_builtin PySem.F.entry_max_loop; rw [Around.under_plainId PySem.F.plain_max_loop _]
  show wpAny _ A.in1 (seqItems? (.ref S) >>= _) _ _ s
  apply wpAny_bind; apply wpAny_seqItems hS rfl
  show wpAny _ A.in1 (tryCatch (pyNext (.ref I)) _ >>= _) _ _ s
  apply wpAny_bind; apply wpAny_tryCatch
  cases ns with
  | nil =>
    have st' : s.heap.IsListIter I ax its.toArray.size ∧ s.heap.IsList ax its.toArray := by
      rw [show its.toArray.size = 0 by simp [hlen]]; exact st
    refine W.done s _ _ st' fun h' tk kp => ?_
    have fin := (done h' tk fun b o h1 _ e => kp b o (by simpa using h1) e).1 rfl
    exact wpAny_bind (wpAny_rule (wpAny_pure fin))
  | cons n r =>
    refine W.item 0 s _ _ (by simp [hlen]) st fun v h' tk hP st' kp => ?_
    obtain ⟨n', t2, hn, rfl⟩ := hget 0 v (by simpa using hP)
    obtain rfl : n = n' := by simpa using hn
    have hS' := kp S _ (by simpa using hS1) hS
    show wpAny _ A.in1 (updateSeq S (fun _ => #[.int n t2, .int n t2]) >>= _) _ _ _
    apply wpAny_bind; apply wpAny_updateSeq hS' rfl
    rw [show (toString "max" ++ toString ".loop" : String) = "max.loop" from wl]
    refine wpAny_pure ⟨plainId_quiet PySem.F.plain_max_loop _, maxK_go hi hh hax hS1 hS2 _ 1 _ n t2 _ rfl (by simp) (W.frame _ _ _ st' fun b hm o e => ?_) (Heap.get?_update_self _ hS' rfl) fun h2 tk2 t3 kp2 => ?_⟩
    · have : b ≠ S := fun q => by
        subst q
        rcases List.mem_cons.mp hm with q | q
        · exact hS1 q
        · exact hS2 (by simpa using q)
      exact (Heap.get?_update_other _ _ (Ne.symm this)).trans e
    · exact (done h2 tk2 fun b o h1 h2' e => kp2 b o h1 h2' ((Heap.get?_update_other _ _ (Ne.symm h2')).trans (kp b o (by simpa using h1) e))).2 n r t3 rfl
theorem args_maxK (a d : Value) : argsOk "max" ⟨[a], [("default", d)]⟩ := by unfold argsOk; kernel_rfl
/-- the whole call -/
theorem maxK_call {s : Shared} {l : Addr} {its : List Value} {ns : List Int} {d : Int} {td : Tok} {Q : Value → Shared → Prop} (hi : IntsAre its ns) (hh : A.handled = none) (hl : s.heap.IsList l its.toArray)
    (done : ∀ h' tk t', (∀ b o, s.heap.get? b = some o → h'.get? b = some o) → Q (.int (maxD ns d) t') { s with heap := h', toks := tk }) :
    wpAny (model prog w) A (call (.builtin "max") [.ref l] [("default", .int d td)]) Q E s := by
  have hlt : l < s.heap.objs.size := by obtain ⟨_, e, _⟩ := hl; exact Heap.lt_size e
  have body : wpAny (model prog w) A.in1 (Builtin.«max» ⟨[.ref l], [("default", .int d td)]⟩) (fun fin s' => match fin with
      | .done f => (match (Except.ok f : Result) with | .ok (.ret v) => Q v s' | .ok _ => False | .error e => E e s')
      | .again c' => c'.quiet = true ∧ codeAny (model prog w) A c' (fun r s' => match r with | .ok (.ret v) => Q v s' | .ok _ => False | .error e => E e s') s') E s := by
    show wpAny _ A.in1 (Builtin.Builtins.bindParams "max" ["key", "default"] 0 ⟨[], [("default", .int d td)]⟩ >>= _) _ _ s
    apply wpAny_bind; refine wpAny_of_eq (show Builtin.Builtins.bindParams "max" ["key", "default"] 0 ⟨[], [("default", .int d td)]⟩ = pure [none, some (.int d td)] from by first | rfl | kernel_rfl) ?_
    apply wpAny_bind; apply wpAny_pure
    apply wpAny_bind
    refine wpAny_pyIter_list hl ?_
    apply wpAny_bind; refine wpAny_newObj_type ?_
    have wl : ("max" ++ ".loop" : String) = "max.loop" := by decide
    rw [show (toString "max" ++ toString ".loop" : String) = "max.loop" from wl]
    refine wpAny_pure ⟨plainId_quiet PySem.F.plain_max_loop _, ?_⟩
    have h1 : (s.heap.push { cls := .type "list_iterator", data := .fields #[.ref l, .int 0 0] }).IsListIter s.heap.objs.size l 0 := ⟨_, Heap.get?_push_size _ rfl, rfl, rfl⟩
    refine maxK_first (A := A) (ax := l) (I := s.heap.objs.size) hi hh (Nat.ne_of_lt hlt) ?_ ?_ ⟨h1.at fun o e => Heap.get?_push_of_some _ e, (hl.push _).push _⟩ (Heap.get?_push_size _ rfl) fun h' tk kp => ?_
    · show (s.heap.push _).objs.size ≠ _
      rw [Heap.size_push]; exact Nat.succ_ne_self _
    · show (s.heap.push _).objs.size ≠ _
      rw [Heap.size_push]; exact Nat.ne_of_gt (Nat.lt_succ_of_lt hlt)
    · have keep : ∀ b o, s.heap.get? b = some o → h'.get? b = some o := fun b o e => by
        have hb : b < s.heap.objs.size := Heap.lt_size e
        refine kp b o (Nat.ne_of_lt hb) ?_ (Heap.get?_push_of_some _ (Heap.get?_push_of_some _ e))
        show b ≠ (s.heap.push _).objs.size
        rw [Heap.size_push]; exact Nat.ne_of_lt (Nat.lt_succ_of_lt hb)
      refine ⟨fun e => ?_, fun n r t' e => ?_⟩
      · subst e; exact done h' tk td keep
      · subst e; exact done h' tk t' keep
  refine wpAny_call (codeAny_call_builtin PySem.F.plain_max PySem.F.entry_max ?_)
  simp only [checkBuiltinCall, PySem.F.kind_max]
  have ha := args_maxK (.ref l) (.int d td)
  cases hsig : Manifest.signature? "max" with
  | none => exact wpAny_pure body
  | some sig =>
    have ha' : Bind.checkArgs "max" sig ⟨[.ref l], [("default", .int d td)]⟩ = pure () := by simpa only [argsOk, hsig] using ha
    simp only [ha']
    exact wpAny_pure body
end
section
variable {G : Gx} {X : Cx} {W : WX} {e a : Expr} {p pos kp : Pos} {ma mb : Evn → R D}
theorem cr_maxK (hc : X.calm = true) : CallRK X (.builtin "max") ["default"] fun xs zs H Q => ∃ (a : Addr) (ns : List Int) (d : Int), xs = [V.ref a] ∧ zs = [V.int d] ∧ SqL X.K H a (ns.map V.int) ∧ Q (.int (maxD ns d)) H := by
  intro pins s σ H xs zs us ws Q I r1 r2 h
  obtain ⟨a, ns, d, rfl, rfl, hs, q⟩ := h
  obtain ⟨its, rv, hl, _⟩ := I.list hs
  rw [Vals.ref1 r1]
  obtain ⟨u, rfl, t, rfl⟩ := vals1 r2
  exact maxK_call rv.ints (I.ok.hd hc) hl.isList fun h' tk t' hk => ⟨.int _, H, I.kept hk, ⟨_, rfl⟩, q⟩
def gMaxD (x y : D) : R D := match y with
  | .int d => match x with
    | .node .lst xs => match intsL xs with
      | some ns => .ok (.int (maxD ns d))
      | none => .no
    | _ => .no
  | _ => .no
theorem maxD_of {x y : D} {σ : St} {H : Hp} {Q : VK} (s : SatF G W (gMaxD x y) σ H Q) : ∃ xs ns d, x = .node .lst xs ∧ y = .int d ∧ intsL xs = some ns ∧ SatF G W (.ok (.int (maxD ns d))) σ H Q := by
  unfold gMaxD at s
  split at s
  · split at s
    · rename_i xs
      cases e : intsL xs with
      | none => rw [e] at s; exact s.elim
      | some ns => rw [e] at s; exact ⟨xs, ns, _, rfl, rfl, e, s⟩
    · exact s.elim
  · exact s.elim
def mMaxD (ma mb : Evn → R D) : Evn → R D := fun ρ => (ma ρ).bind fun x => (mb ρ).bind fun y => gMaxD x y
theorem sf_maxd (hK : X.K = G.K) (hc : X.calm = true) (hm : X.mg "max" = none) (ha : SE G X W ma e) (hb : SE G X W mb a) (hg : Gl X "max" := by rfl)
    (he : backTo pos (starEach [e] X.env) = (false, eval e X.env) :: backTo pos (starEach [] X.env) := by rfl) (hs : starEach [e] X.env = (false, eval e X.env) :: starEach [] X.env := by rfl) (hpl : (backTo pos (starEach [e] X.env)).any (·.1) = false := by rfl)
    (hall : (backToKw pos (keywordEach [⟨some "default", a, kp⟩] X.env)).all (·.1.isSome) = true := by rfl) (hnone : (backToKw pos (keywordEach [⟨some "default", a, kp⟩] X.env)).any (·.1.isNone) = false := by rfl) (hks : (backToKw pos (keywordEach [⟨some "default", a, kp⟩] X.env)).filterMap (·.1) = (["default"] : List Str) := by rfl) :
    SF G X W (mMaxD ma mb) (.Call (.Name "max" p) [e] [⟨some "default", a, kp⟩] pos) :=
  PE.imp (pe_callBK (cr_maxK hc) hg hm (by decide +kernel) (pa_cons ha pa_nil hs) (pk_cons hb pk_nil) (by decide) (by decide) he hpl hall hnone hks) fun σ H Q ⟨ρ, E, s⟩ => by
    refine ⟨ρ, E, (SatG.bind s).imp fun d1 e6 ⟨e7, q1⟩ v1 H1 F1 sm1 o1 => ⟨ρ, E.same sm1, ?_⟩⟩
    refine ((SatG.bind q1).imp fun d2 e8 ⟨e9, q2⟩ v2 H2 F2 sm2 o2 => ?_).later sm1
    obtain ⟨xs, ns, d, rfl, rfl, e1, q2⟩ := maxD_of q2
    obtain ⟨rfl, _⟩ := own_int.mp o2
    obtain ⟨a', ws, F', rfl, ht, ol, _⟩ := own_lst (own_same sm2 o1)
    have ew := ints_own e1 ol
    subst ew
    rw [hK]
    refine ⟨a', ns, d, rfl, rfl, .inl (.inl ht), ?_⟩
    exact q2 (.int (maxD ns d)) H2 [] (sm1.trans sm2) (own_int.mpr ⟨rfl, rfl⟩) List.nodup_nil fun a ha => by cases ha
end
end Rs
namespace Rs
open PySem PySem.Spec PyProof.Rows L2
section
variable {G : Gx}
def keyH (H : Hp) (v : V) : Int × Int := match v with
  | .ref t => match H t with
    | some (.tup [.int i, .int j]) => (i, j)
    | _ => (0, 0)
  | _ => (0, 0)
theorem pairs_own {H : Hp} : ∀ {ds : List D} {ps : List (Int × Int)} {vs : List V} {F : List Addr}, pairsOf ds = some ps → OwnL G H ds vs F → ds = ps.map pairD ∧ vs.map (keyH H) = ps ∧ ∀ v ∈ vs, ∃ t, v = .ref t ∧ H t = some (.tup [.int (keyH H v).1, .int (keyH H v).2])
  | [], ps, vs, F, h, o => by
    cases h
    obtain ⟨rfl, _⟩ := ownL_nil.mp o
    exact ⟨rfl, rfl, fun v hv => by cases hv⟩
  | d :: ds, ps, vs, F, h, o => by
    unfold pairsOf at h
    cases e1 : d.pair with
    | none => rw [e1] at h; simp at h
    | some p =>
      cases e2 : pairsOf ds with
      | none => rw [e1, e2] at h; simp at h
      | some qs =>
        rw [e1, e2] at h
        cases h
        obtain ⟨v, vr, F1, F2, rfl, o1, o2, _⟩ := ownL_cons.mp o
        obtain ⟨a1, a2, a3⟩ := pairs_own e2 o2
        have ed := D.pair_eq e1
        subst ed
        obtain ⟨a, ws, F3, rfl, n, ol, _⟩ := own_node.mp o1
        obtain ⟨u1, r1, _, _, rfl, q1, l1, _⟩ := ownL_cons.mp ol
        obtain ⟨u2, r2, _, _, rfl, q2, l2, _⟩ := ownL_cons.mp l1
        obtain ⟨rfl, _⟩ := ownL_nil.mp l2
        obtain ⟨rfl, _⟩ := own_int.mp q1
        obtain ⟨rfl, _⟩ := own_int.mp q2
        have n' : H a = some (.tup [.int p.1, .int p.2]) := n
        have ek : keyH H (.ref a) = p := by
          show (match H a with
            | some (.tup [.int i, .int j]) => (i, j)
            | _ => (0, 0)) = p
          rw [n']
        refine ⟨by rw [List.map_cons, ← a1], by rw [List.map_cons, a2, ek], fun v hv => ?_⟩
        rcases List.mem_cons.mp hv with e | hv
        · subst e
          exact ⟨a, rfl, by rw [ek]; exact n'⟩
        · exact a3 v hv
theorem own_pairs {H : Hp} : ∀ {vs : List V}, (∀ v ∈ vs, ∃ t, v = .ref t ∧ H t = some (.tup [.int (keyH H v).1, .int (keyH H v).2])) → OwnL G H ((vs.map (keyH H)).map pairD) vs []
  | [], _ => ownL_nil.mpr ⟨rfl, rfl⟩
  | v :: vs, h => by
    obtain ⟨t, e, n⟩ := h v (by simp)
    rw [List.map_cons, List.map_cons]
    refine ownL_cons.mpr ⟨v, vs, [], [], rfl, ?_, own_pairs fun u hu => h u (by simp [hu]), rfl⟩
    rw [e] at n ⊢
    refine own_node.mpr ⟨t, _, [], rfl, n, ?_, rfl⟩
    exact ownL_cons.mpr ⟨_, _, [], [], rfl, own_int.mpr ⟨rfl, rfl⟩, ownL_cons.mpr ⟨_, _, [], [], rfl, own_int.mpr ⟨rfl, rfl⟩, ownL_nil.mpr ⟨rfl, rfl⟩, rfl⟩, rfl⟩
theorem opl_sorted : OpL G (rSortedPO G.K) gSorted := by
  intro ds vs F H Q o s
  unfold gSorted at s
  split at s
  · rename_i xs
    obtain ⟨v, F1, rfl, o1⟩ := own1 o
    cases e : pairsOf xs with
    | none => rw [e] at s; exact s.elim
    | some ps =>
      rw [e] at s
      obtain ⟨a', ws, F', rfl, ht, ol, _⟩ := own_lst o1
      obtain ⟨a1, a2, a3⟩ := pairs_own e ol
      refine ⟨a', ws, keyH H, rfl, .inl (.inl ht), a3, fun ys p h1 h2 hp => ?_⟩
      have hy : ∀ v ∈ ys, ∃ t, v = .ref t ∧ H t = some (.tup [.int (keyH H v).1, .int (keyH H v).2]) := fun v hv => a3 v (h2.perm.mem_iff.mp hv)
      have eq : sortP ps = ys.map (keyH H) := by
        refine sorted_uniq ?_ (sortP_up ps) ?_
        · have := h2.perm.map (keyH H)
          rw [a2] at this
          exact (sortP_perm ps).trans this.symm
        · rw [List.pairwise_map]
          refine List.Pairwise.imp (fun {x y} q => ?_) h1
          have := SrtO.lexB_no.mp q
          unfold leP
          simp only [Bool.or_eq_true, Bool.and_eq_true, decide_eq_true_eq]
          omega
      have s' : SatF G W0 (.ok (.node .lst ((ys.map (keyH H)).map pairD))) [] H Q := by rw [← eq]; exact s
      exact new_lst s' (imms_pairs _) (own_pairs hy) p hp
  · exact s.elim
end
end Rs

set_option maxRecDepth 100000
/-! RsN: what a rule needs. -/
namespace Rs
open PySem PySem.Spec PyProof.Rows L2
theorem in_w {x c : D} {b : Bool} (h : gInB x c = some b) : gIn x c = .ok (.bl b) := by
  unfold gIn
  rw [h]
def m_inner : Evn → RS :=
    (mSeq (mIf (mTest (mBin gEq (mBinE gIx (mVar 0) (mC (.int 0))) (mC (.str "look")))) (mRet (mLst (mCons (mImm (mBinE gIx (mVar 0) (mC (.int 1)))) (mCons (mImm (mBinE gIx (mVar 0) (mC (.int 4)))) mNil)))) mNx)
    (mSeq (mIf (mTest (mBin gIn (mBinE gIx (mVar 0) (mC (.int 0))) (mTup (mCons (mC (.str "add")) (mCons (mC (.str "sub")) (mCons (mC (.str "mul")) (mCons (mC (.str "pick")) mNil))))))) (mRet (mCall gList (mCons (mSl (mVar 0) (mPart (mC (.int 1))) mNoPart) mNil))) mNx)
    (mRet (mLst mNil))))
def f_inner : List D → R D := runP 1 1 m_inner

def m_references : Evn → RS :=
    (mSeq (mIf (mTest (mBin gEq (mBinE gIx (mVar 0) (mC (.int 0))) (mC (.str "cell")))) (mRet (mLst (mCons (mImm (mBinE gIx (mVar 0) (mC (.int 1)))) mNil))) mNx)
    (mSeq (mIf (cOr (mTest (mBin gEq (mBinE gIx (mVar 0) (mC (.int 0))) (mC (.str "sum")))) (mTest (mBin gEq (mBinE gIx (mVar 0) (mC (.int 0))) (mC (.str "most"))))) (mRet (mLst (mCons (mImm (mBinE gIx (mVar 0) (mC (.int 1)))) (mCons (mImm (mBinE gIx (mVar 0) (mC (.int 2)))) mNil)))) mNx)
    (mSeq (mIf (mTest (mBin gEq (mBinE gIx (mVar 0) (mC (.int 0))) (mC (.str "look")))) (mRet (mLst (mCons (mImm (mBinE gIx (mVar 0) (mC (.int 2)))) (mCons (mImm (mBinE gIx (mVar 0) (mC (.int 3)))) mNil)))) mNx)
    (mRet (mLst mNil)))))
def f_references : List D → R D := runP 1 1 m_references

def m_deep (g : List D → R D) : Evn → RS :=
    (mRet (mBin gAdd (mC (.int 1)) (mMaxD (mLc 1 (mApp 1 f_inner (mCons (mVar 0) mNil)) mYes (mApp 1 g (mCons (mVar 1) mNil))) (mC (.int 0)))))
def f_deep_ : Nat → List D → R D
  | 0 => fun _ => .no
  | n + 1 => runP 1 2 (m_deep (f_deep_ n))

def m_named : Evn → RS :=
    (mSeq (mSet 1 (mApp 1 f_references (mCons (mVar 0) mNil)))
    (mSeq (mIf (mTest (mBin gEq (mVar 1) (mLst mNil))) (mRet (mLst mNil)) mNx)
    (mRet (mApp 2 f_area (mCons (mBinE gIx (mVar 1) (mC (.int 0))) (mCons (mBinE gIx (mVar 1) (mUn gNeg (mC (.int 1)))) mNil))))))
def f_named : List D → R D := runP 1 2 m_named

def m_needed (g : List D → R D) : Evn → RS :=
    (mSeq (mSet 1 mDT)
    (mSeq (mFor 2 (mApp 1 f_named (mCons (mVar 0) mNil)) (mPut 1 pRoot (mVar 2) (mC (.bl true))))
    (mSeq (mFor 3 (mApp 1 f_inner (mCons (mVar 0) mNil)) (mFor 2 (mApp 1 g (mCons (mVar 3) mNil)) (mPut 1 pRoot (mVar 2) (mC (.bl true)))))
    (mRet (mCall gSorted (mCons (mCall gList (mCons (mVar 1) mNil)) mNil))))))
def f_needed_ : Nat → List D → R D
  | 0 => fun _ => .no
  | n + 1 => runP 1 4 (m_needed (f_needed_ n))
@[simp] theorem in_t_add : gIn (.str "add") (.node .tup [.str "add", .str "sub", .str "mul", .str "pick"]) = .ok (.bl true) := in_w (by decide +kernel)
@[simp] theorem in_l_add : gIn (.str "add") (.node .lst [.str "add", .str "sub", .str "mul", .str "pick"]) = .ok (.bl true) := in_w (by decide +kernel)
@[simp] theorem in_s_add : gIn (.str "add") (.node .lst [.str "sum", .str "most"]) = .ok (.bl false) := in_w (by decide +kernel)
@[simp] theorem in_t_sub : gIn (.str "sub") (.node .tup [.str "add", .str "sub", .str "mul", .str "pick"]) = .ok (.bl true) := in_w (by decide +kernel)
@[simp] theorem in_l_sub : gIn (.str "sub") (.node .lst [.str "add", .str "sub", .str "mul", .str "pick"]) = .ok (.bl true) := in_w (by decide +kernel)
@[simp] theorem in_s_sub : gIn (.str "sub") (.node .lst [.str "sum", .str "most"]) = .ok (.bl false) := in_w (by decide +kernel)
@[simp] theorem in_t_mul : gIn (.str "mul") (.node .tup [.str "add", .str "sub", .str "mul", .str "pick"]) = .ok (.bl true) := in_w (by decide +kernel)
@[simp] theorem in_l_mul : gIn (.str "mul") (.node .lst [.str "add", .str "sub", .str "mul", .str "pick"]) = .ok (.bl true) := in_w (by decide +kernel)
@[simp] theorem in_s_mul : gIn (.str "mul") (.node .lst [.str "sum", .str "most"]) = .ok (.bl false) := in_w (by decide +kernel)
@[simp] theorem in_t_pick : gIn (.str "pick") (.node .tup [.str "add", .str "sub", .str "mul", .str "pick"]) = .ok (.bl true) := in_w (by decide +kernel)
@[simp] theorem in_l_pick : gIn (.str "pick") (.node .lst [.str "add", .str "sub", .str "mul", .str "pick"]) = .ok (.bl true) := in_w (by decide +kernel)
@[simp] theorem in_s_pick : gIn (.str "pick") (.node .lst [.str "sum", .str "most"]) = .ok (.bl false) := in_w (by decide +kernel)
@[simp] theorem in_t_look : gIn (.str "look") (.node .tup [.str "add", .str "sub", .str "mul", .str "pick"]) = .ok (.bl false) := in_w (by decide +kernel)
@[simp] theorem in_l_look : gIn (.str "look") (.node .lst [.str "add", .str "sub", .str "mul", .str "pick"]) = .ok (.bl false) := in_w (by decide +kernel)
@[simp] theorem in_s_look : gIn (.str "look") (.node .lst [.str "sum", .str "most"]) = .ok (.bl false) := in_w (by decide +kernel)
@[simp] theorem in_t_num : gIn (.str "num") (.node .tup [.str "add", .str "sub", .str "mul", .str "pick"]) = .ok (.bl false) := in_w (by decide +kernel)
@[simp] theorem in_l_num : gIn (.str "num") (.node .lst [.str "add", .str "sub", .str "mul", .str "pick"]) = .ok (.bl false) := in_w (by decide +kernel)
@[simp] theorem in_s_num : gIn (.str "num") (.node .lst [.str "sum", .str "most"]) = .ok (.bl false) := in_w (by decide +kernel)
@[simp] theorem in_t_cell : gIn (.str "cell") (.node .tup [.str "add", .str "sub", .str "mul", .str "pick"]) = .ok (.bl false) := in_w (by decide +kernel)
@[simp] theorem in_l_cell : gIn (.str "cell") (.node .lst [.str "add", .str "sub", .str "mul", .str "pick"]) = .ok (.bl false) := in_w (by decide +kernel)
@[simp] theorem in_s_cell : gIn (.str "cell") (.node .lst [.str "sum", .str "most"]) = .ok (.bl false) := in_w (by decide +kernel)
@[simp] theorem in_t_sum : gIn (.str "sum") (.node .tup [.str "add", .str "sub", .str "mul", .str "pick"]) = .ok (.bl false) := in_w (by decide +kernel)
@[simp] theorem in_l_sum : gIn (.str "sum") (.node .lst [.str "add", .str "sub", .str "mul", .str "pick"]) = .ok (.bl false) := in_w (by decide +kernel)
@[simp] theorem in_s_sum : gIn (.str "sum") (.node .lst [.str "sum", .str "most"]) = .ok (.bl true) := in_w (by decide +kernel)
@[simp] theorem in_t_most : gIn (.str "most") (.node .tup [.str "add", .str "sub", .str "mul", .str "pick"]) = .ok (.bl false) := in_w (by decide +kernel)
@[simp] theorem in_l_most : gIn (.str "most") (.node .lst [.str "add", .str "sub", .str "mul", .str "pick"]) = .ok (.bl false) := in_w (by decide +kernel)
@[simp] theorem in_s_most : gIn (.str "most") (.node .lst [.str "sum", .str "most"]) = .ok (.bl true) := in_w (by decide +kernel)
@[simp] theorem g_list_tup {xs : List D} : gList [.node .tup xs] = if D.imms xs = true then .ok (.node .lst xs) else .no := rfl
@[simp] theorem g_list_lst {xs : List D} : gList [.node .lst xs] = if D.imms xs = true then .ok (.node .lst xs) else .no := rfl
@[simp] theorem g_list_dT {ks : List (Int × Int)} {xs : List D} : gList [.node (.dT ks) xs] = .ok (.node .lst (ks.map pairD)) := rfl
def Ru.inner : Ru → List Ru
  | .op _ x y => [x, y]
  | .pick x y z => [x, y, z]
  | .look k _ _ o => [k, o]
  | _ => []
def Ru.refs : Ru → List Ref
  | .cell a => [a]
  | .sum a b => [a, b]
  | .most a b => [a, b]
  | .look _ a b _ => [a, b]
  | _ => []
theorem Ru.inner_dep {x y : Ru} (h : y ∈ x.inner) : y.dep < x.dep := by
  cases x <;> simp [Ru.inner] at h <;> simp only [Ru.dep]
  · rcases h with rfl | rfl <;> omega
  · rcases h with rfl | rfl | rfl <;> omega
  · rcases h with rfl | rfl <;> omega
theorem inner_run (x : Ru) : f_inner [x.toD] = .ok (.node .lst (x.inner.map Ru.toD)) := by
  unfold f_inner
  rw [run_out]
  unfold m_inner
  cases x with
  | op w x y => cases w <;> simp -implicitDefEqProofs [Ru.toD, Ru.inner, Op.nm]
  | _ => simp -implicitDefEqProofs [Ru.toD, Ru.inner]
theorem references_run (x : Ru) : f_references [x.toD] = .ok (.node .lst (x.refs.map Ref.toD)) := by
  unfold f_references
  rw [run_out]
  unfold m_references
  cases x with
  | op w x y => cases w <;> simp -implicitDefEqProofs [Ru.toD, Ru.refs, Op.nm]
  | _ => simp -implicitDefEqProofs [Ru.toD, Ru.refs]
@[simp] theorem ap_maxd {ρ : Evn} {ma mb : Evn → R D} : mMaxD ma mb ρ = (ma ρ).bind fun x => (mb ρ).bind fun y => gMaxD x y := rfl
theorem deep_run : ∀ (n : Nat) (x : Ru), x.dep ≤ n → f_deep_ n [x.toD] = .ok (.int x.dep)
  | 0, x, h => by have := x.dep_pos; omega
  | n + 1, x, h => by
    have ih := deep_run n
    have hi := inner_run x
    unfold f_deep_
    rw [run_out]
    unfold m_deep
    cases x with
    | op w x y =>
      simp only [Ru.dep] at h
      have hx := ih x (by omega)
      have hy := ih y (by omega)
      simp -implicitDefEqProofs [hi, Ru.inner, lcR, hx, hy, gMaxD, intsL, maxD, bestI, Ru.dep]
      split <;> omega
    | pick x y z =>
      simp only [Ru.dep] at h
      have hx := ih x (by omega)
      have hy := ih y (by omega)
      have hz := ih z (by omega)
      simp -implicitDefEqProofs [hi, Ru.inner, lcR, hx, hy, hz, gMaxD, intsL, maxD, bestI, Ru.dep]
      split <;> split <;> omega
    | look k a b o =>
      simp only [Ru.dep] at h
      have hx := ih k (by omega)
      have hy := ih o (by omega)
      simp -implicitDefEqProofs [hi, Ru.inner, lcR, hx, hy, gMaxD, intsL, maxD, bestI, Ru.dep]
      split <;> omega
    | _ => simp -implicitDefEqProofs [hi, Ru.inner, lcR, gMaxD, intsL, maxD, Ru.dep]
/-- the places that a rule's own references name -/
def Ru.own : Ru → List (Int × Int)
  | .cell a => areaP a.r a.c a.r a.c
  | .sum a b => areaP a.r a.c b.r b.c
  | .most a b => areaP a.r a.c b.r b.c
  | .look _ a b _ => areaP a.r a.c b.r b.c
  | _ => []
/-- in a box -/
def Ref.In (t : Int) (h : Nat) (l : Int) (w : Nat) (a : Ref) : Prop := t ≤ a.r ∧ a.r < t + h ∧ l ≤ a.c ∧ a.c < l + w
def Ru.In (t : Int) (h : Nat) (l : Int) (w : Nat) : Ru → Prop
  | .num _ => True
  | .cell a => a.In t h l w
  | .sum a b => a.In t h l w ∧ b.In t h l w
  | .most a b => a.In t h l w ∧ b.In t h l w
  | .op _ x y => x.In t h l w ∧ y.In t h l w
  | .pick x y z => x.In t h l w ∧ y.In t h l w ∧ z.In t h l w
  | .look k a b o => k.In t h l w ∧ a.In t h l w ∧ b.In t h l w ∧ o.In t h l w
theorem Ru.inner_In {t : Int} {h : Nat} {l : Int} {w : Nat} {x y : Ru} (hi : x.In t h l w) (hy : y ∈ x.inner) : y.In t h l w := by
  cases x <;> simp [Ru.inner] at hy <;> simp only [Ru.In] at hi
  · rcases hy with rfl | rfl
    · exact hi.1
    · exact hi.2
  · rcases hy with rfl | rfl | rfl
    · exact hi.1
    · exact hi.2.1
    · exact hi.2.2
  · rcases hy with rfl | rfl
    · exact hi.1
    · exact hi.2.2.2
theorem mem_boxP {t : Int} {h : Nat} {l : Int} {w : Nat} {p : Int × Int} : p ∈ boxP t h l w ↔ t ≤ p.1 ∧ p.1 < t + h ∧ l ≤ p.2 ∧ p.2 < l + w := by
  unfold boxP rowP
  simp only [List.mem_flatMap, List.mem_range, List.mem_map]
  constructor
  · rintro ⟨k, hk, j, hj, rfl⟩
    simp only
    omega
  · rintro ⟨h1, h2, h3, h4⟩
    refine ⟨(p.1 - t).toNat, by omega, (p.2 - l).toNat, by omega, ?_⟩
    apply Prod.ext <;> simp only <;> omega
theorem mem_areaP {a b c d : Int} {p : Int × Int} : p ∈ areaP a b c d ↔ min a c ≤ p.1 ∧ p.1 ≤ max a c ∧ min b d ≤ p.2 ∧ p.2 ≤ max b d := by
  unfold areaP
  rw [mem_boxP]
  omega
theorem area_fit {t : Int} {h : Nat} {l : Int} {w : Nat} {a b : Ref} (ha : a.In t h l w) (hb : b.In t h l w) (hw : h * w < 100000) : (max a.r b.r + 1 - min a.r b.r).toNat * (max a.c b.c + 1 - min a.c b.c).toNat < 100000 := by
  unfold Ref.In at ha hb
  have h1 : (max a.r b.r + 1 - min a.r b.r).toNat ≤ h := by omega
  have h2 : (max a.c b.c + 1 - min a.c b.c).toNat ≤ w := by omega
  exact Nat.lt_of_le_of_lt (Nat.mul_le_mul h1 h2) hw
theorem ref_area {a b : Ref} (hf : (max a.r b.r + 1 - min a.r b.r).toNat * (max a.c b.c + 1 - min a.c b.c).toNat < 100000) : f_area [a.toD, b.toD] = .ok (.node .lst ((areaP a.r a.c b.r b.c).map pairD)) := area_run hf
theorem eq_nil_refs (xs : List Ref) : gEq (.node .lst (xs.map Ref.toD)) (.node .lst []) = .ok (.bl xs.isEmpty) := by
  have h : okD 60 (.node .lst (xs.map Ref.toD)) = true := by
    simp only [okD, Bool.and_eq_true, decide_eq_true_eq]
    refine ⟨by omega, okDs_iff.mpr fun d hd => ?_⟩
    obtain ⟨x, _, rfl⟩ := List.mem_map.mp hd
    exact x.ok (by omega)
  unfold gEq
  rw [if_pos ⟨h, rfl⟩]
  congr 2
  cases xs with
  | nil => rfl
  | cons x xs => 
    show PyData.eqv (.list (toPs (x.toD :: xs.map Ref.toD))) (.list (toPs [])) = false
    simp only [toPs]
    rw [PyData.eqv, PyData.eqvAll]
theorem named_run {t : Int} {h : Nat} {l : Int} {w : Nat} (hw : h * w < 100000) (x : Ru) (hi : x.In t h l w) : f_named [x.toD] = .ok (.node .lst (x.own.map pairD)) := by
  have hr := references_run x
  have he := eq_nil_refs x.refs
  have m1 : ∀ a b : D, gIx (.node .lst [a, b]) (.int (-1)) = .ok b := fun a b => ix_m1 (xs := [a])
  have m2 : ∀ a : D, gIx (.node .lst [a]) (.int (-1)) = .ok a := fun a => ix_m1 (xs := [])
  unfold f_named
  rw [run_out]
  unfold m_named
  cases x with
  | cell a =>
    simp only [Ru.In] at hi
    simp only [Ru.refs, List.map_cons, List.map_nil] at he hr
    simp -implicitDefEqProofs [hr, he, m1, m2, Ru.own, ref_area (area_fit hi hi hw)]
  | sum a b =>
    simp only [Ru.In] at hi
    simp only [Ru.refs, List.map_cons, List.map_nil] at he hr
    simp -implicitDefEqProofs [hr, he, m1, m2, Ru.own, ref_area (area_fit hi.1 hi.2 hw)]
  | most a b =>
    simp only [Ru.In] at hi
    simp only [Ru.refs, List.map_cons, List.map_nil] at he hr
    simp -implicitDefEqProofs [hr, he, m1, m2, Ru.own, ref_area (area_fit hi.1 hi.2 hw)]
  | look k a b o =>
    simp only [Ru.In] at hi
    simp only [Ru.refs, List.map_cons, List.map_nil] at he hr
    simp -implicitDefEqProofs [hr, he, m1, m2, Ru.own, ref_area (area_fit hi.2.1 hi.2.2.1 hw)]
  | _ =>
    simp only [Ru.refs, List.map_nil] at he hr
    simp -implicitDefEqProofs [hr, he, Ru.own]
end Rs

set_option maxRecDepth 100000
/-! RsN2: needed. -/
namespace Rs
open PySem PySem.Spec PyProof.Rows L2
theorem nodup_len {α : Type} [DecidableEq α] : ∀ {l m : List α}, l.Nodup → (∀ x ∈ l, x ∈ m) → l.length ≤ m.length
  | [], m, _, _ => Nat.zero_le _
  | x :: l, m, nd, h => by
    have hx : x ∈ m := h x (by simp)
    have nd' := List.nodup_cons.mp nd
    have := nodup_len (l := l) (m := m.erase x) nd'.2 fun y hy => by
      have : y ≠ x := fun e => nd'.1 (e ▸ hy)
      exact (List.mem_erase_of_ne this).mpr (h y (by simp [hy]))
    rw [List.length_erase_of_mem hx] at this
    have : 0 < m.length := List.length_pos_of_mem hx
    simp only [List.length_cons]
    omega
@[simp] theorem pair_pairD {p : Int × Int} : (pairD p).pair = some p := rfl
/-- the keys behind a put -/
def insK (ks : List (Int × Int)) (p : Int × Int) : List (Int × Int) := if p ∈ ks then ks else ks ++ [p]
theorem insK_nd {ks : List (Int × Int)} {p : Int × Int} (h : ks.Nodup) : (insK ks p).Nodup := by
  unfold insK
  split
  · exact h
  · rename_i hp
    refine List.nodup_append.mpr ⟨h, by simp, fun a ha b hb e => ?_⟩
    rw [List.mem_singleton.mp hb] at e
    exact hp (e ▸ ha)
theorem insK_mem {ks : List (Int × Int)} {p q : Int × Int} : q ∈ insK ks p ↔ q ∈ ks ∨ q = p := by
  unfold insK
  split
  · rename_i hp
    constructor
    · exact .inl
    · rintro (h | rfl)
      · exact h
      · exact hp
  · simp
theorem put_dT {ks : List (Int × Int)} {vs : List D} {p : Int × Int} {x : D} (hl : ks.length < 100000) (hx : x.imm = true) : ∃ vs', putItem (.node (.dT ks) vs) (pairD p) x = some (.node (.dT (insK ks p)) vs') := by
  refine ⟨(putD ks vs p x).2, ?_⟩
  unfold putItem
  simp only [pair_pairD]
  rw [if_pos ⟨hl, .inl hx⟩]
  congr 3
  unfold putD insK
  split <;> rfl
/-- a set of places, as a dict's keys -/
structure KeysOf (B : List (Int × Int)) (S : Int × Int → Prop) (ks : List (Int × Int)) : Prop where
  nd : ks.Nodup
  mem : ∀ p, p ∈ ks ↔ S p
  sub : ∀ p, S p → p ∈ B
theorem KeysOf.len {B : List (Int × Int)} {S : Int × Int → Prop} {ks : List (Int × Int)} (h : KeysOf B S ks) : ks.length ≤ B.length := nodup_len h.nd fun x hx => h.sub x ((h.mem x).mp hx)
theorem mem_take1 {α : Type} {l : List α} {k : Nat} (h : k < l.length) {p : α} : p ∈ l.take (k + 1) ↔ p ∈ l.take k ∨ p = l[k] := by
  rw [List.take_succ_eq_append_getElem h, List.mem_append, List.mem_singleton]
theorem ins_loop {B : List (Int × Int)} (hB : B.length < 100000) {L : List (Int × Int)} (hL : ∀ p ∈ L, p ∈ B) {S : Int × Int → Prop} {ks : List (Int × Int)} (hk : KeysOf B S ks) (vs : List D) (s0 s2 s3 : Slot) :
    ∃ ks' vs' s2', forL 2 (mPut 1 pRoot (mVar 2) (mC (.bl true))) (L.map pairD) [s0, .ow (.node (.dT ks) vs), s2, s3] = .nx [s0, .ow (.node (.dT ks') vs'), s2', s3] ∧ KeysOf B (fun p => S p ∨ p ∈ L) ks' := by
  have loop := forL_inv (i := 2) (body := mPut 1 pRoot (mVar 2) (mC (.bl true))) (xs := L.map pairD) (ρ := [s0, .ow (.node (.dT ks) vs), s2, s3])
    (I := fun k ρ => ∃ ks' vs' s2', ρ = [s0, .ow (.node (.dT ks') vs'), s2', s3] ∧ KeysOf B (fun p => S p ∨ p ∈ L.take k) ks')
    ⟨ks, vs, s2, rfl, hk.nd, fun p => by simp [hk.mem], fun p h => hk.sub p (by simpa using h)⟩ fun k x ρ hx ⟨ks', vs', s2', e, hk'⟩ => by
      subst e
      have hlt : k < L.length := by have := (List.getElem?_eq_some_iff.mp hx).1; simpa using this
      rw [List.getElem?_map, List.getElem?_eq_getElem hlt] at hx
      cases hx
      obtain ⟨vs2, hp⟩ := put_dT (ks := ks') (vs := vs') (p := L[k]) (x := .bl true) (Nat.lt_of_le_of_lt hk'.len hB) rfl
      refine ⟨_, ?_, insK ks' L[k], vs2, .ro (pairD L[k]), rfl, insK_nd hk'.nd, fun p => ?_, fun p h => ?_⟩
      · simp -implicitDefEqProofs [hp]
      · rw [insK_mem, hk'.mem, mem_take1 hlt, or_assoc]
      · rw [List.take_succ_eq_append_getElem hlt] at h
        rcases h with h | h
        · exact hk'.sub p (.inl h)
        · rcases List.mem_append.mp h with h | h
          · exact hk'.sub p (.inr h)
          · rw [List.mem_singleton.mp h]; exact hL _ (List.getElem_mem hlt)
  obtain ⟨ρ', e1, ks', vs', s2', e2, h⟩ := loop
  subst e2
  rw [List.length_map, List.take_length] at h
  exact ⟨ks', vs', s2', e1, h⟩
def Ru.Nam : Ru → Int × Int → Prop
  | .num _, _ => False
  | .cell a, p => p ∈ areaP a.r a.c a.r a.c
  | .sum a b, p => p ∈ areaP a.r a.c b.r b.c
  | .most a b, p => p ∈ areaP a.r a.c b.r b.c
  | .op _ x y, p => x.Nam p ∨ y.Nam p
  | .pick x y z, p => x.Nam p ∨ y.Nam p ∨ z.Nam p
  | .look k a b o, p => p ∈ areaP a.r a.c b.r b.c ∨ k.Nam p ∨ o.Nam p
theorem Ru.nam_iff (x : Ru) (p : Int × Int) : x.Nam p ↔ p ∈ x.own ∨ ∃ y ∈ x.inner, y.Nam p := by
  cases x <;> simp [Ru.Nam, Ru.own, Ru.inner]
theorem area_In {t : Int} {h : Nat} {l : Int} {w : Nat} {a b : Ref} (ha : a.In t h l w) (hb : b.In t h l w) {p : Int × Int} (hp : p ∈ areaP a.r a.c b.r b.c) : p ∈ boxP t h l w := by
  rw [mem_areaP] at hp
  rw [mem_boxP]
  unfold Ref.In at ha hb
  omega
theorem Ru.nam_In {t : Int} {h : Nat} {l : Int} {w : Nat} {p : Int × Int} : ∀ (x : Ru), x.In t h l w → x.Nam p → p ∈ boxP t h l w
  | .num _, _, n => n.elim
  | .cell a, i, n => area_In i i n
  | .sum a b, i, n => area_In i.1 i.2 n
  | .most a b, i, n => area_In i.1 i.2 n
  | .op _ x y, i, n => n.elim (Ru.nam_In x i.1) (Ru.nam_In y i.2)
  | .pick x y z, i, n => n.elim (Ru.nam_In x i.1) fun n => n.elim (Ru.nam_In y i.2.1) (Ru.nam_In z i.2.2)
  | .look k a b o, i, n => n.elim (area_In i.2.1 i.2.2.1) fun n => n.elim (Ru.nam_In k i.1) (Ru.nam_In o i.2.2.2)
theorem KeysOf.congr {B : List (Int × Int)} {S S' : Int × Int → Prop} {ks : List (Int × Int)} (h : KeysOf B S ks) (e : ∀ p, S p ↔ S' p) : KeysOf B S' ks := ⟨h.nd, fun p => (h.mem p).trans (e p), fun p q => h.sub p ((e p).mpr q)⟩
theorem KeysOf.sort {B : List (Int × Int)} {S : Int × Int → Prop} {ks : List (Int × Int)} (h : KeysOf B S ks) : KeysOf B S (sortP ks) := ⟨(sortP_perm ks).nodup_iff.mpr h.nd, fun p => ((sortP_perm ks).mem_iff).trans (h.mem p), h.sub⟩
theorem needed_run {t : Int} {h : Nat} {l : Int} {w : Nat} (hw : h * w < 100000) : ∀ (n : Nat) (x : Ru), x.dep ≤ n → x.In t h l w →
    ∃ ks, f_needed_ n [x.toD] = .ok (.node .lst (ks.map pairD)) ∧ KeysOf (boxP t h l w) x.Nam ks ∧ ks.Pairwise (fun a b => leP a b = true)
  | 0, x, hd, hi => by have := x.dep_pos; omega
  | n + 1, x, hd, hi => by
    have hB : (boxP t h l w).length < 100000 := by rw [boxP_len]; exact hw
    obtain ⟨k1, v1, s2, e1, hk1⟩ := ins_loop hB (L := x.own) (fun p hp => x.nam_In hi ((x.nam_iff p).mpr (.inl hp))) (S := fun _ => False) (ks := []) ⟨List.nodup_nil, fun p => by simp, fun p q => q.elim⟩ [] (.ro x.toD) .un .un
    have loop := forL_inv (i := 3) (body := mFor 2 (mApp 1 (f_needed_ n) (mCons (mVar 3) mNil)) (mPut 1 pRoot (mVar 2) (mC (.bl true)))) (xs := x.inner.map Ru.toD) (ρ := [.ro x.toD, .ow (.node (.dT k1) v1), s2, .un])
      (I := fun k ρ => ∃ ks vs s2 s3, ρ = [.ro x.toD, .ow (.node (.dT ks) vs), s2, s3] ∧ KeysOf (boxP t h l w) (fun p => p ∈ x.own ∨ ∃ y ∈ x.inner.take k, y.Nam p) ks)
      ⟨k1, v1, s2, .un, rfl, hk1.congr fun p => by simp⟩ fun k d ρ hx ⟨ks, vs, s2, s3, e, hk⟩ => by
        subst e
        have hlt : k < x.inner.length := by have := (List.getElem?_eq_some_iff.mp hx).1; simpa using this
        rw [List.getElem?_map, List.getElem?_eq_getElem hlt] at hx
        cases hx
        have hy : x.inner[k] ∈ x.inner := List.getElem_mem hlt
        obtain ⟨L, hr, hL, _⟩ := needed_run hw n x.inner[k] (by have := Ru.inner_dep hy; omega) (Ru.inner_In hi hy)
        obtain ⟨ks2, vs2, s22, e2, hk2⟩ := ins_loop hB (L := L) (fun p hp => hL.sub p ((hL.mem p).mp hp)) hk vs (.ro x.toD) s2 (.ro x.inner[k].toD)
        refine ⟨_, ?_, ks2, vs2, s22, .ro x.inner[k].toD, rfl, hk2.congr fun p => ?_⟩
        · simp -implicitDefEqProofs [hr, e2]
        · rw [hL.mem]
          constructor
          · rintro ((h | ⟨y, h, q⟩) | h)
            · exact .inl h
            · exact .inr ⟨y, (mem_take1 hlt).mpr (.inl h), q⟩
            · exact .inr ⟨_, (mem_take1 hlt).mpr (.inr rfl), h⟩
          · rintro (h | ⟨y, h, q⟩)
            · exact .inl (.inl h)
            · rcases (mem_take1 hlt).mp h with h | h
              · exact .inl (.inr ⟨y, h, q⟩)
              · exact .inr (h ▸ q)
    obtain ⟨ρ', e2, ks, vs, s22, s3, e3, hk⟩ := loop
    subst e3
    rw [List.length_map, List.take_length] at hk
    refine ⟨sortP ks, ?_, (hk.congr fun p => (x.nam_iff p).symm).sort, sortP_up ks⟩
    have hn := named_run hw x hi
    have hin := inner_run x
    unfold f_needed_
    rw [run_out]
    unfold m_needed mDT
    simp -implicitDefEqProofs [hn, hin, e1, e2, gSorted, pairsOf_map]
end Rs

set_option maxRecDepth 100000
/-! RsD: dicts by pairs compared. -/
namespace Rs
open PySem PySem.Spec PyProof.Rows L2
section
variable {prog : Program} {w : World} {K : Type} [DecidableEq K] {knd : HeapKind prog w K} {A : Around} {E : Value → Shared → Prop} {s : Shared}
theorem pairsH_same {nm : String} {a b : Addr} {xs ys : List (K × Addr × Value)} {Q : Bool → Shared → Prop} (hu : knd.room A) (ha : (a == sysModules) = false) (hb : (b == sysModules) = false) (da : s.heap.DictOfH knd a xs) (db : s.heap.DictOfH knd b ys)
    (hl : xs.length = ys.length) (hits : ∀ x ∈ xs, ∃ y : K × Addr × Value, y ∈ ys ∧ y.1 = x.1 ∧ SeqAt.EqAt A s x.2.2 y.2.2 true) (h : Q true s) : wpAny (model prog w) A (Builtin.Dict.samePairs nm a b) Q E s := by
  obtain ⟨oa, es, ep, hoa, _, hda, hea, hia, hna⟩ := da
  obtain ⟨ob, es', ep', hob, _, hdb, heb, hib, hnb⟩ := db
  have sa := size_of_entries hea
  have sb := size_of_entries heb
  have hsz : es.size = es'.size := by rw [sa, sb, hl]
  unfold Builtin.Dict.samePairs Builtin.Dict.showsAll
  rw [if_neg (fun q => by rw [ha] at q; cases q), if_neg (fun q => by rw [hb] at q; cases q)]
  apply wpAny_bind; apply wpAny_pure; apply wpAny_bind; apply wpAny_pure
  apply wpAny_bind; apply wpAny_dictEntries hoa hda
  dsimp only
  apply wpAny_bind; apply wpAny_dictEntries hob hdb
  rw [if_neg (by rw [hsz]; simp)]
  apply wpAny_bind; apply wpAny_dictEpoch hoa hda
  apply wpAny_bind
  rw [Std.Legacy.Range.forIn_eq_forIn_range']
  simp only [Std.Legacy.Range.size, Nat.sub_zero, Nat.add_sub_cancel, Nat.div_one]
  refine wpAny_forIn_list _ (fun rest q s' => s' = s ∧ q = (none, ()) ∧ ∃ i, rest = List.range' i (es.size - i) ∧ i ≤ es.size) _ ?_ ?_ _ _ ⟨rfl, rfl, 0, by simp, Nat.zero_le _⟩
  · rintro x rest q s' ⟨rfl, rfl, i, hr, hi⟩
    have hlt : i < es.size := by
      by_cases q : i < es.size
      · exact q
      · rw [show es.size - i = 0 by omega] at hr; simp at hr
    have e : es.size - i = (es.size - (i + 1)) + 1 := by omega
    rw [e, List.range'_succ] at hr
    injection hr with h1 h2
    subst h1
    have hlx : x < xs.length := by rw [← sa]; exact hlt
    have hex : es[x]? = some (entryOfKey knd xs[x]) := by rw [entry_at hea, List.getElem?_eq_getElem hlx]; rfl
    obtain ⟨y, hy, hyk, heq⟩ := hits xs[x] (List.getElem_mem hlx)
    apply wpAny_bind; apply wpAny_dictEntries hoa hda
    rw [hex]
    show wpAny _ _ (holding [.ref xs[x].2.1, xs[x].2.2] _ >>= _) _ _ _
    apply wpAny_bind; apply wpAny_holding; apply wpAny_bind
    refine wpAny_dictFind_heap hu (hia xs[x] (List.getElem_mem hlx)) hob hdb heb hib hnb (fun no => ?_) (fun j p hj => ?_)
    · exfalso
      obtain ⟨j, hj, ej⟩ := List.mem_iff_getElem.mp hy
      refine no j y.2 ?_
      rw [List.getElem?_eq_getElem hj, ej, ← hyk]
    · apply wpAny_bind; apply wpAny_dictEntries hob hdb
      rw [entry_at heb, hj]
      have : p = y.2 := by
        obtain ⟨j', hj', ej⟩ := List.mem_iff_getElem.mp hy
        have q : ys[j']? = some (xs[x].1, y.2) := by rw [List.getElem?_eq_getElem hj', ej, ← hyk]
        have := idxH_unique hnb hj q
        subst this
        rw [hj] at q
        injection q with q
        injection q
      subst this
      show wpAny _ _ (holding [y.2.2] (eqBool xs[x].2.2 y.2.2)) _ _ _
      apply wpAny_holding
      refine heq prog w _ _ ?_
      show wpAny _ _ (if (!true) = true then _ else _) _ _ _
      rw [if_neg (by decide)]
      apply wpAny_bind; apply wpAny_dictEpoch hoa hda
      rw [if_neg (by simp)]
      exact wpAny_pure ⟨rfl, rfl, x + 1, h2, hlt⟩
  · rintro q s' ⟨rfl, rfl, i, hr, hi⟩
    exact wpAny_pure h
theorem neH {a b : Addr} {xs ys : List (K × Addr × Value)} {Q : Value → Shared → Prop} (hr : knd.room A.in1) (hu : A.units < cLine) (ha : (a == sysModules) = false) (hb : (b == sysModules) = false) (da : s.heap.DictOfH knd a xs) (db : s.heap.DictOfH knd b ys)
    (hl : xs.length = ys.length) (hits : ∀ x ∈ xs, ∃ y : K × Addr × Value, y ∈ ys ∧ y.1 = x.1 ∧ SeqAt.EqAt A.in1 s x.2.2 y.2.2 true) (h : Q (.bool false) s) : wpAny (model prog w) A (compareOp .NotEq (.ref a) (.ref b)) Q E s := by
  refine wpAny_richCompare_same_room (op := .NotEq) da.typeIs db.typeIs PySem.F.slot_dict_ne (wpAny_call_entry PySem.F.slot_dict_ne da.typeIs PySem.F.entry_dict_ne ?_ (PySem.F.args_dict_ne_2 _ _)) hu
  show wpAny _ _ (Builtin.Dict.dictSlotArgs "__ne__" ⟨[.ref a, .ref b], []⟩ >>= _) _ _ s
  apply wpAny_bind
  unfold Builtin.Dict.dictSlotArgs
  apply wpAny_bind; apply wpAny_notOrdered_dict da.typeIs
  show wpAny _ _ (pure (Value.ref a, Value.ref b)) _ _ s
  apply wpAny_pure
  apply wpAny_bind; refine wpAny_isInstance (T := "dict") db.typeIs PySem.F.sub_dict_dict ?_
  simp only [Bool.not_true, Bool.false_eq_true, if_false]
  apply wpAny_bind; apply wpAny_pure; apply wpAny_bind; apply wpAny_pure
  apply wpAny_bind; refine pairsH_same hr ha hb da db hl hits ?_
  exact wpAny_pure ⟨_, rfl, (fun x => by cases x), h⟩
end
section
variable {G : Gx} {X : Cx}
/-- d != e of two dicts by pairs that hold the same numbers under the same keys -/
def rNeT : R2 := fun x y H Q => ∃ a b ks ls, x = .ref a ∧ y = .ref b ∧ Rd H a (.dT ks) ∧ Rd H b (.dT ls) ∧ ks.length = ls.length ∧ (∀ p ∈ ks, ∃ q ∈ ls, q.1 = p.1 ∧ q.2 = p.2 ∧ flatB p.2 = true) ∧ Q (.bl false) H
theorem kt_mem {H : Hp} {kvs : List (List Key × V)} {xs : List (List Key × Addr × Value)} (r : KT H kvs xs) : (∀ x ∈ xs, ∃ p ∈ kvs, p.1 = x.1 ∧ RelV p.2 x.2.2) ∧ ∀ p ∈ kvs, ∃ x ∈ xs, p.1 = x.1 ∧ RelV p.2 x.2.2 := by
  unfold KT at r
  induction r with
  | nil => exact ⟨fun x hx => absurd hx (by simp), fun x hx => absurd hx (by simp)⟩
  | @cons p q ps qs h t ih =>
    obtain ⟨h1, _, h2⟩ := h
    constructor
    · intro x hx
      rcases List.mem_cons.mp hx with rfl | hx
      · exact ⟨p, by simp, h1, h2⟩
      · obtain ⟨p', hp, q⟩ := ih.1 x hx
        exact ⟨p', by simp [hp], q⟩
    · intro x hx
      rcases List.mem_cons.mp hx with rfl | hx
      · exact ⟨q, by simp, h1, h2⟩
      · obtain ⟨p', hp, q⟩ := ih.2 x hx
        exact ⟨p', by simp [hp], q⟩
theorem op_neT (hu : X.A.units + 1 < cLine) : OpR X (compareOp .NotEq) rNeT := by
  intro pins s σ H x y v u Q I rx ry h
  obtain ⟨a, b, ks, ls, rfl, rfl, ea, eb, hlen, hp, q⟩ := h
  obtain rfl : v = Value.ref a := rx
  obtain rfl : u = Value.ref b := ry
  obtain ⟨_, sa, va, ra, da⟩ := dt_rd I.hok ea
  obtain ⟨_, sb, vb, rb, db⟩ := dt_rd I.hok eb
  refine neH (tupleKind_room_in1 hu) (by omega) sa sb da db (by rw [← Paired.length ra, ← Paired.length rb]; exact hlen) (fun z hz => ?_) ⟨.bl false, H, I, rfl, q⟩
  obtain ⟨p, hpk, e1, r1⟩ := (kt_mem ra).1 z hz
  obtain ⟨p2, hp2, e2, e3, hf⟩ := hp p hpk
  obtain ⟨y, hy, e4, r2⟩ := (kt_mem rb).2 p2 hp2
  exact ⟨y, hy, by rw [← e4, e2, e1], eqAt_same r1 (e3 ▸ r2) hf⟩
/-- of dicts of numbers: the same ones are told alike -/
def numsD : D → Bool
  | .node (.dT _) xs => xs.all fun x => match x with | .int _ => true | _ => false
  | _ => false
def sameT (d e : D) : Option Bool := match d, e with
  | .node (.dT ks) xs, .node (.dT ls) ys => if ks = ls ∧ intsL xs = intsL ys ∧ (intsL xs).isSome = true then some true else none
  | _, _ => none
def gNeT (d e : D) : R D := match sameT d e with
  | some _ => .ok (.bl false)
  | none => .no
theorem opd_neT : OpD G rNeT gNeT := by
  intro d1 d2 v1 v2 F1 F2 H Q o1 o2 s
  unfold gNeT at s
  cases e : sameT d1 d2 with
  | none => rw [e] at s; exact s.elim
  | some b =>
    rw [e] at s
    unfold sameT at e
    split at e
    · rename_i ks xs ls ys
      split at e
      · rename_i hc
        obtain ⟨rfl, h2, h3⟩ := hc
        obtain ⟨ns, hns⟩ := Option.isSome_iff_exists.mp h3
        obtain ⟨a, kv1, G1, rfl, r1, k1, l1, _⟩ := own_dT o1
        obtain ⟨b', kv2, G2, rfl, r2, k2, l2, _⟩ := own_dT o2
        have w1 := ints_own hns l1
        have w2 := ints_own (h2 ▸ hns) l2
        have ekv : kv1 = kv2 := by
          have hz : ∀ {l m : List (List Key × V)}, l.map (·.1) = m.map (·.1) → l.map (·.2) = m.map (·.2) → l = m := by
            intro l
            induction l with
            | nil => intro m h _; cases m with
              | nil => rfl
              | cons => simp at h
            | cons p l ih => intro m h h'; cases m with
              | nil => simp at h
              | cons q m =>
                simp only [List.map_cons, List.cons.injEq] at h h'
                rw [ih h.2 h'.2, Prod.ext h.1 h'.1]
          exact hz (k1.trans k2.symm) (w1.trans w2.symm)
        subst ekv
        refine ⟨a, b', kv1, kv1, rfl, rfl, r1, r2, rfl, fun p hp => ⟨p, hp, rfl, rfl, ?_⟩, leaf_bl s⟩
        have : p.2 ∈ kv1.map (·.2) := List.mem_map.mpr ⟨p, hp, rfl⟩
        rw [w1] at this
        obtain ⟨n, _, en⟩ := List.mem_map.mp this
        rw [← en]
        rfl
      · cases e
    · cases e
def rNeA (K : PySem.W.Frag) : R2 := fun x y H Q => rNeD K x y H Q ∨ rNeT x y H Q
theorem op_neA (hu : X.A.units + 64 < cLine) : OpR X (compareOp .NotEq) (rNeA X.K) := OpR.or (op_neD hu) (op_neT (by omega))
def gNeA (d e : D) : R D := match sameT d e with
  | some _ => .ok (.bl false)
  | none => gNe d e
theorem opd_neA : OpD G (rNeA G.K) gNeA := OpD.or opd_ne opd_neT fun x y ⟨d, e⟩ => by
  unfold gNeA at e ⊢
  cases h : sameT x y with
  | none => exact .inl rfl
  | some b => exact .inr (by unfold gNeT; rw [h])
end
end Rs

set_option maxRecDepth 100000
/-! RsT: what a rule tells. -/
namespace Rs
open PySem PySem.Spec PyProof.Rows L2
def m_looked (g : List D → R D) : Evn → RS :=
    (mSeq (mSet 2 (mApp 2 g (mCons (mBinE gIx (mVar 0) (mC (.int 1))) (mCons (mVar 1) mNil))))
    (mSeq (mSet 3 (mCall gMin2 (mCons (mBinE gIx (mBinE gIx (mVar 0) (mC (.int 2))) (mC (.int 1))) (mCons (mBinE gIx (mBinE gIx (mVar 0) (mC (.int 3))) (mC (.int 1))) mNil))))
    (mSeq (mSet 4 (mCall gMax2 (mCons (mBinE gIx (mBinE gIx (mVar 0) (mC (.int 2))) (mC (.int 1))) (mCons (mBinE gIx (mBinE gIx (mVar 0) (mC (.int 3))) (mC (.int 1))) mNil))))
    (mSeq (mForR 5 (mCons (mCall gMin2 (mCons (mBinE gIx (mBinE gIx (mVar 0) (mC (.int 2))) (mC (.int 0))) (mCons (mBinE gIx (mBinE gIx (mVar 0) (mC (.int 3))) (mC (.int 0))) mNil))) (mCons (mBin gAdd (mCall gMax2 (mCons (mBinE gIx (mBinE gIx (mVar 0) (mC (.int 2))) (mC (.int 0))) (mCons (mBinE gIx (mBinE gIx (mVar 0) (mC (.int 3))) (mC (.int 0))) mNil))) (mC (.int 1))) mNil)) (mIf (mTest (mBin gEq (mBinE gIx (mVar 1) (mTup (mCons (mImm (mVar 5)) (mCons (mImm (mVar 3)) mNil)))) (mVar 2))) (mRet (mImm (mBinE gIx (mVar 1) (mTup (mCons (mImm (mVar 5)) (mCons (mImm (mVar 4)) mNil)))))) mNx))
    (mRet (mApp 2 g (mCons (mBinE gIx (mVar 0) (mC (.int 4))) (mCons (mVar 1) mNil))))))))
def f_looked (g : List D → R D) : List D → R D := runP 2 6 (m_looked g)

def m_joined : Evn → RS :=
    (mSeq (mIf (mTest (mBin gEq (mVar 0) (mC (.str "add")))) (mRet (mBin gMod (mBin gAdd (mVar 1) (mVar 2)) (mC (.int 1000000000)))) mNx)
    (mSeq (mIf (mTest (mBin gEq (mVar 0) (mC (.str "sub")))) (mRet (mBin gMod (mBin gSub (mVar 1) (mVar 2)) (mC (.int 1000000000)))) mNx)
    (mRet (mBin gMod (mBin gMul (mVar 1) (mVar 2)) (mC (.int 1000000000))))))
def f_joined : List D → R D := runP 3 3 m_joined

def m_told (g : List D → R D) : Evn → RS :=
    (mSeq (mSet 2 (mImm (mBinE gIx (mVar 0) (mC (.int 0)))))
    (mSeq (mIf (mTest (mBin gEq (mVar 2) (mC (.str "num")))) (mRet (mBin gMod (mBinE gIx (mVar 0) (mC (.int 1))) (mC (.int 1000000000)))) mNx)
    (mSeq (mIf (mTest (mBin gEq (mVar 2) (mC (.str "cell")))) (mRet (mImm (mBinE gIx (mVar 1) (mTup (mCons (mImm (mBinE gIx (mBinE gIx (mVar 0) (mC (.int 1))) (mC (.int 0)))) (mCons (mImm (mBinE gIx (mBinE gIx (mVar 0) (mC (.int 1))) (mC (.int 1)))) mNil)))))) mNx)
    (mSeq (mIf (mTest (mBin gEq (mVar 2) (mC (.str "sum")))) (mRet (mBin gMod (mCall gSum (mCons (mLc 3 (mApp 2 f_area (mCons (mBinE gIx (mVar 0) (mC (.int 1))) (mCons (mBinE gIx (mVar 0) (mC (.int 2))) mNil))) mYes (mImm (mBinE gIx (mVar 1) (mVar 3)))) mNil)) (mC (.int 1000000000)))) mNx)
    (mSeq (mIf (mTest (mBin gEq (mVar 2) (mC (.str "most")))) (mRet (mCall gMax1 (mCons (mLc 3 (mApp 2 f_area (mCons (mBinE gIx (mVar 0) (mC (.int 1))) (mCons (mBinE gIx (mVar 0) (mC (.int 2))) mNil))) mYes (mImm (mBinE gIx (mVar 1) (mVar 3)))) mNil))) mNx)
    (mSeq (mIf (mTest (mBin gEq (mVar 2) (mC (.str "look")))) (mRet (mApp 2 (f_looked g) (mCons (mVar 0) (mCons (mVar 1) mNil)))) mNx)
    (mSeq (mIf (mTest (mBin gEq (mVar 2) (mC (.str "pick")))) (mSeq (mIf (mTest (mBin gNe (mApp 2 g (mCons (mBinE gIx (mVar 0) (mC (.int 1))) (mCons (mVar 1) mNil))) (mC (.int 0)))) (mRet (mApp 2 g (mCons (mBinE gIx (mVar 0) (mC (.int 2))) (mCons (mVar 1) mNil)))) mNx)
    (mRet (mApp 2 g (mCons (mBinE gIx (mVar 0) (mC (.int 3))) (mCons (mVar 1) mNil))))) mNx)
    (mRet (mApp 3 f_joined (mCons (mVar 2) (mCons (mApp 2 g (mCons (mBinE gIx (mVar 0) (mC (.int 1))) (mCons (mVar 1) mNil))) (mCons (mApp 2 g (mCons (mBinE gIx (mVar 0) (mC (.int 2))) (mCons (mVar 1) mNil))) mNil))))))))))))
def f_told_ : Nat → List D → R D
  | 0 => fun _ => .no
  | n + 1 => runP 2 4 (m_told (f_told_ n))

/-! ### dicts that hold v p under each p of a list -/
abbrev dF (ks : List (Int × Int)) (v : Int × Int → D) : D := .node (.dT ks) (ks.map v)
theorem zip_map {ks : List (Int × Int)} {v : Int × Int → D} {p : Int × Int} {x : D} : List.zipWith (fun j y => if j = p then x else y) ks (ks.map v) = ks.map fun j => if j = p then x else v j := by
  induction ks with
  | nil => rfl
  | cons k ks ih => simp only [List.map_cons, List.zipWith_cons_cons, ih]
theorem put_dF {ks : List (Int × Int)} {v : Int × Int → D} {p : Int × Int} {x : D} (hl : ks.length < 100000) (hx : x.imm = true) : putItem (dF ks v) (pairD p) x = some (dF (insK ks p) fun j => if j = p then x else v j) := by
  unfold putItem
  simp only [pair_pairD]
  rw [if_pos ⟨hl, .inl hx⟩]
  unfold putD insK
  split
  · simp only [zip_map]
  · rename_i hp
    have : ks.map v = ks.map fun j => if j = p then x else v j := List.map_congr_left fun j hj => by
      rw [if_neg (fun e : j = p => hp (e ▸ hj))]
    show some (D.node (.dT (ks ++ [p])) (ks.map v ++ [x])) = some (D.node (.dT (ks ++ [p])) ((ks ++ [p]).map _))
    rw [List.map_append, this]
    simp only [List.map_cons, List.map_nil, if_true]
theorem put_same {ks : List (Int × Int)} {v : Int × Int → D} {p : Int × Int} (hl : ks.length < 100000) (hx : (v p).imm = true) : putItem (dF ks v) (pairD p) (v p) = some (dF (insK ks p) v) := by
  rw [put_dF hl hx]
  have : (fun j => if j = p then v p else v j) = v := funext fun j => by
    split
    · rename_i e; rw [e]
    · rfl
  rw [this]
theorem look_map {ks : List (Int × Int)} {v : Int × Int → D} {p : Int × Int} : look ks (ks.map v) p = if p ∈ ks then some (v p) else none := by
  induction ks with
  | nil => simp [look_nil]
  | cons k ks ih =>
    rw [List.map_cons]
    by_cases e : k = p
    · subst e
      rw [look_pos, if_pos (by simp)]
    · rw [look_neg e, ih]
      simp [Ne.symm e, eq_comm]
      try (split <;> split <;> simp_all)
theorem ix_dF {ks : List (Int × Int)} {v : Int × Int → D} {p : Int × Int} (h : p ∈ ks) : gIx (dF ks v) (pairD p) = .ok (v p) := by
  show (match dlook (dF ks v) (pairD p) with
    | some (some x) => R.ok x
    | _ => .no) = _
  have : dlook (dF ks v) (pairD p) = some (some (v p)) := by
    show (match (pairD p).pair with
      | some p => some (look ks (ks.map v) p)
      | none => none) = _
    rw [pair_pairD]
    show some (look ks (ks.map v) p) = _
    rw [look_map, if_pos h]
  rw [this]
/-! ### what a rule tells by f -/
def rowsL (a b : Int) : List Int := (List.range (max a b + 1 - min a b).toNat).map fun (k : Nat) => min a b + (k : Nat)
def scanL (f : Int × Int → Int) (left right key : Int) : List Int → Option Int
  | [] => none
  | r :: rs => if f (r, left) = key then some (f (r, right)) else scanL f left right key rs
def Op.ev : Op → Int → Int → Int
  | .add, x, y => (x + y) % 1000000000
  | .sub, x, y => (x - y) % 1000000000
  | .mul, x, y => x * y % 1000000000
def Ru.ev (f : Int × Int → Int) : Ru → Int
  | .num i => i % 1000000000
  | .cell a => f (a.r, a.c)
  | .sum a b => ((areaP a.r a.c b.r b.c).map f).sum % 1000000000
  | .most a b => maxL ((areaP a.r a.c b.r b.c).map f)
  | .op w x y => w.ev (x.ev f) (y.ev f)
  | .pick x y z => if x.ev f = 0 then z.ev f else y.ev f
  | .look k a b o => match scanL f (min a.c b.c) (max a.c b.c) (k.ev f) (rowsL a.r b.r) with
    | some v => v
    | none => o.ev f
def Fits (f : Int × Int → Int) : Prop := ∀ p, 0 ≤ f p ∧ f p < 1000000000
theorem areaP_ne {a b c d : Int} : areaP a b c d ≠ [] := fun h => by
  have : (a, b) ∈ areaP a b c d := by rw [mem_areaP]; simp only; omega
  rw [h] at this
  cases this
theorem scan_fit {f : Int × Int → Int} (hf : Fits f) {l r k v : Int} : ∀ {rs : List Int}, scanL f l r k rs = some v → 0 ≤ v ∧ v < 1000000000
  | [], h => by cases h
  | x :: rs, h => by
    unfold scanL at h
    split at h
    · cases h; exact hf _
    · exact scan_fit hf h
theorem Ru.ev_fit {f : Int × Int → Int} (hf : Fits f) : ∀ x : Ru, 0 ≤ x.ev f ∧ x.ev f < 1000000000
  | .num i => by unfold Ru.ev; omega
  | .cell a => hf _
  | .sum a b => by unfold Ru.ev; omega
  | .most a b => by
    unfold Ru.ev
    have h := maxL_spec (ns := (areaP a.r a.c b.r b.c).map f) (by simp [areaP_ne])
    obtain ⟨p, _, e⟩ := List.mem_map.mp h.1
    rw [← e]
    exact hf p
  | .op w x y => by
    unfold Ru.ev Op.ev
    cases w <;> simp only <;> omega
  | .pick x y z => by
    unfold Ru.ev
    split
    · exact Ru.ev_fit hf z
    · exact Ru.ev_fit hf y
  | .look k a b o => by
    unfold Ru.ev
    split
    · rename_i h; exact scan_fit hf h
    · exact Ru.ev_fit hf o
@[simp] theorem g_sum_ints {ns : List Int} : gSum [.node .lst (ns.map D.int)] = .ok (.int ns.sum) := by
  unfold gSum
  simp only [ints_map]
theorem g_max_ints {ns : List Int} (h : ns ≠ []) : gMax1 [.node .lst (ns.map D.int)] = .ok (.int (maxL ns)) := by
  unfold gMax1
  simp only [ints_map]
  rw [if_pos h]
/-- known tells f of the places that S holds of -/
def Known (kd : D) (f : Int × Int → Int) (S : Int × Int → Prop) : Prop := ∀ p, S p → gIx kd (pairD p) = .ok (.int (f p))
theorem vals_run {kd : D} {f : Int × Int → Int} {ps : List (Int × Int)} (hl : ps.length < 100000) (h : ∀ p ∈ ps, gIx kd (pairD p) = .ok (.int (f p))) (s0 s2 s3 : Slot) :
    lcR 3 mYes (mImm (mBinE gIx (mVar 1) (mVar 3))) (ps.map pairD) [s0, .ro kd, s2, s3] = .ok (.node .lst ((ps.map f).map D.int)) := by
  unfold lcR
  rw [List.length_map, if_pos hl]
  rw [lcL_map (g := fun d => match d.pair with | some p => .int (f p) | none => d) fun y hy => ?_]
  · rw [R.bind_ok, List.map_map, List.map_map]
    refine congrArg (fun l => R.ok (D.node .lst l)) (List.map_congr_left fun p hp => ?_)
    simp only [Function.comp, pair_pairD]
  · obtain ⟨p, hp, rfl⟩ := List.mem_map.mp hy
    exact ⟨rfl, by simp -implicitDefEqProofs [h p hp]⟩
theorem pair_mk (a b : Int) : D.node .tup [.int a, .int b] = pairD (a, b) := rfl
theorem joined_run (w : Op) {x y : Int} (hx : 0 ≤ x ∧ x < 1000000000) : f_joined [.str w.nm, .int x, .int y] = .ok (.int (w.ev x y)) := by
  have m : gMul (.int x) (.int y) = .ok (.int (x * y)) := g_mul1 (by omega)
  unfold f_joined
  rw [run_out]
  unfold m_joined
  cases w <;> simp -implicitDefEqProofs [Op.nm, Op.ev, m]
theorem rangeD_rows (a b : Int) : rangeD (min a b) (max a b + 1 - min a b).toNat = (rowsL a b).map D.int := by
  unfold rangeD rowsL
  rw [List.map_map]
  rfl
theorem scan_run {kd : D} {f : Int × Int → Int} {l r key : Int} (s0 s2' : Slot) : ∀ (rs : List Int) (s5 : Slot), (∀ x ∈ rs, gIx kd (pairD (x, l)) = .ok (.int (f (x, l))) ∧ gIx kd (pairD (x, r)) = .ok (.int (f (x, r)))) →
    ∃ s5', forL 5 (mIf (mTest (mBin gEq (mBinE gIx (mVar 1) (mTup (mCons (mImm (mVar 5)) (mCons (mImm (mVar 3)) mNil)))) (mVar 2))) (mRet (mImm (mBinE gIx (mVar 1) (mTup (mCons (mImm (mVar 5)) (mCons (mImm (mVar 4)) mNil)))))) mNx) (rs.map D.int)
      [s0, .ro kd, .ow (.int key), .ow (.int l), .ow (.int r), s5] = match scanL f l r key rs with
        | some v => .rt (.int v) [s0, .ro kd, .ow (.int key), .ow (.int l), .ow (.int r), s5']
        | none => .nx [s0, .ro kd, .ow (.int key), .ow (.int l), .ow (.int r), s5']
  | [], s5, _ => ⟨s5, rfl⟩
  | x :: rs, s5, h => by
    obtain ⟨h1, h2⟩ := h x (by simp)
    unfold scanL
    by_cases e : f (x, l) = key
    · refine ⟨.ro (.int x), ?_⟩
      rw [if_pos e]
      simp -implicitDefEqProofs [pair_mk, h1, h2, e]
    · obtain ⟨s5', hr⟩ := scan_run (f := f) (l := l) (r := r) (key := key) s0 s2' rs (.ro (.int x)) fun y hy => h y (by simp [hy])
      refine ⟨s5', ?_⟩
      rw [if_neg e]
      simp -implicitDefEqProofs [pair_mk, h1, e, hr]
theorem rows_area {a b : Ref} {x : Int} (hx : x ∈ rowsL a.r b.r) : (x, min a.c b.c) ∈ areaP a.r a.c b.r b.c ∧ (x, max a.c b.c) ∈ areaP a.r a.c b.r b.c := by
  unfold rowsL at hx
  obtain ⟨k, hk, rfl⟩ := List.mem_map.mp hx
  have := List.mem_range.mp hk
  rw [mem_areaP, mem_areaP]
  simp only
  omega
theorem told_run {t : Int} {h : Nat} {l : Int} {w : Nat} (hw : h * w < 100000) {kd : D} {f : Int × Int → Int} {S : Int × Int → Prop} (hf : Fits f) (hk : Known kd f S) : ∀ (n : Nat) (x : Ru), x.dep ≤ n → x.In t h l w → (∀ p, x.Nam p → S p) → f_told_ n [x.toD, kd] = .ok (.int (x.ev f))
  | 0, x, hd, _, _ => by have := x.dep_pos; omega
  | n + 1, x, hd, hi, hS => by
    have ih := told_run (t := t) (l := l) hw hf hk n
    have lenA : ∀ {a b : Ref}, a.In t h l w → b.In t h l w → (areaP a.r a.c b.r b.c).length < 100000 := fun ha hb => by
      unfold areaP
      rw [boxP_len]
      exact area_fit ha hb hw
    unfold f_told_
    rw [run_out]
    unfold m_told
    cases x with
    | num i => simp -implicitDefEqProofs [Ru.toD, Ru.ev]
    | cell a =>
      have := hk (a.r, a.c) (hS _ (mem_areaP.mpr (by simp only; omega)))
      simp -implicitDefEqProofs [Ru.toD, Ru.ev, Ref.toD, pair_mk, this]
    | sum a b =>
      simp only [Ru.In] at hi
      have v := fun s0 s2 s3 => vals_run (lenA hi.1 hi.2) (fun p hp => hk p (hS p hp)) s0 s2 s3
      simp -implicitDefEqProofs [-List.map_map, Ru.toD, Ru.ev, ref_area (area_fit hi.1 hi.2 hw), v]
    | most a b =>
      simp only [Ru.In] at hi
      have v := fun s0 s2 s3 => vals_run (lenA hi.1 hi.2) (fun p hp => hk p (hS p hp)) s0 s2 s3
      have m := g_max_ints (ns := (areaP a.r a.c b.r b.c).map f) (by simp [areaP_ne])
      simp -implicitDefEqProofs [-List.map_map, Ru.toD, Ru.ev, ref_area (area_fit hi.1 hi.2 hw), v, m]
    | op q x y =>
      simp only [Ru.dep] at hd
      have hx := ih x (by omega) hi.1 fun p hp => hS p (.inl hp)
      have hy := ih y (by omega) hi.2 fun p hp => hS p (.inr hp)
      have j := joined_run q (x := x.ev f) (y := y.ev f) (x.ev_fit hf)
      cases q <;> simp only [Op.nm] at j <;> simp -implicitDefEqProofs [Ru.toD, Ru.ev, Op.nm, hx, hy, j]
    | pick x y z =>
      simp only [Ru.dep] at hd
      have hx := ih x (by omega) hi.1 fun p hp => hS p (.inl hp)
      have hy := ih y (by omega) hi.2.1 fun p hp => hS p (.inr (.inl hp))
      have hz := ih z (by omega) hi.2.2 fun p hp => hS p (.inr (.inr hp))
      by_cases e : x.ev f = 0
      · simp -implicitDefEqProofs [Ru.toD, Ru.ev, hx, hy, hz, e]
      · simp -implicitDefEqProofs [Ru.toD, Ru.ev, hx, hy, hz, e]
    | look k a b o =>
      simp only [Ru.dep] at hd
      have hx := ih k (by omega) hi.1 fun p hp => hS p (.inr (.inl hp))
      have hy := ih o (by omega) hi.2.2.2 fun p hp => hS p (.inr (.inr hp))
      obtain ⟨s5', sc⟩ := scan_run (kd := kd) (f := f) (l := min a.c b.c) (r := max a.c b.c) (key := k.ev f) (.ro (Ru.look k a b o).toD) .un (rowsL a.r b.r) .un fun z hz =>
        ⟨hk _ (hS _ (.inl (rows_area hz).1)), hk _ (hS _ (.inl (rows_area hz).2))⟩
      have lk : f_looked (f_told_ n) [(Ru.look k a b o).toD, kd] = .ok (.int ((Ru.look k a b o).ev f)) := by
        unfold f_looked
        rw [run_out]
        unfold m_looked
        simp only [Ru.toD] at sc
        simp -implicitDefEqProofs [Ru.toD, Ru.ev, Ref.toD, hx, rangeD_rows] at sc ⊢
        rw [sc]
        cases scanL f (min a.c b.c) (max a.c b.c) (k.ev f) (rowsL a.r b.r) with
        | some v => simp
        | none => simp -implicitDefEqProofs [hy]
      simp only [Ru.toD] at lk
      simp -implicitDefEqProofs [Ru.toD, lk]
end Rs

set_option maxRecDepth 100000
/-! RsV: rules moved; sorted places. -/
namespace Rs
open PySem PySem.Spec PyProof.Rows L2
theorem perm_same {α : Type} [DecidableEq α] : ∀ {l m : List α}, l.Nodup → m.Nodup → (∀ x, x ∈ l ↔ x ∈ m) → l.Perm m
  | [], m, _, _, h => by
    have : m = [] := List.eq_nil_iff_forall_not_mem.mpr fun x hx => by simpa using (h x).mpr hx
    rw [this]
  | x :: l, m, nl, nm, h => by
    have hx : x ∈ m := (h x).mp (by simp)
    have nl' := List.nodup_cons.mp nl
    refine (List.Perm.cons x (perm_same nl'.2 (nm.erase x) fun y => ?_)).trans (List.perm_cons_erase hx).symm
    rw [nm.mem_erase_iff, ← h y]
    constructor
    · intro hy
      exact ⟨fun e => nl'.1 (e ▸ hy), by simp [hy]⟩
    · rintro ⟨h1, h2⟩
      exact (List.mem_cons.mp h2).resolve_left h1
theorem boxP_up {t : Int} {h : Nat} {l : Int} {w : Nat} : (boxP t h l w).Pairwise fun a b => leP a b = true ∧ a ≠ b := by
  rw [boxP_dm, List.pairwise_map]
  by_cases hw : w = 0
  · subst hw; simp
  refine List.Pairwise.imp (fun {j k} hjk => ?_) List.pairwise_lt_range
  have h1 : j / w ≤ k / w := Nat.div_le_div_right (Nat.le_of_lt hjk)
  have h2 := Nat.div_add_mod j w
  have h3 := Nat.div_add_mod k w
  have h4 : j / w = k / w → j % w < k % w := fun e => by rw [e] at h2; omega
  constructor
  · unfold leP
    simp only [Bool.or_eq_true, Bool.and_eq_true, decide_eq_true_eq]
    by_cases e : j / w = k / w
    · have := h4 e; omega
    · omega
  · intro e
    simp only [Prod.mk.injEq] at e
    have e1 : j / w = k / w := by omega
    have := h4 e1
    omega
theorem boxP_nd {t : Int} {h : Nat} {l : Int} {w : Nat} : (boxP t h l w).Nodup := boxP_up.imp fun h => h.2
/-- a rising list of just the places of a box that S holds of -/
theorem keys_due {t : Int} {h : Nat} {l : Int} {w : Nat} {S : Int × Int → Prop} {ks : List (Int × Int)} {q : Int × Int → Bool} (hk : KeysOf (boxP t h l w) S ks) (hs : ks.Pairwise fun a b => leP a b = true) (hq : ∀ p, q p = true ↔ S p) : ks = (boxP t h l w).filter q := by
  refine sorted_uniq ?_ hs (List.Pairwise.filter q (boxP_up.imp fun h => h.1))
  refine perm_same hk.nd (boxP_nd.filter q) fun p => ?_
  rw [hk.mem, List.mem_filter, hq]
  exact ⟨fun h => ⟨hk.sub p h, h⟩, fun h => h.2⟩
def Ref.mv (d c : Int) (x : Ref) : Ref := ⟨x.r + d, x.c + c, x.sr, x.sc⟩
def Ru.mv (d c : Int) : Ru → Ru
  | .num i => .num i
  | .cell a => .cell (a.mv d c)
  | .sum a b => .sum (a.mv d c) (b.mv d c)
  | .most a b => .most (a.mv d c) (b.mv d c)
  | .op w x y => .op w (x.mv d c) (y.mv d c)
  | .pick x y z => .pick (x.mv d c) (y.mv d c) (z.mv d c)
  | .look k a b o => .look (k.mv d c) (a.mv d c) (b.mv d c) (o.mv d c)
theorem Ref.mv_In {h w : Nat} {d c : Int} {x : Ref} (i : x.In 0 h 0 w) : (x.mv d c).In d h c w := by
  unfold Ref.In Ref.mv at *
  simp only
  omega
theorem Ru.mv_In {h w : Nat} {d c : Int} : ∀ {x : Ru}, x.In 0 h 0 w → (x.mv d c).In d h c w
  | .num _, _ => trivial
  | .cell _, i => Ref.mv_In i
  | .sum _ _, i => ⟨Ref.mv_In i.1, Ref.mv_In i.2⟩
  | .most _ _, i => ⟨Ref.mv_In i.1, Ref.mv_In i.2⟩
  | .op _ _ _, i => ⟨Ru.mv_In i.1, Ru.mv_In i.2⟩
  | .pick _ _ _, i => ⟨Ru.mv_In i.1, Ru.mv_In i.2.1, Ru.mv_In i.2.2⟩
  | .look _ _ _ _, i => ⟨Ru.mv_In i.1, Ref.mv_In i.2.1, Ref.mv_In i.2.2.1, Ru.mv_In i.2.2.2⟩
theorem Ru.mv_dep (d c : Int) : ∀ x : Ru, (x.mv d c).dep = x.dep
  | .num i => rfl
  | .cell a => rfl
  | .sum a b => rfl
  | .most a b => rfl
  | .op w x y => by simp only [Ru.mv, Ru.dep, Ru.mv_dep d c x, Ru.mv_dep d c y]
  | .pick x y z => by simp only [Ru.mv, Ru.dep, Ru.mv_dep d c x, Ru.mv_dep d c y, Ru.mv_dep d c z]
  | .look k a b o => by simp only [Ru.mv, Ru.dep, Ru.mv_dep d c k, Ru.mv_dep d c o]
theorem sl_two (a b c d : D) (h : D.imms [a, b, c, d] = true) : gSl (.node .tup [a, b, c, d]) none (some 2) = .ok (.node .tup [a, b]) := by
  show (if _ then _ else _) = _
  rw [if_pos ⟨(by decide : ¬ (HT.sIx 4 0 none = 0 ∧ HT.sIx 4 4 (some 2) = 4)), h⟩]
  rfl
theorem okD_pair (p : Int × Int) {n : Nat} (h : 0 < n) : okD n (pairD p) = true := by simp [pairD, okD, okDs, h]
theorem g_eq_pair (p q : Int × Int) : gEq (pairD p) (pairD q) = .ok (.bl (decide (p = q))) := by
  unfold gEq
  rw [if_pos ⟨okD_pair p (by omega), okD_pair q (by omega)⟩]
  show R.ok (D.bl (PyData.eqv (.tuple [.int p.1, .int p.2]) (.tuple [.int q.1, .int q.2]))) = _
  rw [PyData.eqv, PyData.eqvAll, PyData.eqvAll, PyData.eqvAll, PyData.eqv, PyData.eqv]
  congr 2
  rw [Bool.and_true, Bool.eq_iff_iff]
  simp [Prod.ext_iff]
theorem sl_pre {xs ys : List D} (h : D.imms (xs ++ ys) = true) : gSl (.node .lst (xs ++ ys)) none (some (xs.length : Int)) = .ok (.node .lst xs) := by
  have e2 : HT.sIx (xs ++ ys).length (xs ++ ys).length (some (xs.length : Int)) = xs.length := by
    rw [HT.sIx_nat, List.length_append]
    omega
  show (if _ then _ else _) = _
  rw [if_pos h]
  unfold cutD
  rw [e2]
  have e1 : HT.sIx (xs ++ ys).length 0 none = 0 := rfl
  rw [e1]
  simp
theorem okD_pairs (ps : List (Int × Int)) : okD 60 (.node .lst (ps.map pairD)) = true := by
  simp only [okD, Bool.and_eq_true, decide_eq_true_eq]
  refine ⟨by omega, okDs_iff.mpr fun d hd => ?_⟩
  obtain ⟨p, _, rfl⟩ := List.mem_map.mp hd
  exact okD_pair p (by omega)
@[simp] theorem isi_pair (T : Tn) (p : Int × Int) : isiD T (pairD p) = some (decide (T = .tuple)) := rfl
@[simp] theorem imm_pair (p : Int × Int) : (pairD p).imm = true := rfl
@[simp] theorem ix_p0 (p : Int × Int) : gIx (pairD p) (.int 0) = .ok (.int p.1) := gIx_at (k := 0) rfl rfl rfl
@[simp] theorem ix_p1 (p : Int × Int) : gIx (pairD p) (.int 1) = .ok (.int p.2) := gIx_at (k := 1) rfl rfl rfl
@[simp] theorem ix_r0 (a : Ref) : gIx a.toD (.int 0) = .ok (.int a.r) := gIx_at (k := 0) rfl rfl rfl
@[simp] theorem ix_r1 (a : Ref) : gIx a.toD (.int 1) = .ok (.int a.c) := gIx_at (k := 1) rfl rfl rfl
@[simp] theorem ix_r2 (a : Ref) : gIx a.toD (.int 2) = .ok (.bl a.sr) := gIx_at (k := 2) rfl rfl rfl
@[simp] theorem ix_r3 (a : Ref) : gIx a.toD (.int 3) = .ok (.bl a.sc) := gIx_at (k := 3) rfl rfl rfl
theorem sl_ref (a : Ref) : gSl a.toD none (some 2) = .ok (pairD (a.r, a.c)) := sl_two _ _ _ _ rfl
end Rs
namespace Rs
open PySem PySem.Spec PyProof.Rows L2
@[simp] theorem in_q_add : gIn (.str "add") (.node .lst [.str "sum", .str "most", .str "look"]) = .ok (.bl false) := in_w (by decide +kernel)
@[simp] theorem in_q_sub : gIn (.str "sub") (.node .lst [.str "sum", .str "most", .str "look"]) = .ok (.bl false) := in_w (by decide +kernel)
@[simp] theorem in_q_mul : gIn (.str "mul") (.node .lst [.str "sum", .str "most", .str "look"]) = .ok (.bl false) := in_w (by decide +kernel)
@[simp] theorem in_q_pick : gIn (.str "pick") (.node .lst [.str "sum", .str "most", .str "look"]) = .ok (.bl false) := in_w (by decide +kernel)
@[simp] theorem in_q_look : gIn (.str "look") (.node .lst [.str "sum", .str "most", .str "look"]) = .ok (.bl true) := in_w (by decide +kernel)
@[simp] theorem in_q_num : gIn (.str "num") (.node .lst [.str "sum", .str "most", .str "look"]) = .ok (.bl false) := in_w (by decide +kernel)
@[simp] theorem in_q_cell : gIn (.str "cell") (.node .lst [.str "sum", .str "most", .str "look"]) = .ok (.bl false) := in_w (by decide +kernel)
@[simp] theorem in_q_sum : gIn (.str "sum") (.node .lst [.str "sum", .str "most", .str "look"]) = .ok (.bl true) := in_w (by decide +kernel)
@[simp] theorem in_q_most : gIn (.str "most") (.node .lst [.str "sum", .str "most", .str "look"]) = .ok (.bl true) := in_w (by decide +kernel)
section
variable {a b c d e : D}
@[simp] theorem ix_n31 : gIx (.node .tup [a, b, c]) (.int (-2)) = .ok b := gIx_back (k := 1) rfl (by decide) rfl rfl
@[simp] theorem ix_n32 : gIx (.node .tup [a, b, c]) (.int (-1)) = .ok c := gIx_back (k := 2) rfl (by decide) rfl rfl
@[simp] theorem ix_n52 : gIx (.node .tup [a, b, c, d, e]) (.int (-3)) = .ok c := gIx_back (k := 2) rfl (by decide) rfl rfl
@[simp] theorem ix_n53 : gIx (.node .tup [a, b, c, d, e]) (.int (-2)) = .ok d := gIx_back (k := 3) rfl (by decide) rfl rfl
end
theorem area_rows {a b c d : Int} : areaP a b c d = (rowsL a c).flatMap fun r => (rowsL b d).map fun k => (r, k) := by
  unfold areaP boxP rowsL rowP
  rw [List.flatMap_map]
  simp only [List.map_map]
  rfl
theorem rowsL_last {a b : Int} : ∃ l, rowsL a b = l ++ [max a b] := by
  unfold rowsL
  obtain ⟨n, hn⟩ : ∃ n, (max a b + 1 - min a b).toNat = n + 1 := ⟨(max a b - min a b).toNat, by omega⟩
  rw [hn, List.range_succ, List.map_append]
  have e : (min a b + (n : Int)) = max a b := by omega
  exact ⟨(List.range n).map fun (k : Nat) => min a b + (k : Nat), by simp only [List.map_cons, List.map_nil, e]⟩
theorem rowsL_first {a b : Int} : ∃ l, rowsL a b = min a b :: l := by
  unfold rowsL
  obtain ⟨n, hn⟩ : ∃ n, (max a b + 1 - min a b).toNat = n + 1 := ⟨(max a b - min a b).toNat, by omega⟩
  rw [hn, List.range_succ_eq_map]
  have e : (min a b + ((0 : Nat) : Int)) = min a b := by omega
  exact ⟨((List.range n).map Nat.succ).map fun (k : Nat) => min a b + (k : Nat), by simp only [List.map_cons, e]⟩
theorem rowsL_len {a b : Int} : (rowsL a b).length = (max a b + 1 - min a b).toNat := by simp [rowsL]
def mvP (d c : Int) (p : Int × Int) : Int × Int := (p.1 + d, p.2 + c)
theorem rowsL_mv {a b d : Int} : rowsL (a + d) (b + d) = (rowsL a b).map (· + d) := by
  unfold rowsL
  rw [List.map_map, show max (a + d) (b + d) + 1 - min (a + d) (b + d) = max a b + 1 - min a b by omega]
  refine List.map_congr_left fun k hk => ?_
  simp only [Function.comp]
  omega
theorem areaP_mv {a b a' b' d c : Int} : areaP (a + d) (b + c) (a' + d) (b' + c) = (areaP a b a' b').map (mvP d c) := by
  rw [area_rows, area_rows, rowsL_mv, rowsL_mv, List.flatMap_map, List.map_flatMap]
  simp only [List.map_map]
  rfl
theorem Ru.nam_mv {d c : Int} {q : Int × Int} : ∀ x : Ru, (x.mv d c).Nam q ↔ ∃ p, x.Nam p ∧ q = mvP d c p
  | .num i => by simp [Ru.mv, Ru.Nam]
  | .cell a => by
    show q ∈ areaP (a.r + d) (a.c + c) (a.r + d) (a.c + c) ↔ _
    rw [areaP_mv]; simp only [List.mem_map, Ru.Nam, eq_comm]
  | .sum a b => by
    show q ∈ areaP (a.r + d) (a.c + c) (b.r + d) (b.c + c) ↔ _
    rw [areaP_mv]; simp only [List.mem_map, Ru.Nam, eq_comm]
  | .most a b => by
    show q ∈ areaP (a.r + d) (a.c + c) (b.r + d) (b.c + c) ↔ _
    rw [areaP_mv]; simp only [List.mem_map, Ru.Nam, eq_comm]
  | .op w x y => by
    simp only [Ru.mv, Ru.Nam, Ru.nam_mv x, Ru.nam_mv y, or_and_right, exists_or]
  | .pick x y z => by
    simp only [Ru.mv, Ru.Nam, Ru.nam_mv x, Ru.nam_mv y, Ru.nam_mv z, or_and_right, exists_or]
  | .look k a b o => by
    have h : q ∈ areaP (a.mv d c).r (a.mv d c).c (b.mv d c).r (b.mv d c).c ↔ ∃ p, p ∈ areaP a.r a.c b.r b.c ∧ q = mvP d c p := by
      show q ∈ areaP (a.r + d) (a.c + c) (b.r + d) (b.c + c) ↔ _
      rw [areaP_mv]; simp only [List.mem_map, eq_comm]
    simp only [Ru.mv, Ru.Nam, h, Ru.nam_mv k, Ru.nam_mv o, or_and_right, exists_or]
theorem scan_mv {d c : Int} {g : Int × Int → Int} {l r key : Int} : ∀ rs : List Int, scanL g (l + c) (r + c) key (rs.map (· + d)) = scanL (fun p => g (mvP d c p)) l r key rs
  | [] => rfl
  | x :: rs => by
    simp only [List.map_cons, scanL, scan_mv rs]
    rfl
theorem Ru.ev_mv {d c : Int} {g : Int × Int → Int} : ∀ x : Ru, (x.mv d c).ev g = x.ev fun p => g (mvP d c p)
  | .num i => rfl
  | .cell a => rfl
  | .sum a b => by
    show ((areaP (a.r + d) (a.c + c) (b.r + d) (b.c + c)).map g).sum % 1000000000 = _
    rw [areaP_mv, List.map_map]; rfl
  | .most a b => by
    show maxL ((areaP (a.r + d) (a.c + c) (b.r + d) (b.c + c)).map g) = _
    rw [areaP_mv, List.map_map]; rfl
  | .op w x y => by simp only [Ru.mv, Ru.ev, Ru.ev_mv x, Ru.ev_mv y]
  | .pick x y z => by simp only [Ru.mv, Ru.ev, Ru.ev_mv x, Ru.ev_mv y, Ru.ev_mv z]
  | .look k a b o => by
    simp only [Ru.mv, Ru.ev, Ru.ev_mv k, Ru.ev_mv o, Ref.mv, rowsL_mv]
    rw [show min (a.c + c) (b.c + c) = min a.c b.c + c by omega, show max (a.c + c) (b.c + c) = max a.c b.c + c by omega, scan_mv]
end Rs

set_option maxRecDepth 100000
/-! RsS: sheets. -/
namespace Rs
open PySem PySem.Spec PyProof.Rows L2
/-! ### evaluation of calls that change their first argument -/
section
variable {ρ : Evn} {m mo ma mb mc mv : Evn → R D} {ms : Evn → R (List D)} {s s1 s2 : Evn → RS} {d d' x : D} {n r i : Nat} {c : Nat} {fm : List D → RM} {fp : List D → R D} {mx : Evn → RM}
@[simp] theorem RM.toS_ok {k : D → Evn → RS} : RM.toS (.ok d x) r ρ k = k x (ρ.set r (.ow d)) := rfl
@[simp] theorem RM.toS_exc {k : D → Evn → RS} : RM.toS (.exc c d) r ρ k = .exc c (ρ.set r (.ow d)) := rfl
@[simp] theorem RM.toS_no {k : D → Evn → RS} : RM.toS .no r ρ k = .no := rfl
@[simp] theorem RM.toB_ok {b : Bool} : RM.toB (.ok d (.bl b)) r ρ = .ok b (ρ.set r (.ow d)) := rfl
@[simp] theorem RM.toB_exc : RM.toB (.exc c d) r ρ = .exc c (ρ.set r (.ow d)) := rfl
@[simp] theorem RM.toB_no : RM.toB .no r ρ = .no := rfl
def Slot.ownM (o : Option Slot) (k : D → RM) : RM := match o with
  | some (.ow d) => k d
  | _ => .no
@[simp] theorem Slot.ownM_ow {k : D → RM} : Slot.ownM (some (.ow d)) k = k d := rfl
def R.toM {α : Type} (r : R α) (d : D) (k : α → RM) : RM := match r with
  | .ok a => k a
  | .exc c => .exc c d
  | .no => .no
@[simp] theorem R.toM_ok {α : Type} {a : α} {k : α → RM} : R.toM (.ok a) d k = k a := rfl
@[simp] theorem R.toM_exc {α : Type} {k : α → RM} : R.toM (.exc c) d k = .exc c d := rfl
@[simp] theorem R.toM_no {α : Type} {k : α → RM} : R.toM (.no : R α) d k = .no := rfl
theorem ap_onX {g : D → Bool} {k : D → List D → RM} : onX g r ms k ρ = Slot.ownM ρ[r]? fun d => if g d = true then (ms ρ).toM d fun ds => if D.imms ds = true then k d ds else .no else .no := by
  unfold onX
  cases ρ[r]? with
  | none => rfl
  | some q =>
    cases q with
    | ow d =>
      show (if g d = true then _ else _) = (if g d = true then _ else _)
      cases ms ρ <;> rfl
    | un => rfl
    | ro d => rfl
@[simp] theorem ap_xMeth : xMeth n fm r ms ρ = Slot.ownM ρ[r]? fun d => if isIns d = true then (ms ρ).toM d fun ds => if D.imms ds = true then if ds.length + 1 = n then fm (d :: ds) else .no else .no else .no := ap_onX
@[simp] theorem ap_xCall : xCall n fm r ms ρ = Slot.ownM ρ[r]? fun d => (ms ρ).toM d fun ds => if D.imms ds = true then if ds.length + 1 = n then fm (d :: ds) else .no else .no := by
  have := ap_onX (g := fun _ => true) (k := fun d ds => if ds.length + 1 = n then fm (d :: ds) else .no) (r := r) (ms := ms) (ρ := ρ)
  unfold xCall
  simpa using this
@[simp] theorem ap_xCallN : xCallN n fm r ms ρ = Slot.ownM ρ[r]? fun d => (ms ρ).toM d fun ds => if ds.length + 1 = n then fm (d :: ds) else .no := by
  unfold xCallN Slot.ownM R.toM
  cases ρ[r]? with
  | none => rfl
  | some q =>
    cases q with
    | ow d => cases ms ρ <;> rfl
    | un => rfl
    | ro d => rfl
@[simp] theorem ap_xDrop : xDrop r mx ρ = (mx ρ).toS r ρ fun _ ρ' => .nx ρ' := rfl
@[simp] theorem ap_xRet : xRet r mx ρ = (mx ρ).toS r ρ fun x ρ' => .rt x ρ' := rfl
@[simp] theorem ap_xSet : xSet i r mx ρ = (mx ρ).toS r ρ fun x ρ' => .nx (ρ'.set i (.ow x)) := rfl
def RM.thn (rm : RM) (k : D → D → RM) : RM := match rm with
  | .ok d' y => k d' y
  | .exc c d' => .exc c d'
  | .no => .no
@[simp] theorem RM.thn_ok {k : D → D → RM} : RM.thn (.ok d x) k = k d x := rfl
@[simp] theorem RM.thn_exc {k : D → D → RM} : RM.thn (.exc c d) k = .exc c d := rfl
@[simp] theorem RM.thn_no {k : D → D → RM} : RM.thn .no k = .no := rfl
def R.giveM (r : R D) (d' : D) : RM := match r with
  | .ok d => .ok d' d
  | _ => .no
@[simp] theorem R.giveM_ok : R.giveM (.ok d) d' = .ok d' d := rfl
@[simp] theorem R.giveM_exc : R.giveM (.exc c) d' = .no := rfl
@[simp] theorem R.giveM_no : R.giveM .no d' = .no := rfl
@[simp] theorem ap_xCmp {g : D → D → R D} : xCmp g r mx mb ρ = (mx ρ).thn fun d' y => ((mb (ρ.set r (.ow d'))).only.bind fun z => g y z).giveM d' := by
  unfold xCmp RM.thn R.only
  cases mx ρ with
  | ok d' y =>
    dsimp only
    cases mb (ρ.set r (.ow d')) with
    | ok z =>
      show (match g y z with | .ok d => RM.ok d' d | _ => .no) = R.giveM (g y z) d'
      unfold R.giveM
      cases g y z <;> rfl
    | exc c => rfl
    | no => rfl
  | exc c d' => rfl
  | no => rfl
@[simp] theorem ap_bX : bX r mx ρ = (mx ρ).toB r ρ := rfl
@[simp] theorem RB.thn_ok {b : Bool} {k : Bool → Evn → RB} : RB.thn (.ok b ρ) k = k b ρ := rfl
@[simp] theorem RB.thn_exc {k : Bool → Evn → RB} : RB.thn (.exc c ρ) k = .exc c ρ := rfl
@[simp] theorem RB.thn_no {k : Bool → Evn → RB} : RB.thn .no k = .no := rfl
def R.toB (r : R Bool) (ρ : Evn) : RB := match r with
  | .ok b => .ok b ρ
  | .exc c => .exc c ρ
  | .no => .no
@[simp] theorem R.toB_ok {b : Bool} : R.toB (.ok b) ρ = .ok b ρ := rfl
@[simp] theorem R.toB_exc : R.toB (.exc c) ρ = .exc c ρ := rfl
@[simp] theorem R.toB_no : R.toB .no ρ = .no := rfl
variable {cb : Evn → R Bool} {cx c1 c2 : Evn → RB}
@[simp] theorem ap_bPure : bPure cb ρ = (cb ρ).toB ρ := rfl
@[simp] theorem ap_bNot : bNot cx ρ = (cx ρ).thn fun b ρ' => .ok (!b) ρ' := rfl
@[simp] theorem ap_bAnd : bAnd c1 c2 ρ = (c1 ρ).thn fun b ρ' => if b = true then c2 ρ' else .ok false ρ' := rfl
def RB.toS (rb : RB) (k : Bool → Evn → RS) : RS := match rb with
  | .ok b ρ => k b ρ
  | .exc c ρ => .exc c ρ
  | .no => .no
@[simp] theorem RB.toS_ok {b : Bool} {k : Bool → Evn → RS} : RB.toS (.ok b ρ) k = k b ρ := rfl
@[simp] theorem RB.toS_exc {k : Bool → Evn → RS} : RB.toS (.exc c ρ) k = .exc c ρ := rfl
@[simp] theorem RB.toS_no {k : Bool → Evn → RS} : RB.toS .no k = .no := rfl
@[simp] theorem ap_xIf : xIf cx s1 s2 ρ = (cx ρ).toS fun b ρ' => if b = true then s1 ρ' else s2 ρ' := rfl
/-! tries -/
def RS.caught (r : RS) (k : Nat → Evn → RS) : RS := match r with
  | .exc c ρ => k c ρ
  | r => r
@[simp] theorem RS.caught_exc {k : Nat → Evn → RS} : RS.caught (.exc c ρ) k = k c ρ := rfl
@[simp] theorem RS.caught_nx {k : Nat → Evn → RS} : RS.caught (.nx ρ) k = .nx ρ := rfl
@[simp] theorem RS.caught_rt {k : Nat → Evn → RS} : RS.caught (.rt d ρ) k = .rt d ρ := rfl
@[simp] theorem RS.caught_no {k : Nat → Evn → RS} : RS.caught .no k = .no := rfl
@[simp] theorem ap_try {known : List Nat} {l : List Cls1} : mTry known s l ρ = (s ρ).caught fun c ρ' => if c ∈ known then pick c ρ' l else .no := by
  unfold mTry RS.caught
  cases s ρ <;> rfl
@[simp] theorem ap_tryAs {known cs : List Nat} : mTryAs i known cs s s1 ρ = (s ρ).caught fun c ρ' => if c ∈ known ∧ ρ'.all slotX = true then (if c ∈ cs then finX i (s1 (ρ'.set i (.ro (.exc c)))) else .exc c ρ') else .no := by
  unfold mTryAs RS.caught
  cases s ρ <;> rfl
@[simp] theorem pick_nil : pick c ρ [] = .exc c ρ := rfl
@[simp] theorem pick_cons {q : Cls1} {l : List Cls1} : pick c ρ (q :: l) = if c ∈ q.1 then noExc (q.2 ρ) else pick c ρ l := rfl
@[simp] theorem noExc_rt : noExc (.rt d ρ) = .rt d ρ := rfl
@[simp] theorem noExc_nx : noExc (.nx ρ) = .nx ρ := rfl
/-! methods, fields -/
@[simp] theorem ap_meth : mMeth n fp mo ms ρ = (mo ρ).bind fun d => if isIns d = true then (ms ρ).bind fun ds => if ds.length + 1 = n then fp (d :: ds) else .no else .no := rfl
@[simp] theorem ins_is {xs : List D} : isIns (.node .ins xs) = true := rfl
def fldD (i : Nat) (d : D) : R D := match d with
  | .node .ins xs => match xs[i]? with
    | some x => .ok x
    | none => .no
  | _ => .no
@[simp] theorem ap_fld : mFld i mo ρ = (mo ρ).bind (fldD i) := by
  unfold mFld fldD
  rfl
@[simp] theorem fld_0 {xs : List D} : fldD 0 (.node .ins (d :: xs)) = .ok d := rfl
@[simp] theorem fld_1 {xs : List D} : fldD 1 (.node .ins (d :: d' :: xs)) = .ok d' := rfl
@[simp] theorem fld_2 {xs : List D} : fldD 2 (.node .ins (d :: d' :: x :: xs)) = .ok x := rfl
def chn (r : R D) (k : Bool → R D) : R D := match r with
  | .ok (.bl b) => k b
  | _ => .no
@[simp] theorem chn_bl {b : Bool} {k : Bool → R D} : chn (.ok (.bl b)) k = k b := rfl
@[simp] theorem ap_chain {g g' : D → D → R D} : mChain g g' ma mb mc ρ = (ma ρ).bind fun x => (mb ρ).bind fun y => chn (g x y) fun b => if b = true then (mc ρ).bind fun z => (g' y z).only else .ok (.bl false) := by
  unfold mChain chn
  congr 1
def pfD (i : Nat) (d : D) : R (Option Nat) := match d with
  | .node .ins xs => if i < xs.length then .ok (some i) else .no
  | _ => .no
def Slot.ownR {α : Type} (o : Option Slot) (k : D → R α) : R α := match o with
  | some (.ow d) => k d
  | _ => .no
@[simp] theorem Slot.ownR_ow {α : Type} {k : D → R α} : Slot.ownR (some (.ow d)) k = k d := rfl
@[simp] theorem ap_pfld : pFld r i ρ = Slot.ownR ρ[r]? (pfD i) := by
  unfold pFld Slot.ownR pfD
  split
  · rename_i h; rw [h]
  · rename_i h
    split
    · rename_i d h2
      cases d with
      | node hd xs =>
        cases hd with
        | ins => exact absurd h2 (h xs)
        | _ => rfl
      | _ => rfl
    · rfl
@[simp] theorem pf_ins {xs : List D} : pfD i (.node .ins xs) = if i < xs.length then .ok (some i) else .no := rfl
@[simp] theorem putIn_ins {xs : List D} {g : D → Option D} : putIn (.node .ins xs) (some i) g = (xs[i]?).bind fun dn => (g dn).map fun dn' => .node .ins (xs.set i dn') := rfl
def insS (d : D) (k : List D → RS) : RS := match d with
  | .node .ins xs => k xs
  | _ => .no
@[simp] theorem insS_ins {xs : List D} {k : List D → RS} : insS (.node .ins xs) k = k xs := rfl
@[simp] theorem ap_xFld : xFld i r mv ρ = Slot.own ρ[r]? fun d => insS d fun xs => (mv ρ).toS ρ fun x => if xs.length = i then .nx (ρ.set r (.ow (.node .ins (xs ++ [x])))) else .no := by
  unfold xFld
  cases ρ[r]? with
  | none => rfl
  | some q =>
    cases q with
    | ow d =>
      cases d with
      | node hd xs => cases hd <;> rfl
      | _ => rfl
    | un => rfl
    | ro d => rfl
theorem run_outM {N : Nat} {ds : List D} : runM n N s (d :: ds) = outM (s (.ow d :: (ds.map Slot.ro ++ List.replicate (N - n) Slot.un))) := rfl
@[simp] theorem outM_rt {ρ : Evn} : outM (.rt x (.ow d :: ρ)) = .ok d x := rfl
@[simp] theorem outM_nx {ρ : Evn} : outM (.nx (.ow d :: ρ)) = .ok d .non := rfl
@[simp] theorem outM_exc {ρ : Evn} : outM (.exc c (.ow d :: ρ)) = .exc c d := rfl
@[simp] theorem outM_no : outM .no = .no := rfl
@[simp] theorem ap_make : mMake n fm ms ρ = (ms ρ).bind fun ds => if D.imms ds = true ∧ ds.length + 1 = n then madeD (fm (.node .ins [] :: ds)) else .no := rfl
@[simp] theorem made_ok : madeD (.ok d .non) = .ok d := rfl
@[simp] theorem made_exc : madeD (.exc c d) = .exc c := rfl
end
def m_all_references (g : List D → R D) : Evn → RS :=
    (mSeq (mSet 1 (mApp 1 f_references (mCons (mVar 0) mNil)))
    (mSeq (mFor 2 (mApp 1 f_inner (mCons (mVar 0) mNil)) (mSet 1 (mBin gAdd (mVar 1) (mApp 1 g (mCons (mVar 2) mNil)))))
    (mRetV 1)))
def f_all_references_ : Nat → List D → R D
  | 0 => fun _ => .no
  | n + 1 => runP 1 3 (m_all_references (f_all_references_ n))
def m_Sh_places : Evn → RS :=
    (mRet (mApp 2 f_area (mCons (mTup (mCons (mC (.int 0)) (mCons (mC (.int 0)) mNil))) (mCons (mTup (mCons (mBin gSub (mFld 0 (mVar 0)) (mC (.int 1))) (mCons (mBin gSub (mFld 1 (mVar 0)) (mC (.int 1))) mNil))) mNil))))
def f_Sh_places : List D → R D := runP 1 1 m_Sh_places
def m_Sheet_init : Evn → RS :=
    (mSeq (mIf (cOr (cNot (mTest (mChain gLe gLe (mC (.int 1)) (mVar 1) (mC (.int 12))))) (cNot (mTest (mChain gLe gLe (mC (.int 1)) (mVar 2) (mC (.int 12)))))) (fun ρ => .exc 1 ρ) mNx)
    (mSeq (xFld 0 0 (mImm (mVar 1)))
    (mSeq (xFld 1 0 (mImm (mVar 2)))
    (mSeq (xFld 2 0 mDT)
    (mFor 3 (mMeth 1 f_Sh_places (mVar 0) mNil) (mPut 0 (pFld 0 2) (mVar 3) (mTup (mCons (mC (.str "num")) (mCons (mC (.int 0)) mNil)))))))))
def f_Sheet_init : List D → RM := runM 3 4 m_Sheet_init
def m_Sh_has : Evn → RS :=
    (mRet (mImm (mAnd (mChain gLe gLt (mC (.int 0)) (mBinE gIx (mVar 1) (mC (.int 0))) (mFld 0 (mVar 0))) (mChain gLe gLt (mC (.int 0)) (mBinE gIx (mVar 1) (mC (.int 1))) (mFld 1 (mVar 0))))))
def f_Sh_has : List D → R D := runP 2 2 m_Sh_has
def m_Sh_need : Evn → RS :=
    (mFor 2 (mRo 1) (mIf (cNot (mTest (mMeth 2 f_Sh_has (mVar 0) (mCons (mVar 2) mNil)))) (fun ρ => .exc 2 ρ) mNx))
def f_Sh_need : List D → R D := runP 2 3 m_Sh_need
def m_Sh_rule : Evn → RS :=
    (mSeq (mDrop (mMeth 2 f_Sh_need (mVar 0) (mCons (mLst (mCons (mImm (mVar 1)) mNil)) mNil)))
    (mRet (mImm (mBinE gIx (mFld 2 (mVar 0)) (mTup (mCons (mImm (mBinE gIx (mVar 1) (mC (.int 0)))) (mCons (mImm (mBinE gIx (mVar 1) (mC (.int 1)))) mNil)))))))
def f_Sh_rule : List D → R D := runP 2 2 m_Sh_rule
def m_Sh_put : Evn → RS :=
    (mSeq (mDrop (mMeth 2 f_Sh_need (mVar 0) (mCons (mLst (mCons (mImm (mVar 1)) mNil)) mNil)))
    (mSeq (mIf (mTest (mBin gGt (mApp 1 (f_deep_ 40) (mCons (mVar 2) mNil)) (mC (.int 8)))) (fun ρ => .exc 3 ρ) mNx)
    (mSeq (mDrop (mMeth 2 f_Sh_need (mVar 0) (mCons (mApp 1 (f_all_references_ 40) (mCons (mVar 2) mNil)) mNil)))
    (mPut 0 (pFld 0 2) (mTup (mCons (mImm (mBinE gIx (mVar 1) (mC (.int 0)))) (mCons (mImm (mBinE gIx (mVar 1) (mC (.int 1)))) mNil))) (mImm (mVar 2))))))
def f_Sh_put : List D → RM := runM 3 3 m_Sh_put
/-! ### a sheet -/
def shD (h w : Nat) (rl : Int × Int → Ru) : D := .node .ins [.int h, .int w, dF (boxP 0 h 0 w) fun p => (rl p).toD]
def onP (h w : Nat) (p : Int × Int) : Bool := decide (0 ≤ p.1 ∧ p.1 < h ∧ 0 ≤ p.2 ∧ p.2 < w)
theorem onP_iff {h w : Nat} {p : Int × Int} : onP h w p = true ↔ p ∈ boxP 0 h 0 w := by
  rw [mem_boxP]
  unfold onP
  rw [decide_eq_true_eq]
  omega
def setR (rl : Int × Int → Ru) (p : Int × Int) (x : Ru) : Int × Int → Ru := fun q => if q = p then x else rl q
def posD : D → Int × Int
  | .node .tup (.int r :: .int c :: _) => (r, c)
  | _ => (0, 0)
@[simp] theorem pos_pair (p : Int × Int) : posD (pairD p) = p := rfl
@[simp] theorem pos_ref (a : Ref) : posD a.toD = (a.r, a.c) := rfl
def IsPos (d : D) : Prop := ∃ r c ys, d = .node .tup (.int r :: .int c :: ys)
theorem isPos_pair (p : Int × Int) : IsPos (pairD p) := ⟨_, _, _, rfl⟩
theorem isPos_ref (a : Ref) : IsPos a.toD := ⟨_, _, _, rfl⟩
section
variable {h w : Nat} {xs : List D}
theorem has_run {r c : Int} {ys : List D} : f_Sh_has [.node .ins (.int h :: .int w :: xs), .node .tup (.int r :: .int c :: ys)] = .ok (.bl (onP h w (r, c))) := by
  unfold f_Sh_has
  rw [run_out]
  unfold m_Sh_has
  unfold onP
  by_cases h1 : 0 ≤ r <;> by_cases h2 : r < h <;> by_cases h3 : 0 ≤ c <;> by_cases h4 : c < w <;> simp -implicitDefEqProofs [h1, h2, h3, h4]
theorem need_loop {z : D} : ∀ (L : List D) (s2 : Slot), (∀ d ∈ L, IsPos d) → (forL 2 (mIf (cNot (mTest (mMeth 2 f_Sh_has (mVar 0) (mCons (mVar 2) mNil)))) (fun ρ => .exc 2 ρ) mNx) L [.ro (.node .ins (.int h :: .int w :: xs)), .ro z, s2]).out = if L.all (fun d => onP h w (posD d)) = true then .ok .non else .exc 2
  | [], s2, _ => by simp
  | x :: L, s2, hL => by
    obtain ⟨r, c, ys, rfl⟩ := hL x (by simp)
    have ih := need_loop (z := z) L (.ro (.node .tup (.int r :: .int c :: ys))) fun d hd => hL d (by simp [hd])
    have e : posD (.node .tup (.int r :: .int c :: ys)) = (r, c) := rfl
    have hr := has_run (h := h) (w := w) (xs := xs) (r := r) (c := c) (ys := ys)
    by_cases ho : onP h w (r, c) = true
    · rw [ho] at hr
      simp -implicitDefEqProofs [hr, e, ho, ih]
    · rw [Bool.not_eq_true] at ho
      rw [ho] at hr
      simp -implicitDefEqProofs [hr, e, ho]
theorem need_run {L : List D} (hL : ∀ d ∈ L, IsPos d) : f_Sh_need [.node .ins (.int h :: .int w :: xs), .node .lst L] = if L.all (fun d => onP h w (posD d)) = true then .ok .non else .exc 2 := by
  unfold f_Sh_need
  rw [run_out]
  unfold m_Sh_need
  rw [ap_for]
  exact need_loop L .un hL
theorem need_one {d : D} (hd : IsPos d) : f_Sh_need [.node .ins (.int h :: .int w :: xs), .node .lst [d]] = if onP h w (posD d) = true then .ok .non else .exc 2 := by
  rw [need_run (by simpa using hd)]
  simp
theorem areaP_all (hh : 0 < h) (hw : 0 < w) : areaP 0 0 ((h : Int) - 1) ((w : Int) - 1) = boxP 0 h 0 w := by
  unfold areaP
  rw [show min (0 : Int) ((h : Int) - 1) = 0 by omega, show min (0 : Int) ((w : Int) - 1) = 0 by omega, show (max (0 : Int) ((h : Int) - 1) + 1 - 0).toNat = h by omega, show (max (0 : Int) ((w : Int) - 1) + 1 - 0).toNat = w by omega]
theorem places_run (hh : 0 < h) (hw : 0 < w) (hs : h * w < 100000) : f_Sh_places [.node .ins (.int h :: .int w :: xs)] = .ok (.node .lst ((boxP 0 h 0 w).map pairD)) := by
  have e := area_run (a := 0) (b := 0) (c := (h : Int) - 1) (d := (w : Int) - 1) (xs := []) (ys := []) (by
    rw [show min (0 : Int) ((h : Int) - 1) = 0 by omega, show min (0 : Int) ((w : Int) - 1) = 0 by omega, show (max (0 : Int) ((h : Int) - 1) + 1 - 0).toNat = h by omega, show (max (0 : Int) ((w : Int) - 1) + 1 - 0).toNat = w by omega]
    exact hs)
  rw [areaP_all hh hw] at e
  unfold f_Sh_places
  rw [run_out]
  unfold m_Sh_places
  simp -implicitDefEqProofs [-List.map_map, e]
end
section
variable {h w : Nat} {rl : Int × Int → Ru}
theorem rule_run {p : Int × Int} : f_Sh_rule [shD h w rl, pairD p] = if onP h w p = true then .ok (rl p).toD else .exc 2 := by
  unfold f_Sh_rule shD
  rw [run_out]
  unfold m_Sh_rule
  have n := need_one (h := h) (w := w) (xs := [dF (boxP 0 h 0 w) fun p => (rl p).toD]) (isPos_pair p)
  rw [pos_pair] at n
  by_cases ho : onP h w p = true
  · rw [if_pos ho] at n ⊢
    have e := ix_dF (v := fun p => (rl p).toD) (onP_iff.mp ho)
    simp -implicitDefEqProofs [n, pair_mk, e]
  · rw [if_neg ho] at n ⊢
    simp -implicitDefEqProofs [n]
/-! references -/
def Ru.allr : Ru → List Ref
  | .num _ => []
  | .cell a => [a]
  | .sum a b => [a, b]
  | .most a b => [a, b]
  | .op _ x y => x.allr ++ y.allr
  | .pick x y z => x.allr ++ (y.allr ++ z.allr)
  | .look k a b o => a :: b :: (k.allr ++ o.allr)
theorem Ru.allr_len : ∀ x : Ru, x.allr.length ≤ 2 * 3 ^ x.dep
  | .num _ => by simp [Ru.allr]
  | .cell a => by simp [Ru.allr, Ru.dep]
  | .sum a b => by simp [Ru.allr, Ru.dep]
  | .most a b => by simp [Ru.allr, Ru.dep]
  | .op _ x y => by
    have h1 := Ru.allr_len x; have h2 := Ru.allr_len y
    have g1 : 3 ^ x.dep ≤ 3 ^ max x.dep y.dep := Nat.pow_le_pow_right (by decide) (by omega)
    have g2 : 3 ^ y.dep ≤ 3 ^ max x.dep y.dep := Nat.pow_le_pow_right (by decide) (by omega)
    simp only [Ru.allr, Ru.dep, List.length_append, Nat.pow_succ]
    omega
  | .pick x y z => by
    have h1 := Ru.allr_len x; have h2 := Ru.allr_len y; have h3 := Ru.allr_len z
    have g1 : 3 ^ x.dep ≤ 3 ^ max x.dep (max y.dep z.dep) := Nat.pow_le_pow_right (by decide) (by omega)
    have g2 : 3 ^ y.dep ≤ 3 ^ max x.dep (max y.dep z.dep) := Nat.pow_le_pow_right (by decide) (by omega)
    have g3 : 3 ^ z.dep ≤ 3 ^ max x.dep (max y.dep z.dep) := Nat.pow_le_pow_right (by decide) (by omega)
    simp only [Ru.allr, Ru.dep, List.length_append, Nat.pow_succ]
    omega
  | .look k a b o => by
    have h1 := Ru.allr_len k; have h2 := Ru.allr_len o
    have g1 : 3 ^ k.dep ≤ 3 ^ max k.dep o.dep := Nat.pow_le_pow_right (by decide) (by omega)
    have g2 : 3 ^ o.dep ≤ 3 ^ max k.dep o.dep := Nat.pow_le_pow_right (by decide) (by omega)
    have g3 : 0 < 3 ^ max k.dep o.dep := Nat.pow_pos (by decide)
    simp only [Ru.allr, Ru.dep, List.length_append, List.length_cons, Nat.pow_succ]
    omega
theorem imms_refs (xs : List Ref) : D.imms (xs.map Ref.toD) = true := imms_iff.mpr fun d hd => by
  obtain ⟨a, _, rfl⟩ := List.mem_map.mp hd
  exact a.imm
theorem allr_run : ∀ (n : Nat) (x : Ru), x.dep ≤ n → x.dep ≤ 10 → f_all_references_ n [x.toD] = .ok (.node .lst (x.allr.map Ref.toD))
  | 0, x, h, _ => by have := x.dep_pos; omega
  | n + 1, x, h, h10 => by
    have small : ∀ y : Ru, y.dep ≤ 10 → y.allr.length ≤ 200000 := fun y hy => by
      have h1 := y.allr_len
      have g : 3 ^ y.dep ≤ 3 ^ 10 := Nat.pow_le_pow_right (by decide) hy
      omega
    have ih := allr_run n
    have er := references_run x
    have ei := inner_run x
    unfold f_all_references_
    rw [run_out]
    unfold m_all_references
    cases x with
    | num i => simp -implicitDefEqProofs [er, ei, Ru.refs, Ru.inner, Ru.allr]
    | cell a => simp -implicitDefEqProofs [er, ei, Ru.refs, Ru.inner, Ru.allr]
    | sum a b => simp -implicitDefEqProofs [er, ei, Ru.refs, Ru.inner, Ru.allr]
    | most a b => simp -implicitDefEqProofs [er, ei, Ru.refs, Ru.inner, Ru.allr]
    | op q x y =>
      simp only [Ru.dep] at h h10
      have hx := ih x (by omega) (by omega)
      have hy := ih y (by omega) (by omega)
      have lx := small x (by omega); have ly := small y (by omega)
      have c1 : x.allr.length ≤ 1000000 := by omega
      have c2 : x.allr.length + y.allr.length ≤ 1000000 := by omega
      simp -implicitDefEqProofs [er, ei, Ru.refs, Ru.inner, Ru.allr, hx, hy, imms_refs, c1, c2]
    | pick x y z =>
      simp only [Ru.dep] at h h10
      have hx := ih x (by omega) (by omega)
      have hy := ih y (by omega) (by omega)
      have hz := ih z (by omega) (by omega)
      have lx := small x (by omega); have ly := small y (by omega); have lz := small z (by omega)
      have c1 : x.allr.length ≤ 1000000 := by omega
      have c2 : x.allr.length + y.allr.length ≤ 1000000 := by omega
      have c3 : x.allr.length + y.allr.length + z.allr.length ≤ 1000000 := by omega
      have c4 : x.allr.length + (y.allr.length + z.allr.length) ≤ 1000000 := by omega
      have i2 := imms_append (imms_refs x.allr) (imms_refs y.allr)
      simp -implicitDefEqProofs [er, ei, Ru.refs, Ru.inner, Ru.allr, hx, hy, hz, imms_refs, c1, c2, c3, c4, i2]
    | look k a b o =>
      simp only [Ru.dep] at h h10
      have hx := ih k (by omega) (by omega)
      have hy := ih o (by omega) (by omega)
      have lx := small k (by omega); have ly := small o (by omega)
      have c1 : k.allr.length + 2 ≤ 1000000 := by omega
      have c1' : 2 + k.allr.length ≤ 1000000 := by omega
      have c2 : k.allr.length + 2 + o.allr.length ≤ 1000000 := by omega
      have c3 : k.allr.length + 1 + 1 + o.allr.length ≤ 1000000 := by omega
      have c4 : k.allr.length + 1 + 1 ≤ 1000000 := by omega
      simp -implicitDefEqProofs [er, ei, Ru.refs, Ru.inner, Ru.allr, hx, hy, imms_refs, c1, c1', c2, c3, c4]
theorem Ru.allr_In : ∀ x : Ru, (x.allr.all fun a => onP h w (a.r, a.c)) = true ↔ x.In 0 h 0 w := by
  have r : ∀ a : Ref, onP h w (a.r, a.c) = true ↔ a.In 0 h 0 w := fun a => by
    unfold onP Ref.In
    rw [decide_eq_true_eq]
    simp only
    omega
  intro x
  induction x with
  | num i => simp [Ru.allr, Ru.In]
  | cell a => simp [Ru.allr, Ru.In, r]
  | sum a b => simp [Ru.allr, Ru.In, r]
  | most a b => simp [Ru.allr, Ru.In, r]
  | op q x y hx hy => rw [Ru.allr, List.all_append, Bool.and_eq_true, hx, hy, Ru.In]
  | pick x y z hx hy hz => rw [Ru.allr, List.all_append, Bool.and_eq_true, List.all_append, Bool.and_eq_true, hx, hy, hz, Ru.In]
  | look k a b o hk ho => rw [Ru.allr, List.all_cons, List.all_cons, List.all_append, Bool.and_eq_true, Bool.and_eq_true, Bool.and_eq_true, hk, ho, r, r, Ru.In]; exact ⟨fun ⟨a, b, c, d⟩ => ⟨c, a, b, d⟩, fun ⟨a, b, c, d⟩ => ⟨b, c, a, d⟩⟩
instance (x : Ru) : Decidable (x.In 0 h 0 w) := decidable_of_iff _ (Ru.allr_In x)
theorem refs_need (x : Ru) {xs : List D} : f_Sh_need [.node .ins (.int h :: .int w :: xs), .node .lst (x.allr.map Ref.toD)] = if x.In 0 h 0 w then .ok .non else .exc 2 := by
  rw [need_run fun d hd => by obtain ⟨a, _, rfl⟩ := List.mem_map.mp hd; exact isPos_ref a]
  have e : ((x.allr.map Ref.toD).all fun d => onP h w (posD d)) = x.allr.all fun a => onP h w (a.r, a.c) := by
    rw [List.all_map]
    rfl
  rw [e]
  by_cases i : x.In 0 h 0 w
  · rw [if_pos i, if_pos ((Ru.allr_In x).mpr i)]
  · rw [if_neg i, if_neg fun q => i ((Ru.allr_In x).mp q)]
theorem insK_in {ks : List (Int × Int)} {p : Int × Int} (h : p ∈ ks) : insK ks p = ks := if_pos h
theorem put_run {p : Int × Int} {x : Ru} (hs : h * w < 100000) (hx : x.dep ≤ 40) : f_Sh_put [shD h w rl, pairD p, x.toD] =
    if onP h w p = true then (if x.dep ≤ 8 then (if x.In 0 h 0 w then .ok (shD h w (setR rl p x)) .non else .exc 2 (shD h w rl)) else .exc 3 (shD h w rl)) else .exc 2 (shD h w rl) := by
  unfold f_Sh_put shD
  rw [run_outM]
  unfold m_Sh_put
  have n := need_one (h := h) (w := w) (xs := [dF (boxP 0 h 0 w) fun p => (rl p).toD]) (isPos_pair p)
  rw [pos_pair] at n
  have dp := deep_run 40 x hx
  by_cases ho : onP h w p = true
  · rw [if_pos ho] at n ⊢
    by_cases hd : x.dep ≤ 8
    · rw [if_pos hd]
      have g : ¬ ((x.dep : Int) > 8) := by omega
      have ar := allr_run 40 x hx (by omega)
      have rn := refs_need (h := h) (w := w) x (xs := [dF (boxP 0 h 0 w) fun p => (rl p).toD])
      by_cases i : x.In 0 h 0 w
      · rw [if_pos i] at rn ⊢
        have pt := put_dF (ks := boxP 0 h 0 w) (v := fun p => (rl p).toD) (p := p) (x := x.toD) (by rw [boxP_len]; exact hs) x.imm
        rw [insK_in (onP_iff.mp ho)] at pt
        have e : (fun j => if j = p then x.toD else (rl j).toD) = fun j => (setR rl p x j).toD := funext fun j => by
          unfold setR
          split <;> rfl
        rw [e] at pt
        simp -implicitDefEqProofs [n, dp, g, ar, rn, pair_mk, pt]
      · rw [if_neg i] at rn ⊢
        simp -implicitDefEqProofs [n, dp, g, ar, rn]
    · rw [if_neg hd]
      have g : (x.dep : Int) > 8 := by omega
      have g2 : (8 : Int) < x.dep := by omega
      simp -implicitDefEqProofs [n, dp, g, g2]
  · rw [if_neg ho] at n ⊢
    simp -implicitDefEqProofs [n]
end
theorem take_nd {α : Type} {l : List α} (h : l.Nodup) {k : Nat} (hk : k < l.length) : l[k] ∉ l.take k := fun q => by
  obtain ⟨j, hj, e⟩ := List.mem_iff_getElem.mp q
  rw [List.length_take] at hj
  rw [List.getElem_take] at e
  have := (List.getElem_inj h).mp e
  omega
theorem init_loop {h w : Nat} (hs : h * w < 100000) (s1 s2 s3 : Slot) : ∃ s3', forL 3 (mPut 0 (pFld 0 2) (mVar 3) (mTup (mCons (mC (.str "num")) (mCons (mC (.int 0)) mNil)))) ((boxP 0 h 0 w).map pairD) [.ow (.node .ins [.int h, .int w, dF [] fun _ => (Ru.num 0).toD]), s1, s2, s3]
    = .nx [.ow (shD h w fun _ => .num 0), s1, s2, s3'] := by
  have hl : (boxP 0 h 0 w).length < 100000 := by rw [boxP_len]; exact hs
  obtain ⟨ρ', e, s3', rfl⟩ := forL_inv (i := 3) (body := mPut 0 (pFld 0 2) (mVar 3) (mTup (mCons (mC (.str "num")) (mCons (mC (.int 0)) mNil)))) (xs := (boxP 0 h 0 w).map pairD)
    (I := fun k ρ => ∃ s3', ρ = [.ow (.node .ins [.int h, .int w, dF ((boxP 0 h 0 w).take k) fun _ => (Ru.num 0).toD]), s1, s2, s3']) (ρ := [.ow (.node .ins [.int h, .int w, dF [] fun _ => (Ru.num 0).toD]), s1, s2, s3]) ⟨s3, rfl⟩ (by
    rintro k x ρ hx ⟨s3', rfl⟩
    have hk : k < (boxP 0 h 0 w).length := by have := (List.getElem?_eq_some_iff.mp hx).1; simpa using this
    have ex : x = pairD (boxP 0 h 0 w)[k] := by
      rw [List.getElem?_map, List.getElem?_eq_getElem hk] at hx
      exact (Option.some.inj hx).symm
    subst ex
    have pt := put_dF (ks := (boxP 0 h 0 w).take k) (v := fun _ => (Ru.num 0).toD) (p := (boxP 0 h 0 w)[k]) (x := (Ru.num 0).toD) (by rw [List.length_take]; omega) (Ru.num 0).imm
    have e1 : insK ((boxP 0 h 0 w).take k) (boxP 0 h 0 w)[k] = (boxP 0 h 0 w).take (k + 1) := by
      unfold insK
      rw [if_neg (take_nd boxP_nd hk)]
      simp
    have e2 : (fun j => if j = (boxP 0 h 0 w)[k] then (Ru.num 0).toD else (Ru.num 0).toD) = fun _ => (Ru.num 0).toD := funext fun j => by split <;> rfl
    rw [e1, e2] at pt
    simp only [Ru.toD] at pt
    refine ⟨[.ow (.node .ins [.int h, .int w, dF ((boxP 0 h 0 w).take (k + 1)) fun _ => (Ru.num 0).toD]), s1, s2, .ro (pairD (boxP 0 h 0 w)[k])], ?_, _, rfl⟩
    simp -implicitDefEqProofs [-List.map_take, Ru.toD, pt])
  refine ⟨s3', e.trans ?_⟩
  rw [List.length_map, List.take_length]
  rfl
theorem init_run {h w : Nat} (hh : 0 < h ∧ h ≤ 12) (hw : 0 < w ∧ w ≤ 12) : f_Sheet_init [.node .ins [], .int h, .int w] = .ok (shD h w fun _ => .num 0) .non := by
  have hs : h * w < 100000 := by
    have := Nat.mul_le_mul hh.2 hw.2
    omega
  have c1 : (1 : Int) ≤ h := by omega
  have c2 : (h : Int) ≤ 12 := by omega
  have c3 : (1 : Int) ≤ w := by omega
  have c4 : (w : Int) ≤ 12 := by omega
  obtain ⟨s3', e⟩ := init_loop (h := h) (w := w) hs (.ro (.int h)) (.ro (.int w)) .un
  change forL _ _ _ [Slot.ow (.node .ins [.int h, .int w, .node (.dT []) []]), _, _, _] = _ at e
  have pl := places_run (h := h) (w := w) (xs := [.node (.dT []) []]) hh.1 hw.1 hs
  unfold f_Sheet_init
  rw [run_outM]
  unfold m_Sheet_init
  simp -implicitDefEqProofs [-List.map_map, c1, c2, c3, c4, mDT, pl, e]
theorem init_no {i j : Int} (h : ¬ (1 ≤ i ∧ i ≤ 12 ∧ 1 ≤ j ∧ j ≤ 12)) : f_Sheet_init [.node .ins [], .int i, .int j] = .exc 1 (.node .ins []) := by
  unfold f_Sheet_init
  rw [run_outM]
  unfold m_Sheet_init
  by_cases c1 : 1 ≤ i ∧ i ≤ 12
  · by_cases c3 : 1 ≤ j
    · have c4 : ¬ j ≤ 12 := fun q => h ⟨c1.1, c1.2, c3, q⟩
      simp -implicitDefEqProofs [c1.1, c1.2, c3, c4]
    · simp -implicitDefEqProofs [c1.1, c1.2, c3]
  · by_cases c2 : 1 ≤ i
    · have c4 : ¬ i ≤ 12 := fun q => c1 ⟨c2, q⟩
      simp -implicitDefEqProofs [c2, c4]
    · simp -implicitDefEqProofs [c2]
end Rs

set_option maxRecDepth 100000
/-! RsG: what the laws draw. -/
namespace Rs
open PySem PySem.Spec PyProof.Rows L2
/-! ### blocks, statement by statement -/
theorem seqF {α : Type} {F : RS → α} {s1 s2 : Evn → RS} {ρ ρ' : Evn} {r : α} (h1 : s1 ρ = .nx ρ') (h2 : F (s2 ρ') = r) : F (mSeq s1 s2 ρ) = r := by
  rw [ap_seq, h1]
  exact h2
theorem seqX {α : Type} {F : RS → α} {s1 s2 : Evn → RS} {ρ : Evn} {r : α} {P : Evn → Prop} (h1 : ∃ ρ', s1 ρ = .nx ρ' ∧ P ρ') (h2 : ∀ ρ', P ρ' → F (s2 ρ') = r) : F (mSeq s1 s2 ρ) = r := by
  obtain ⟨ρ', e, p⟩ := h1
  rw [ap_seq, e]
  exact h2 ρ' p
theorem seqE {s1 s2 : Evn → RS} {ρ ρ' : Evn} {r : RS} (h1 : s1 ρ = .nx ρ') (h2 : s2 ρ' = r) : mSeq s1 s2 ρ = r := by
  rw [ap_seq, h1]
  exact h2
theorem seqC {C : RS → Prop} {P : Evn → Prop} {s1 s2 : Evn → RS} {ρ : Evn} (h1 : ∃ ρ', s1 ρ = .nx ρ' ∧ P ρ') (h2 : ∀ ρ', P ρ' → C (s2 ρ')) : C (mSeq s1 s2 ρ) := by
  obtain ⟨ρ', e, p⟩ := h1
  rw [ap_seq, e]
  exact h2 ρ' p
theorem run_c {n N : Nat} {m : Evn → RS} {ds : List D} {ρ0 : Evn} {C : R D → Prop} (h0 : ds.map Slot.ro ++ List.replicate (N - n) Slot.un = ρ0) (h : C (m ρ0).out) : C (runP n N m ds) := by
  rw [run_out, h0]
  exact h
theorem run_o {n N : Nat} {m : Evn → RS} {ds : List D} {ρ0 : Evn} {r : R D} (h0 : ds.map Slot.ro ++ List.replicate (N - n) Slot.un = ρ0) (h : (m ρ0).out = r) : runP n N m ds = r := by
  rw [run_out, h0]
  exact h
theorem run_m {n N : Nat} {m : Evn → RS} {d : D} {ds : List D} {ρ0 : Evn} {r : RM} (h0 : ds.map Slot.ro ++ List.replicate (N - n) Slot.un = ρ0) (h : outM (m (.ow d :: ρ0)) = r) : runM n N m (d :: ds) = r := by
  rw [run_outM, h0]
  exact h
/-! loops -/
section
variable {i r : Nat} {it : Evn → R D} {itR : Evn → R (List D)} {body : Evn → RS} {ρ : Evn} {d : D} {xs ds vs : List D} {lo : Int} {n : Nat}
theorem for_ex (I : Nat → Evn → Prop) (hit : it ρ = .ok d) (hx : d.seq = some xs) (h0 : I 0 ρ) (hs : ∀ k x ρ, xs[k]? = some x → I k ρ → ∃ ρ', body (ρ.set i (.ro x)) = .nx ρ' ∧ I (k + 1) ρ') : ∃ ρ', mFor i it body ρ = .nx ρ' ∧ I xs.length ρ' := by
  obtain ⟨ρ', e, h⟩ := forL_inv (i := i) (body := body) (I := I) h0 hs
  refine ⟨ρ', ?_, h⟩
  rw [ap_for, hit, R.toS_ok, hx, oS_some, e]
theorem forR_ex (I : Nat → Evn → Prop) (hit : itR ρ = .ok ds) (hx : rngOf ds = some (lo, n)) (h0 : I 0 ρ) (hs : ∀ (k : Nat) ρ, k < n → I k ρ → ∃ ρ', body (ρ.set i (.ro (.int (lo + (k : Nat))))) = .nx ρ' ∧ I (k + 1) ρ') : ∃ ρ', mForR i itR body ρ = .nx ρ' ∧ I n ρ' := by
  obtain ⟨ρ', e, h⟩ := forL_inv (i := i) (body := body) (xs := rangeD lo n) (I := I) h0 fun k x ρ hk p => by
    obtain ⟨rfl, hl⟩ := rangeD_get hk
    exact hs k ρ hl p
  rw [rangeD_len] at h
  refine ⟨ρ', ?_, h⟩
  rw [ap_forR, hit, R.toS_ok, hx, oS_some, e]
theorem forK_ex {ks : List (Int × Int)} (I : Nat → Evn → Prop) (hr : ρ[r]? = some (.ro (.node (.dT ks) vs))) (h0 : I 0 ρ) (hs : ∀ k p ρ, ks[k]? = some p → I k ρ → ∃ ρ', body (ρ.set i (.ro (pairD p))) = .nx ρ' ∧ I (k + 1) ρ') : ∃ ρ', mForK i r body ρ = .nx ρ' ∧ I ks.length ρ' := by
  obtain ⟨ρ', e, h⟩ := forL_inv (i := i) (body := body) (xs := ks.map pairD) (I := I) h0 fun k x ρ hk p => by
    rw [List.getElem?_map] at hk
    cases e : ks[k]? with
    | none => rw [e] at hk; cases hk
    | some q =>
      rw [e] at hk
      cases hk
      exact hs k q ρ e p
  rw [List.length_map] at h
  refine ⟨ρ', ?_, h⟩
  unfold mForK
  rw [hr]
  simp only [e]
  rfl
theorem frz_ex {T : List Nat} {m : Evn → RS} {P : Evn → Prop} (hr : ρ[r]? = some (.ow d)) (h : ∃ ρ', m (ρ.set r (.ro d)) = .nx ρ' ∧ P (thaw T r 0 ρ ρ')) : ∃ ρ', mFrz T r m ρ = .nx ρ' ∧ P ρ' := by
  obtain ⟨ρ', e, p⟩ := h
  refine ⟨_, ?_, p⟩
  rw [ap_frz, hr, Slot.frz_ow, e]
  rfl
theorem while_ex {c : Evn → R Bool} {P : Evn → Prop} (I : Nat → Evn → Prop) (N fuel : Nat) (hf : N < fuel) (h0 : I 0 ρ) (hs : ∀ k ρ, I k ρ → (c ρ = .ok false ∧ P ρ) ∨ (k < N ∧ c ρ = .ok true ∧ ∃ ρ', body ρ = .nx ρ' ∧ I (k + 1) ρ')) : ∃ ρ', whileL c body fuel ρ = .nx ρ' ∧ P ρ' := by
  have key : ∀ (j k : Nat) (ρ : Evn), N - k < j → I k ρ → ∃ ρ', whileL c body j ρ = .nx ρ' ∧ P ρ' := by
    intro j
    induction j with
    | zero => intro k ρ h; omega
    | succ j ih =>
      intro k ρ h p
      rcases hs k ρ p with ⟨e, q⟩ | ⟨hk, e, ρ', eb, p'⟩
      · exact ⟨ρ, by unfold whileL; rw [e]; rfl, q⟩
      · obtain ⟨ρ2, e2, q⟩ := ih (k + 1) ρ' (by omega) p'
        refine ⟨ρ2, ?_, q⟩
        unfold whileL
        rw [e]
        simp only [if_true, eb]
        exact e2
  exact key fuel 0 ρ (by omega) h0
end
@[simp] theorem ins_sh {h w : Nat} {rl : Int × Int → Ru} : isIns (shD h w rl) = true := rfl
theorem imm_sh {h w : Nat} {rl : Int × Int → Ru} : (shD h w rl).imm = false := rfl
mutual
theorem noX_ru : ∀ x : Ru, noX x.toD = true
  | .num i => rfl
  | .cell a => rfl
  | .sum a b => rfl
  | .most a b => rfl
  | .op w x y => by simp [Ru.toD, noX, noXs, noX_ru x, noX_ru y]
  | .pick x y z => by simp [Ru.toD, noX, noXs, noX_ru x, noX_ru y, noX_ru z]
  | .look k a b o => by
    have ha : noX a.toD = true := rfl
    have hb : noX b.toD = true := rfl
    simp [Ru.toD, noX, noXs, noX_ru k, noX_ru o, ha, hb]
end
theorem noXs_iff : ∀ {ds : List D}, noXs ds = true ↔ ∀ d ∈ ds, noX d = true
  | [] => by simp [noXs]
  | d :: ds => by simp [noXs, noXs_iff (ds := ds)]
theorem noX_sh {h w : Nat} {rl : Int × Int → Ru} : noX (shD h w rl) = true := by
  unfold shD
  have : noXs ((boxP 0 h 0 w).map fun p => (rl p).toD) = true := noXs_iff.mpr fun d hd => by
    obtain ⟨p, _, rfl⟩ := List.mem_map.mp hd
    exact noX_ru _
  simp [noX, noXs, this]
@[simp] theorem slotX_ow {d : D} : slotX (.ow d) = noX d := rfl
@[simp] theorem slotX_ro {d : D} : slotX (.ro d) = noX d := rfl
@[simp] theorem slotX_un : slotX .un = true := rfl
@[simp] theorem noX_pair (p : Int × Int) : noX (pairD p) = true := rfl
@[simp] theorem noX_int (i : Int) : noX (.int i) = true := rfl
@[simp] theorem noX_bl (i : Bool) : noX (.bl i) = true := rfl
@[simp] theorem noX_str (i : Str) : noX (.str i) = true := rfl
@[simp] theorem noX_non : noX .non = true := rfl
def excD (i : Nat) (tab : Nat → Bool) (o : Option Slot) : R D := match o with
  | some (.ro (.exc c)) => .ok (.bl (tab c))
  | _ => .no
@[simp] theorem ap_isE {i : Nat} {tab : Nat → Bool} {ρ : Evn} : mIsE i tab ρ = excD i tab ρ[i]? := by
  unfold mIsE excD
  rfl
@[simp] theorem excD_exc {i c : Nat} {tab : Nat → Bool} : excD i tab (some (.ro (.exc c))) = .ok (.bl (tab c)) := rfl
theorem finX_rt {i : Nat} {ρ : Evn} {d : D} (hd : noX d = true) (h : (ρ.set i .un).all slotX = true) : finX i (.rt d ρ) = .rt d (ρ.set i .un) := by
  show (if noX d = true then fin1 i ρ (RS.rt d) else .no) = _
  rw [if_pos hd]
  unfold fin1
  rw [if_pos h]
theorem finX_nx {i : Nat} {ρ : Evn} (h : (ρ.set i .un).all slotX = true) : finX i (.nx ρ) = .nx (ρ.set i .un) := by
  show fin1 i ρ RS.nx = _
  unfold fin1
  rw [if_pos h]
theorem unp_run {i j : Nat} {m : Evn → R D} {ρ : Evn} {a b : D} (h : m ρ = .ok (.node .tup [a, b])) (ha : a.imm = true) (hb : b.imm = true) : mUnp i j m ρ = .nx ((ρ.set i (.ow a)).set j (.ow b)) := by
  unfold mUnp
  rw [h, R.toS_ok]
  show (if _ then _ else _) = _
  rw [if_pos ⟨ha, hb⟩]
@[simp] theorem imm_fls {xs : List D} : (D.node .fls xs).imm = D.imms xs := rfl
@[simp] theorem imms_ints (ns : List Int) : D.imms (ns.map D.int) = true := imms_iff.mpr fun d hd => by
  obtain ⟨a, _, rfl⟩ := List.mem_map.mp hd
  rfl
/-! ### texts compared -/
theorem eq_ru {x y : Ru} (hx : x.dep < 60) (hy : y.dep < 60) : gEq x.toD y.toD = .ok (.bl (eqD x.toD y.toD)) := by
  unfold gEq
  rw [if_pos ⟨x.ok hx, y.ok hy⟩]
theorem ne_ru {x : Ru} (hx : x.dep < 60) : gNe x.toD x.toD = .ok (.bl false) := g_ner (x.ok hx)
theorem box_get {h w k : Nat} (hw : 0 < w) (hk : k < h * w) : (boxP 0 h 0 w)[k]? = some ((k : Int) / (w : Int), (k : Int) % (w : Int)) := by
  rw [boxP_dm, List.getElem?_map, List.getElem?_range hk]
  simp
theorem box_at {h w k : Nat} (hw : 0 < w) (hk : k < (boxP 0 h 0 w).length) : (boxP 0 h 0 w)[k] = ((k : Int) / (w : Int), (k : Int) % (w : Int)) := by
  have h2 : k < h * w := by rw [boxP_len] at hk; exact hk
  have := box_get hw h2
  rw [List.getElem?_eq_getElem hk] at this
  exact Option.some.inj this
theorem box_mem {h w : Nat} (hw : 0 < w) {i : Int} (h0 : 0 ≤ i) (h1 : i < h * w) : (i / (w : Int), i % (w : Int)) ∈ boxP 0 h 0 w := by
  have e : i = (i.toNat : Int) := by omega
  have hk : i.toNat < h * w := by
    have : ((i.toNat : Int)) < ((h * w : Nat) : Int) := by rw [← e]; simpa using h1
    omega
  have := box_get (h := h) hw hk
  rw [← e] at this
  exact List.mem_of_getElem? this
/-- a dict grows place by place -/
theorem grow_box {h w k : Nat} (hw : 0 < w) (hs : h * w < 100000) (hk : k < h * w) {v : Int × Int → D} (hv : (v ((k : Int) / (w : Int), (k : Int) % (w : Int))).imm = true) :
    putItem (dF ((boxP 0 h 0 w).take k) v) (pairD ((k : Int) / (w : Int), (k : Int) % (w : Int))) (v ((k : Int) / (w : Int), (k : Int) % (w : Int))) = some (dF ((boxP 0 h 0 w).take (k + 1)) v) := by
  have hk' : k < (boxP 0 h 0 w).length := by rw [boxP_len]; exact hk
  rw [put_same (by rw [List.length_take]; omega) hv]
  have e := box_at hw hk'
  have : insK ((boxP 0 h 0 w).take k) ((k : Int) / (w : Int), (k : Int) % (w : Int)) = (boxP 0 h 0 w).take (k + 1) := by
    rw [← e]
    unfold insK
    rw [if_neg (take_nd boxP_nd hk')]
    simp
  rw [this]
theorem put_rules {ks : List (Int × Int)} {rl : Int × Int → Ru} {p : Int × Int} {x : Ru} (hl : ks.length < 100000) (hp : p ∈ ks) : putItem (dF ks fun q => (rl q).toD) (pairD p) x.toD = some (dF ks fun q => (setR rl p x q).toD) := by
  rw [put_dF hl x.imm, insK_in hp]
  have e : (fun j => if j = p then x.toD else (rl j).toD) = fun j => (setR rl p x j).toD := funext fun j => by
    unfold setR
    split <;> rfl
  rw [e]
/-- a choice for each place -/
theorem by_box {α : Type} [Inhabited α] {h w : Nat} (hw : 0 < w) {P : Nat → α → Prop} (H : ∀ k, k < h * w → ∃ r, P k r) : ∃ rl : Int × Int → α, ∀ k : Nat, k < h * w → P k (rl ((k : Int) / (w : Int), (k : Int) % (w : Int))) := by
  classical
  refine ⟨fun p => if hk : (p.1 * w + p.2).toNat < h * w then (H _ hk).choose else default, fun k hk => ?_⟩
  have e : (((k : Int) / (w : Int), (k : Int) % (w : Int)).1 * w + ((k : Int) / (w : Int), (k : Int) % (w : Int)).2).toNat = k := by
    have := Int.mul_ediv_add_emod (k : Int) (w : Int)
    rw [Int.mul_comm] at this
    simp only
    omega
  have hk' : (((k : Int) / (w : Int), (k : Int) % (w : Int)).1 * w + ((k : Int) / (w : Int), (k : Int) % (w : Int)).2).toNat < h * w := by rw [e]; exact hk
  simp only [dif_pos hk']
  have := (H _ hk').choose_spec
  revert this
  generalize hq : (H _ hk').choose = q
  intro p
  rw [e] at p
  exact p
instance : Inhabited Ru := ⟨.num 0⟩
/-! ### the script's cells, references -/
def m_l_cell_at : Evn → RS :=
    (mSeq (mIf (mTest (mBin gLt (mVar 1) (mCall gLen (mCons (mVar 0) mNil)))) (mRet (mBin gAdd (mBinE gIx (mVar 0) (mVar 1)) (mBin gMul (mBin gMod (mBinE gIx (mVar 0) (mVar 1)) (mC (.int 251))) (mC (.int 381840))))) mNx)
    (mRet (mC (.int 0))))
def f_l_cell_at : List D → R D := runP 2 2 m_l_cell_at
def m_l_ref_by : Evn → RS :=
    (mRet (mTup (mCons (mBin gMod (mVar 0) (mVar 1)) (mCons (mBin gMod (mBin gDiv (mVar 0) (mC (.int 12))) (mVar 2)) (mCons (mBin gEq (mBin gMod (mBin gDiv (mVar 0) (mC (.int 144))) (mC (.int 2))) (mC (.int 1))) (mCons (mBin gEq (mBin gMod (mBin gDiv (mVar 0) (mC (.int 288))) (mC (.int 2))) (mC (.int 1))) mNil))))))
def f_l_ref_by : List D → R D := runP 3 3 m_l_ref_by
def m_l_wrapped : Evn → RS :=
    (mSeq (mForR 3 (mCons (mVar 2) mNil) (mSeq (mSet 4 (mBin gMod (mBin gAdd (mBin gDiv (mVar 1) (mC (.int 7))) (mBin gMul (mVar 3) (mVar 3))) (mC (.int 4))))
    (mIf (mTest (mBin gEq (mVar 4) (mC (.int 0)))) (mSet 0 (mTup (mCons (mC (.str "add")) (mCons (mImm (mVar 0)) (mCons (mTup (mCons (mC (.str "num")) (mCons (mImm (mVar 3)) mNil))) mNil))))) (mIf (mTest (mBin gEq (mVar 4) (mC (.int 1)))) (mSet 0 (mTup (mCons (mC (.str "mul")) (mCons (mTup (mCons (mC (.str "num")) (mCons (mBin gAdd (mVar 3) (mC (.int 1))) mNil))) (mCons (mImm (mVar 0)) mNil))))) (mIf (mTest (mBin gEq (mVar 4) (mC (.int 2)))) (mSet 0 (mTup (mCons (mC (.str "pick")) (mCons (mTup (mCons (mC (.str "num")) (mCons (mBin gMod (mVar 3) (mC (.int 2))) mNil))) (mCons (mImm (mVar 0)) (mCons (mTup (mCons (mC (.str "num")) (mCons (mImm (mVar 3)) mNil))) mNil)))))) (mSet 0 (mTup (mCons (mC (.str "sub")) (mCons (mTup (mCons (mC (.str "num")) (mCons (mImm (mVar 3)) mNil))) (mCons (mImm (mVar 0)) mNil))))))))))
    (mRetV 0))
def f_l_wrapped : List D → R D := runP 3 5 m_l_wrapped
def cellV (ns : List Int) (k : Nat) : Int := if k < ns.length then ns.getD k 0 + ns.getD k 0 % 251 * 381840 else 0
theorem cell_run {ns : List Int} {k : Int} (hk : 0 ≤ k) : f_l_cell_at [.node .fls (ns.map D.int), .int k] = .ok (.int (cellV ns k.toNat)) := by
  unfold f_l_cell_at
  rw [run_out]
  unfold m_l_cell_at
  have m1 : ∀ i : Int, gMul (.int i) (.int 381840) = .ok (.int (i * 381840)) := fun i => g_mul2 (by omega)
  by_cases h : k < ns.length
  · have e : k = (k.toNat : Int) := by omega
    have := ix_fls (ns := ns) (k := k.toNat) (by omega)
    rw [← e] at this
    have h2 : k.toNat < ns.length := by omega
    have c : cellV ns k.toNat = cellA ns k.toNat + cellA ns k.toNat % 251 * 381840 := by
      unfold cellV
      rw [if_pos h2]
      rfl
    rw [c]
    simp -implicitDefEqProofs [h, this, m1]
  · have h2 : ¬ k.toNat < ns.length := by omega
    have c : cellV ns k.toNat = 0 := by
      unfold cellV
      rw [if_neg h2]
    rw [c]
    simp -implicitDefEqProofs [h]
theorem ref_run {h w : Nat} (hh : 0 < h) (hw : 0 < w) (x : Int) : ∃ r : Ref, f_l_ref_by [.int x, .int h, .int w] = .ok r.toD ∧ r.In 0 h 0 w := by
  have e1 : gMod (.int x) (.int h) = .ok (.int (x % h)) := g_mod (by omega)
  have e2 : gMod (.int (x / 12)) (.int w) = .ok (.int (x / 12 % w)) := g_mod (by omega)
  refine ⟨⟨x % h, x / 12 % w, decide (x / 144 % 2 = 1), decide (x / 288 % 2 = 1)⟩, ?_, ?_⟩
  · unfold f_l_ref_by runP m_l_ref_by Ref.toD
    simp -implicitDefEqProofs [e1, e2]
  · have h1 := Int.emod_nonneg x (show (h : Int) ≠ 0 by omega)
    have h2 := Int.emod_lt_of_pos x (show (0 : Int) < h by omega)
    have h3 := Int.emod_nonneg (x / 12) (show (w : Int) ≠ 0 by omega)
    have h4 := Int.emod_lt_of_pos (x / 12) (show (0 : Int) < w by omega)
    unfold Ref.In
    simp only
    omega
/-- slot 0 holds it, however -/
def Holds0 (s : Slot) (d : D) : Prop := s = .ro d ∨ s = .ow d
theorem Holds0.val {s : Slot} {d : D} (h : Holds0 s d) : Slot.val (some s) = .ok d := by rcases h with rfl | rfl <;> rfl
theorem Holds0.give {s : Slot} {d : D} {ρ : Evn} (h : Holds0 s d) (hi : d.imm = true) : (Slot.give (some s) ρ (ρ.set 0 .un)).out = .ok d := by
  rcases h with rfl | rfl
  · rw [Slot.give_ro, if_pos hi, RS.out_rt]
  · rw [Slot.give_ow, RS.out_rt]
theorem wrapped_run (x : Ru) (c : Int) (m : Int) (hm : 0 ≤ m ∧ m ≤ 1000) : ∃ x' : Ru, f_l_wrapped [x.toD, .int c, .int m] = .ok x'.toD ∧ x'.dep = x.dep + m.toNat ∧ ∀ h w : Nat, x.In 0 h 0 w → x'.In 0 h 0 w := by
  unfold f_l_wrapped
  refine run_c (C := fun r => ∃ x' : Ru, r = .ok x'.toD ∧ x'.dep = x.dep + m.toNat ∧ ∀ h w : Nat, x.In 0 h 0 w → x'.In 0 h 0 w) (ρ0 := [.ro x.toD, .ro (.int c), .ro (.int m), .un, .un]) rfl ?_
  unfold m_l_wrapped
  refine seqC (C := fun r => ∃ x' : Ru, r.out = .ok x'.toD ∧ x'.dep = x.dep + m.toNat ∧ ∀ h w : Nat, x.In 0 h 0 w → x'.In 0 h 0 w)
    (forR_ex (lo := 0) (n := m.toNat) (fun k ρ => ∃ (y : Ru) (s0 s3 s4 : Slot), ρ = [s0, .ro (.int c), .ro (.int m), s3, s4] ∧ Holds0 s0 y.toD ∧ y.dep = x.dep + k ∧ ∀ h w : Nat, x.In 0 h 0 w → y.In 0 h 0 w) (by simp; rfl) rfl ⟨x, _, _, _, rfl, .inl rfl, rfl, fun _ _ h => h⟩ ?_) ?_
  · rintro k _ hk ⟨y, s0, s3, s4, rfl, hs, hd, hi⟩
    have v := hs.val
    have m1 : gMul (.int (0 + (k : Int))) (.int (0 + (k : Int))) = .ok (.int ((0 + (k : Int)) * (0 + (k : Int)))) := g_mul2 (by omega)
    have c4 : ((c / 7 + (0 + (k : Int)) * (0 + (k : Int))) % 4 = 0) ∨ ((c / 7 + (0 + (k : Int)) * (0 + (k : Int))) % 4 = 1) ∨ ((c / 7 + (0 + (k : Int)) * (0 + (k : Int))) % 4 = 2) ∨ ((c / 7 + (0 + (k : Int)) * (0 + (k : Int))) % 4 = 3) := by omega
    have fin : ∀ (z : Ru) (s4' : Slot), (∃ ρ', ρ' = [.ow z.toD, .ro (.int c), .ro (.int m), .ro (.int (0 + (k : Int))), s4'] ∧ True) → z.dep = y.dep + 1 → (∀ h w : Nat, y.In 0 h 0 w → z.In 0 h 0 w) → ∃ (y : Ru) (s0 s3 s4 : Slot), [.ow z.toD, .ro (.int c), .ro (.int m), .ro (.int (0 + (k : Int))), s4'] = [s0, .ro (.int c), .ro (.int m), s3, s4] ∧ Holds0 s0 y.toD ∧ y.dep = x.dep + (k + 1) ∧ ∀ h w : Nat, x.In 0 h 0 w → y.In 0 h 0 w := fun z s4' _ h1 h2 => ⟨z, _, _, _, rfl, .inr rfl, by omega, fun h w q => h2 h w (hi h w q)⟩
    rcases c4 with e | e | e | e
    · refine ⟨_, ?_, fin (.op .add y (.num (0 + (k : Int)))) (.ow (.int 0)) ⟨_, rfl, trivial⟩ (by simp only [Ru.dep]; have := y.dep_pos; omega) fun h w q => ⟨q, trivial⟩⟩
      simp -implicitDefEqProofs [v, m1, e, Ru.toD, Op.nm, -Int.zero_add]
    · refine ⟨_, ?_, fin (.op .mul (.num (0 + (k : Int) + 1)) y) (.ow (.int 1)) ⟨_, rfl, trivial⟩ (by simp only [Ru.dep]; have := y.dep_pos; omega) fun h w q => ⟨trivial, q⟩⟩
      simp -implicitDefEqProofs [v, m1, e, Ru.toD, Op.nm, -Int.zero_add]
    · refine ⟨_, ?_, fin (.pick (.num ((0 + (k : Int)) % 2)) y (.num (0 + (k : Int)))) (.ow (.int 2)) ⟨_, rfl, trivial⟩ (by simp only [Ru.dep]; have := y.dep_pos; omega) fun h w q => ⟨trivial, q, trivial⟩⟩
      simp -implicitDefEqProofs [v, m1, e, Ru.toD, Op.nm, -Int.zero_add]
    · refine ⟨_, ?_, fin (.op .sub (.num (0 + (k : Int))) y) (.ow (.int 3)) ⟨_, rfl, trivial⟩ (by simp only [Ru.dep]; have := y.dep_pos; omega) fun h w q => ⟨trivial, q⟩⟩
      simp -implicitDefEqProofs [v, m1, e, Ru.toD, Op.nm, -Int.zero_add]
  · rintro _ ⟨y, s0, s3, s4, rfl, hs, hd, hi⟩
    exact ⟨y, hs.give y.imm, hd, hi⟩
end Rs

set_option maxRecDepth 100000
/-! RsH: rules shifted; rules copied into areas. -/
namespace Rs
open PySem PySem.Spec PyProof.Rows L2
def m_moved : Evn → RS :=
    (mSeq (mSet 3 (mImm (mBinE gIx (mVar 0) (mC (.int 0)))))
    (mSeq (mSet 4 (mImm (mBinE gIx (mVar 0) (mC (.int 1)))))
    (mSeq (mIf (cNot (mTest (mBinE gIx (mVar 0) (mC (.int 2))))) (mSet 3 (mBin gAdd (mVar 3) (mVar 1))) mNx)
    (mSeq (mIf (cNot (mTest (mBinE gIx (mVar 0) (mC (.int 3))))) (mSet 4 (mBin gAdd (mVar 4) (mVar 2))) mNx)
    (mRet (mTup (mCons (mImm (mVar 3)) (mCons (mImm (mVar 4)) (mCons (mImm (mBinE gIx (mVar 0) (mC (.int 2)))) (mCons (mImm (mBinE gIx (mVar 0) (mC (.int 3)))) mNil))))))))))
def f_moved : List D → R D := runP 3 5 m_moved
def m_shifted (g : List D → R D) : Evn → RS :=
    (mSeq (mSet 3 (mImm (mBinE gIx (mVar 0) (mC (.int 0)))))
    (mSeq (mIf (mTest (mBin gEq (mVar 3) (mC (.str "num")))) (mRetV 0) mNx)
    (mSeq (mIf (mTest (mBin gEq (mVar 3) (mC (.str "cell")))) (mRet (mTup (mCons (mImm (mVar 3)) (mCons (mApp 3 f_moved (mCons (mBinE gIx (mVar 0) (mC (.int 1))) (mCons (mVar 1) (mCons (mVar 2) mNil)))) mNil)))) mNx)
    (mSeq (mIf (cOr (mTest (mBin gEq (mVar 3) (mC (.str "sum")))) (mTest (mBin gEq (mVar 3) (mC (.str "most"))))) (mRet (mTup (mCons (mImm (mVar 3)) (mCons (mApp 3 f_moved (mCons (mBinE gIx (mVar 0) (mC (.int 1))) (mCons (mVar 1) (mCons (mVar 2) mNil)))) (mCons (mApp 3 f_moved (mCons (mBinE gIx (mVar 0) (mC (.int 2))) (mCons (mVar 1) (mCons (mVar 2) mNil)))) mNil))))) mNx)
    (mSeq (mIf (mTest (mBin gEq (mVar 3) (mC (.str "look")))) (mSeq (mSet 4 (mApp 3 g (mCons (mBinE gIx (mVar 0) (mC (.int 1))) (mCons (mVar 1) (mCons (mVar 2) mNil)))))
    (mSeq (mSet 5 (mApp 3 g (mCons (mBinE gIx (mVar 0) (mC (.int 4))) (mCons (mVar 1) (mCons (mVar 2) mNil)))))
    (mRet (mTup (mCons (mImm (mVar 3)) (mCons (mImm (mVar 4)) (mCons (mApp 3 f_moved (mCons (mBinE gIx (mVar 0) (mC (.int 2))) (mCons (mVar 1) (mCons (mVar 2) mNil)))) (mCons (mApp 3 f_moved (mCons (mBinE gIx (mVar 0) (mC (.int 3))) (mCons (mVar 1) (mCons (mVar 2) mNil)))) (mCons (mImm (mVar 5)) mNil))))))))) mNx)
    (mRet (mCall gTuple (mCons (mBin gAdd (mLst (mCons (mImm (mVar 3)) mNil)) (mLc 6 (mSl (mVar 0) (mPart (mC (.int 1))) mNoPart) mYes (mApp 3 g (mCons (mVar 6) (mCons (mVar 1) (mCons (mVar 2) mNil)))))) mNil))))))))
def f_shifted_ : Nat → List D → R D
  | 0 => fun _ => .no
  | n + 1 => runP 3 7 (m_shifted (f_shifted_ n))
def m_Sh_filled : Evn → RS :=
    (mSeq (mDrop (mMeth 2 f_Sh_need (mVar 0) (mCons (mLst (mCons (mImm (mVar 1)) (mCons (mImm (mVar 2)) (mCons (mImm (mVar 3)) mNil)))) mNil)))
    (mSeq (mSet 4 (mMeth 2 f_Sh_rule (mVar 0) (mCons (mVar 1) mNil)))
    (mSeq (mSet 5 mDT)
    (mSeq (mFor 6 (mApp 2 f_area (mCons (mVar 2) (mCons (mVar 3) mNil))) (mSeq (mPut 5 pRoot (mVar 6) (mApp 3 (f_shifted_ 40) (mCons (mVar 4) (mCons (mBin gSub (mBinE gIx (mVar 6) (mC (.int 0))) (mBinE gIx (mVar 1) (mC (.int 0)))) (mCons (mBin gSub (mBinE gIx (mVar 6) (mC (.int 1))) (mBinE gIx (mVar 1) (mC (.int 1)))) mNil)))))
    (mDrop (mMeth 2 f_Sh_need (mVar 0) (mCons (mApp 1 (f_all_references_ 40) (mCons (mBinE gIx (mVar 5) (mVar 6)) mNil)) mNil)))))
    (mFrz (6 :: []) 5 (mForK 6 5 (mPut 0 (pFld 0 2) (mVar 6) (mImm (mBinE gIx (mVar 5) (mVar 6))))))))))
def f_Sh_filled : List D → RM := runM 4 7 m_Sh_filled
def m_Sh_copied : Evn → RS :=
    (xDrop 0 (xMeth 4 f_Sh_filled 0 (mCons (mVar 1) (mCons (mVar 2) (mCons (mVar 2) mNil)))))
def f_Sh_copied : List D → RM := runM 3 3 m_Sh_copied
def Ref.sh (d c : Int) (x : Ref) : Ref := ⟨if x.sr then x.r else x.r + d, if x.sc then x.c else x.c + c, x.sr, x.sc⟩
def Ru.sh (d c : Int) : Ru → Ru
  | .num i => .num i
  | .cell a => .cell (a.sh d c)
  | .sum a b => .sum (a.sh d c) (b.sh d c)
  | .most a b => .most (a.sh d c) (b.sh d c)
  | .op w x y => .op w (x.sh d c) (y.sh d c)
  | .pick x y z => .pick (x.sh d c) (y.sh d c) (z.sh d c)
  | .look k a b o => .look (k.sh d c) (a.sh d c) (b.sh d c) (o.sh d c)
theorem Ref.sh_back (d c : Int) (x : Ref) : (x.sh d c).sh (0 - d) (0 - c) = x := by
  obtain ⟨r, k, sr, sc⟩ := x
  cases sr <;> cases sc <;> simp [Ref.sh] <;> omega
theorem Ru.sh_back (d c : Int) : ∀ x : Ru, (x.sh d c).sh (0 - d) (0 - c) = x
  | .num i => rfl
  | .cell a => by simp only [Ru.sh, Ref.sh_back]
  | .sum a b => by simp only [Ru.sh, Ref.sh_back]
  | .most a b => by simp only [Ru.sh, Ref.sh_back]
  | .op w x y => by simp only [Ru.sh, Ru.sh_back]
  | .pick x y z => by simp only [Ru.sh, Ru.sh_back]
  | .look k a b o => by simp only [Ru.sh, Ref.sh_back, Ru.sh_back]
theorem Ru.sh_dep (d c : Int) : ∀ x : Ru, (x.sh d c).dep = x.dep
  | .num i => rfl
  | .cell a => rfl
  | .sum a b => rfl
  | .most a b => rfl
  | .op w x y => by simp only [Ru.sh, Ru.dep, Ru.sh_dep d c x, Ru.sh_dep d c y]
  | .pick x y z => by simp only [Ru.sh, Ru.dep, Ru.sh_dep d c x, Ru.sh_dep d c y, Ru.sh_dep d c z]
  | .look k a b o => by simp only [Ru.sh, Ru.dep, Ru.sh_dep d c k, Ru.sh_dep d c o]
theorem moved_run (x : Ref) (d c : Int) : f_moved [x.toD, .int d, .int c] = .ok (x.sh d c).toD := by
  obtain ⟨r, k, sr, sc⟩ := x
  unfold f_moved
  rw [run_out]
  unfold m_moved Ref.toD Ref.sh
  cases sr <;> cases sc <;> simp -implicitDefEqProofs
theorem shifted_run (d c : Int) : ∀ (n : Nat) (x : Ru), x.dep ≤ n → f_shifted_ n [x.toD, .int d, .int c] = .ok (x.sh d c).toD
  | 0, x, h => by have := x.dep_pos; omega
  | n + 1, x, h => by
    have ih := shifted_run d c n
    unfold f_shifted_
    rw [run_out]
    unfold m_shifted
    cases x with
    | num i => simp -implicitDefEqProofs [Ru.toD, Ru.sh]
    | cell a => simp -implicitDefEqProofs [Ru.toD, Ru.sh, moved_run]
    | sum a b => simp -implicitDefEqProofs [Ru.toD, Ru.sh, moved_run]
    | most a b => simp -implicitDefEqProofs [Ru.toD, Ru.sh, moved_run]
    | op w x y =>
      simp only [Ru.dep] at h
      have hx := ih x (by omega)
      have hy := ih y (by omega)
      cases w <;> simp -implicitDefEqProofs [Ru.toD, Ru.sh, Op.nm, lcR, hx, hy]
    | pick x y z =>
      simp only [Ru.dep] at h
      have hx := ih x (by omega)
      have hy := ih y (by omega)
      have hz := ih z (by omega)
      simp -implicitDefEqProofs [Ru.toD, Ru.sh, lcR, hx, hy, hz]
    | look k a b o =>
      simp only [Ru.dep] at h
      have hx := ih k (by omega)
      have hy := ih o (by omega)
      simp -implicitDefEqProofs [Ru.toD, Ru.sh, moved_run, hx, hy]
theorem exF {α : Type} {F : RS → α} {s : Evn → RS} {ρ : Evn} {r : α} {P : Evn → Prop} (h1 : ∃ ρ', s ρ = .nx ρ' ∧ P ρ') (h2 : ∀ ρ', P ρ' → F (.nx ρ') = r) : F (s ρ) = r := by
  obtain ⟨ρ', e, p⟩ := h1
  rw [e]
  exact h2 ρ' p
theorem areaP_nd {a b c d : Int} : (areaP a b c d).Nodup := boxP_nd
theorem area_on {h w : Nat} {a b : Int × Int} (ha : onP h w a = true) (hb : onP h w b = true) {p : Int × Int} (hp : p ∈ areaP a.1 a.2 b.1 b.2) : p ∈ boxP 0 h 0 w := by
  have ha := mem_boxP.mp (onP_iff.mp ha)
  have hb := mem_boxP.mp (onP_iff.mp hb)
  rw [mem_areaP] at hp
  rw [mem_boxP]
  omega
theorem area_small {h w : Nat} {a b : Int × Int} (hs : h * w < 100000) (ha : onP h w a = true) (hb : onP h w b = true) : (areaP a.1 a.2 b.1 b.2).length < 100000 := by
  have := nodup_len areaP_nd (fun p hp => area_on ha hb (p := p) hp)
  rw [boxP_len] at this
  omega
theorem area_pairs {a b : Int × Int} (hl : (areaP a.1 a.2 b.1 b.2).length < 100000) : f_area [pairD a, pairD b] = .ok (.node .lst ((areaP a.1 a.2 b.1 b.2).map pairD)) := by
  refine area_run ?_
  unfold areaP at hl
  rw [boxP_len] at hl
  exact hl
/-- the rule at s, shifted to q -/
def toP' (x : Ru) (s q : Int × Int) : Ru := x.sh (q.1 - s.1) (q.2 - s.2)
def fillR (rl : Int × Int → Ru) (s : Int × Int) (L : List (Int × Int)) : Int × Int → Ru := fun q => if q ∈ L then toP' (rl s) s q else rl q
theorem fillR_nil {rl : Int × Int → Ru} {s : Int × Int} : fillR rl s [] = rl := funext fun q => by simp [fillR]
section
variable {h w : Nat} {rl : Int × Int → Ru} {s a b : Int × Int}
theorem copies_loop (x : Ru) (hx : x.dep ≤ 10) (L : List (Int × Int)) (hnd : L.Nodup) (hl : L.length < 100000) : ∀ (j k : Nat) (s6 : Slot), L.length - k = j → k ≤ L.length →
    ((∀ p ∈ L.drop k, (toP' x s p).In 0 h 0 w) ∧ ∃ s6', forL 6 (mSeq (mPut 5 pRoot (mVar 6) (mApp 3 (f_shifted_ 40) (mCons (mVar 4) (mCons (mBin gSub (mBinE gIx (mVar 6) (mC (.int 0))) (mBinE gIx (mVar 1) (mC (.int 0)))) (mCons (mBin gSub (mBinE gIx (mVar 6) (mC (.int 1))) (mBinE gIx (mVar 1) (mC (.int 1)))) mNil)))))
    (mDrop (mMeth 2 f_Sh_need (mVar 0) (mCons (mApp 1 (f_all_references_ 40) (mCons (mBinE gIx (mVar 5) (mVar 6)) mNil)) mNil)))) ((L.drop k).map pairD) [.ow (shD h w rl), .ro (pairD s), .ro (pairD a), .ro (pairD b), .ow x.toD, .ow (dF (L.take k) fun q => (toP' x s q).toD), s6]
      = .nx [.ow (shD h w rl), .ro (pairD s), .ro (pairD a), .ro (pairD b), .ow x.toD, .ow (dF L fun q => (toP' x s q).toD), s6']) ∨
    ((¬ ∀ p ∈ L.drop k, (toP' x s p).In 0 h 0 w) ∧ ∃ ρ', forL 6 (mSeq (mPut 5 pRoot (mVar 6) (mApp 3 (f_shifted_ 40) (mCons (mVar 4) (mCons (mBin gSub (mBinE gIx (mVar 6) (mC (.int 0))) (mBinE gIx (mVar 1) (mC (.int 0)))) (mCons (mBin gSub (mBinE gIx (mVar 6) (mC (.int 1))) (mBinE gIx (mVar 1) (mC (.int 1)))) mNil)))))
    (mDrop (mMeth 2 f_Sh_need (mVar 0) (mCons (mApp 1 (f_all_references_ 40) (mCons (mBinE gIx (mVar 5) (mVar 6)) mNil)) mNil)))) ((L.drop k).map pairD) [.ow (shD h w rl), .ro (pairD s), .ro (pairD a), .ro (pairD b), .ow x.toD, .ow (dF (L.take k) fun q => (toP' x s q).toD), s6]
      = .exc 2 (.ow (shD h w rl) :: ρ')) := by
  intro j
  induction j with
  | zero =>
    intro k s6 hj hk
    have e : k = L.length := by omega
    subst e
    rw [List.drop_length, List.take_length]
    exact .inl ⟨fun p hp => (by cases hp), s6, by simp⟩
  | succ j ih =>
    intro k s6 hj hk
    have hlt : k < L.length := by omega
    have hd : L.drop k = L[k] :: L.drop (k + 1) := List.drop_eq_getElem_cons hlt
    rw [hd, List.map_cons]
    have pt := put_same (ks := L.take k) (v := fun q => (toP' x s q).toD) (p := L[k]) (by rw [List.length_take]; omega) (toP' x s L[k]).imm
    have e1 : insK (L.take k) L[k] = L.take (k + 1) := by
      unfold insK
      rw [if_neg (take_nd hnd hlt)]
      simp
    rw [e1] at pt
    have sr := shifted_run (L[k].1 - s.1) (L[k].2 - s.2) 40 x (by omega)
    have sr' : f_shifted_ 40 [x.toD, .int (L[k].1 - s.1), .int (L[k].2 - s.2)] = .ok (toP' x s L[k]).toD := sr
    have gk := ix_dF (v := fun q => (toP' x s q).toD) (ks := L.take (k + 1)) (p := L[k]) (by
      rw [List.take_succ_eq_append_getElem hlt]
      exact List.mem_append_right _ (List.mem_singleton.mpr rfl))
    have hdep : (toP' x s L[k]).dep ≤ 10 := by unfold toP'; rw [Ru.sh_dep]; exact hx
    have ar := allr_run 40 (toP' x s L[k]) (by omega) hdep
    have rn := refs_need (h := h) (w := w) (toP' x s L[k]) (xs := [dF (boxP 0 h 0 w) fun p => (rl p).toD])
    by_cases hi : (toP' x s L[k]).In 0 h 0 w
    · rw [if_pos hi] at rn
      have rn' : f_Sh_need [shD h w rl, .node .lst ((toP' x s L[k]).allr.map Ref.toD)] = .ok .non := rn
      rcases ih (k + 1) (.ro (pairD L[k])) (by omega) (by omega) with ⟨h1, s6', e⟩ | ⟨h1, ρ', e⟩
      · refine .inl ⟨fun p hp => ?_, s6', ?_⟩
        · rcases List.mem_cons.mp hp with rfl | hp
          · exact hi
          · exact h1 p hp
        · rw [forL_cons]
          simp -implicitDefEqProofs [-List.map_take, -List.map_drop, -List.take_append_getElem, sr', pt, gk, ar, rn', e]
      · refine .inr ⟨fun q => h1 fun p hp => q p (List.mem_cons_of_mem _ hp), ρ', ?_⟩
        rw [forL_cons]
        simp -implicitDefEqProofs [-List.map_take, -List.map_drop, -List.take_append_getElem, sr', pt, gk, ar, rn', e]
    · rw [if_neg hi] at rn
      have rn' : f_Sh_need [shD h w rl, .node .lst ((toP' x s L[k]).allr.map Ref.toD)] = .exc 2 := rn
      refine .inr ⟨fun q => hi (q _ List.mem_cons_self), [.ro (pairD s), .ro (pairD a), .ro (pairD b), .ow x.toD, .ow (dF (L.take (k + 1)) fun q => (toP' x s q).toD), .ro (pairD L[k])], ?_⟩
      rw [forL_cons]
      simp -implicitDefEqProofs [-List.map_take, -List.map_drop, -List.take_append_getElem, sr', pt, gk, ar, rn']
theorem fill_loop (hs : h * w < 100000) (x : Ru) (hx : rl s = x) (L : List (Int × Int)) (hL : ∀ p ∈ L, p ∈ boxP 0 h 0 w) (s1 s2 s3 s4 s6 : Slot) :
    ∃ ρ', mForK 6 5 (mPut 0 (pFld 0 2) (mVar 6) (mImm (mBinE gIx (mVar 5) (mVar 6)))) [.ow (shD h w rl), s1, s2, s3, s4, .ro (dF L fun q => (toP' x s q).toD), s6] = .nx ρ' ∧ ∃ s6', ρ' = [.ow (shD h w (fillR rl s L)), s1, s2, s3, s4, .ro (dF L fun q => (toP' x s q).toD), s6'] := by
  have hb : (boxP 0 h 0 w).length < 100000 := by rw [boxP_len]; exact hs
  obtain ⟨ρ', e, s6', e2⟩ := forK_ex (i := 6) (r := 5) (ks := L) (vs := L.map fun q => (toP' x s q).toD) (body := mPut 0 (pFld 0 2) (mVar 6) (mImm (mBinE gIx (mVar 5) (mVar 6)))) (ρ := [.ow (shD h w rl), s1, s2, s3, s4, .ro (dF L fun q => (toP' x s q).toD), s6])
    (fun k ρ => ∃ s6', ρ = [.ow (shD h w (fillR rl s (L.take k))), s1, s2, s3, s4, .ro (dF L fun q => (toP' x s q).toD), s6']) rfl ⟨s6, by rw [List.take_zero, fillR_nil]⟩ (by
      rintro k p _ hk ⟨s6', rfl⟩
      have hlt := (List.getElem?_eq_some_iff.mp hk).1
      have ek := (List.getElem?_eq_some_iff.mp hk).2
      have hp := List.mem_of_getElem? hk
      have g := ix_dF (v := fun q => (toP' x s q).toD) hp
      have pr := put_rules (rl := fillR rl s (L.take k)) (x := toP' x s p) hb (hL p hp)
      have e : setR (fillR rl s (L.take k)) p (toP' x s p) = fillR rl s (L.take (k + 1)) := by
        funext q
        unfold setR fillR
        rw [List.take_succ_eq_append_getElem hlt, ek]
        by_cases e : q = p
        · subst e
          simp [hx]
        · simp [e]
      rw [e] at pr
      refine ⟨_, ?_, .ro (pairD p), rfl⟩
      unfold shD
      simp -implicitDefEqProofs [-List.map_take, g, pr])
  exact ⟨ρ', e, s6', by rw [e2, List.take_length]⟩
/-- whether all copies lie on the sheet -/
def FillOk (h w : Nat) (rl : Int × Int → Ru) (s a b : Int × Int) : Prop := (onP h w s = true ∧ onP h w a = true ∧ onP h w b = true) ∧ ∀ p ∈ areaP a.1 a.2 b.1 b.2, (toP' (rl s) s p).In 0 h 0 w
theorem filled_run (hs : h * w < 100000) (hd : ∀ p, (rl p).dep ≤ 10) : (FillOk h w rl s a b ∧ f_Sh_filled [shD h w rl, pairD s, pairD a, pairD b] = .ok (shD h w (fillR rl s (areaP a.1 a.2 b.1 b.2))) .non) ∨
    (¬ FillOk h w rl s a b ∧ f_Sh_filled [shD h w rl, pairD s, pairD a, pairD b] = .exc 2 (shD h w rl)) := by
  have nr := need_run (h := h) (w := w) (xs := [dF (boxP 0 h 0 w) fun p => (rl p).toD]) (L := [pairD s, pairD a, pairD b]) (by
    intro d hd
    simp only [List.mem_cons, List.not_mem_nil, or_false] at hd
    rcases hd with rfl | rfl | rfl <;> exact isPos_pair _)
  have nr' : f_Sh_need [shD h w rl, .node .lst [pairD s, pairD a, pairD b]] = if ([pairD s, pairD a, pairD b].all fun d => onP h w (posD d)) = true then .ok .non else .exc 2 := nr
  have ea : ([pairD s, pairD a, pairD b].all fun d => onP h w (posD d)) = true ↔ onP h w s = true ∧ onP h w a = true ∧ onP h w b = true := by simp
  unfold f_Sh_filled
  rw [run_outM]
  change (_ ∧ outM (m_Sh_filled [.ow (shD h w rl), .ro (pairD s), .ro (pairD a), .ro (pairD b), .un, .un, .un]) = _) ∨ (_ ∧ outM (m_Sh_filled [.ow (shD h w rl), .ro (pairD s), .ro (pairD a), .ro (pairD b), .un, .un, .un]) = _)
  unfold m_Sh_filled
  by_cases ho : onP h w s = true ∧ onP h w a = true ∧ onP h w b = true
  · rw [if_pos (ea.mpr ho)] at nr'
    have rr := rule_run (h := h) (w := w) (rl := rl) (p := s)
    rw [if_pos ho.1] at rr
    have al := area_small hs ho.2.1 ho.2.2
    have ar := area_pairs al
    rcases copies_loop (h := h) (w := w) (rl := rl) (s := s) (a := a) (b := b) (rl s) (hd s) (areaP a.1 a.2 b.1 b.2) areaP_nd al _ 0 .un rfl (Nat.zero_le _) with ⟨h1, s6', e⟩ | ⟨h1, ρ', e⟩
    · rw [List.drop_zero] at h1 e
      refine .inl ⟨⟨ho, h1⟩, ?_⟩
      refine seqF (ρ' := [.ow (shD h w rl), .ro (pairD s), .ro (pairD a), .ro (pairD b), .un, .un, .un]) (by simp -implicitDefEqProofs [nr']) ?_
      refine seqF (ρ' := [.ow (shD h w rl), .ro (pairD s), .ro (pairD a), .ro (pairD b), .ow (rl s).toD, .un, .un]) (by simp -implicitDefEqProofs [rr]) ?_
      refine seqF (ρ' := [.ow (shD h w rl), .ro (pairD s), .ro (pairD a), .ro (pairD b), .ow (rl s).toD, .ow (dF [] fun q => (toP' (rl s) s q).toD), .un]) (by simp -implicitDefEqProofs [mDT]) ?_
      refine seqF (ρ' := [.ow (shD h w rl), .ro (pairD s), .ro (pairD a), .ro (pairD b), .ow (rl s).toD, .ow (dF (areaP a.1 a.2 b.1 b.2) fun q => (toP' (rl s) s q).toD), s6']) (by
        rw [ap_for]
        simp -implicitDefEqProofs only [ap_app, ap_cons, ap_nil, ap_var, List.getElem?_cons_succ, List.getElem?_cons_zero, Slot.val_ro, R.bind_ok, List.length_cons, List.length_nil, if_true, ar, R.toS_ok, sq_lst, oS_some]
        exact e) ?_
      refine exF (F := outM) (P := fun ρ => ∃ tl, ρ = .ow (shD h w (fillR rl s (areaP a.1 a.2 b.1 b.2))) :: tl) (frz_ex (d := dF (areaP a.1 a.2 b.1 b.2) fun q => (toP' (rl s) s q).toD) rfl ?_) ?_
      · obtain ⟨ρ2, e2, s6'', e3⟩ := fill_loop (rl := rl) (s := s) hs (rl s) rfl (areaP a.1 a.2 b.1 b.2) (fun p hp => area_on ho.2.1 ho.2.2 hp) (.ro (pairD s)) (.ro (pairD a)) (.ro (pairD b)) (.ow (rl s).toD) s6'
        refine ⟨ρ2, e2, ?_⟩
        subst e3
        exact ⟨_, rfl⟩
      · rintro _ ⟨tl, rfl⟩
        rfl
    · rw [List.drop_zero] at h1 e
      refine .inr ⟨fun q => h1 q.2, ?_⟩
      refine seqF (ρ' := [.ow (shD h w rl), .ro (pairD s), .ro (pairD a), .ro (pairD b), .un, .un, .un]) (by simp -implicitDefEqProofs [nr']) ?_
      refine seqF (ρ' := [.ow (shD h w rl), .ro (pairD s), .ro (pairD a), .ro (pairD b), .ow (rl s).toD, .un, .un]) (by simp -implicitDefEqProofs [rr]) ?_
      refine seqF (ρ' := [.ow (shD h w rl), .ro (pairD s), .ro (pairD a), .ro (pairD b), .ow (rl s).toD, .ow (dF [] fun q => (toP' (rl s) s q).toD), .un]) (by simp -implicitDefEqProofs [mDT]) ?_
      rw [ap_seq, ap_for]
      simp -implicitDefEqProofs only [ap_app, ap_cons, ap_nil, ap_var, List.getElem?_cons_succ, List.getElem?_cons_zero, Slot.val_ro, R.bind_ok, List.length_cons, List.length_nil, if_true, ar, R.toS_ok, sq_lst, oS_some]
      rw [List.take_zero] at e
      rw [e]
      rfl
  · rw [if_neg fun q => ho (ea.mp q)] at nr'
    refine .inr ⟨fun q => ho q.1, ?_⟩
    simp -implicitDefEqProofs [nr']
theorem copied_run {s t : Int × Int} {rm : RM} (h1 : f_Sh_filled [shD h w rl, pairD s, pairD t, pairD t] = rm) (h2 : (∃ rl', rm = .ok (shD h w rl') .non) ∨ ∃ c, rm = .exc c (shD h w rl)) : f_Sh_copied [shD h w rl, pairD s, pairD t] = rm := by
  unfold f_Sh_copied
  rw [run_outM]
  unfold m_Sh_copied
  rcases h2 with ⟨rl', rfl⟩ | ⟨c, rfl⟩ <;> simp -implicitDefEqProofs [h1]
end
end Rs

set_option maxRecDepth 100000
/-! RsP1: which cell needs which, rings, values: plain mathematics. -/
namespace Rs
open PySem PySem.Spec PyProof.Rows L2
abbrev Pl : Type := Int × Int
/-- the places that a rule names, in the order of its parts -/
def Ru.lst : Ru → List Pl
  | .num _ => []
  | .cell a => [(a.r, a.c)]
  | .sum a b => areaP a.r a.c b.r b.c
  | .most a b => areaP a.r a.c b.r b.c
  | .op _ x y => x.lst ++ y.lst
  | .pick x y z => x.lst ++ y.lst ++ z.lst
  | .look k a b o => k.lst ++ areaP a.r a.c b.r b.c ++ o.lst
theorem mem_cellP {r c : Int} {p : Pl} : p ∈ areaP r c r c ↔ p = (r, c) := by
  rw [mem_areaP, Prod.ext_iff]
  simp only
  omega
theorem Ru.lst_mem {p : Pl} : ∀ x : Ru, p ∈ x.lst ↔ x.Nam p
  | .num _ => by simp [Ru.lst, Ru.Nam]
  | .cell a => by simp [Ru.lst, Ru.Nam, mem_cellP]
  | .sum a b => Iff.rfl
  | .most a b => Iff.rfl
  | .op _ x y => by simp [Ru.lst, Ru.Nam, Ru.lst_mem x, Ru.lst_mem y]
  | .pick x y z => by simp [Ru.lst, Ru.Nam, Ru.lst_mem x, Ru.lst_mem y, Ru.lst_mem z, or_assoc]
  | .look k a b o => by
    simp only [Ru.lst, Ru.Nam, List.mem_append, Ru.lst_mem k, Ru.lst_mem o]
    constructor
    · rintro ((h | h) | h)
      · exact .inr (.inl h)
      · exact .inl h
      · exact .inr (.inr h)
    · rintro (h | h | h)
      · exact .inl (.inr h)
      · exact .inl (.inl h)
      · exact .inr h
theorem scanL_congr {f g : Pl → Int} {l r key : Int} : ∀ {rs : List Int}, (∀ x ∈ rs, f (x, l) = g (x, l) ∧ f (x, r) = g (x, r)) → scanL f l r key rs = scanL g l r key rs
  | [], _ => rfl
  | x :: rs, h => by
    unfold scanL
    rw [(h x (by simp)).1, (h x (by simp)).2, scanL_congr fun y hy => h y (by simp [hy])]
theorem Ru.ev_congr {f g : Pl → Int} : ∀ x : Ru, (∀ p ∈ x.lst, f p = g p) → x.ev f = x.ev g
  | .num i, _ => rfl
  | .cell a, h => h (a.r, a.c) (by simp [Ru.lst])
  | .sum a b, h => by
    have h' : ∀ p ∈ areaP a.r a.c b.r b.c, f p = g p := h
    unfold Ru.ev
    rw [List.map_congr_left h']
  | .most a b, h => by
    have h' : ∀ p ∈ areaP a.r a.c b.r b.c, f p = g p := h
    unfold Ru.ev
    rw [List.map_congr_left h']
  | .op w x y, h => by
    unfold Ru.ev
    rw [Ru.ev_congr x fun p hp => h p (by simp [Ru.lst, hp]), Ru.ev_congr y fun p hp => h p (by simp [Ru.lst, hp])]
  | .pick x y z, h => by
    unfold Ru.ev
    rw [Ru.ev_congr x fun p hp => h p (by simp [Ru.lst, hp]), Ru.ev_congr y fun p hp => h p (by simp [Ru.lst, hp]), Ru.ev_congr z fun p hp => h p (by simp [Ru.lst, hp])]
  | .look k a b o, h => by
    unfold Ru.ev
    rw [Ru.ev_congr k fun p hp => h p (by simp [Ru.lst, hp]), Ru.ev_congr o fun p hp => h p (by simp [Ru.lst, hp])]
    rw [scanL_congr (f := f) (g := g) fun x hx => ⟨h _ (by simp [Ru.lst, (rows_area hx).1]), h _ (by simp [Ru.lst, (rows_area hx).2])⟩]
section
variable (rl : Pl → Ru)
/-- q is named by the rule at p -/
def Nd (q p : Pl) : Prop := q ∈ (rl p).lst
instance (q p : Pl) : Decidable (Nd rl q p) := inferInstanceAs (Decidable (q ∈ (rl p).lst))
/-- no ring can be come to from p -/
def Good (p : Pl) : Prop := Acc (Nd rl) p
theorem Good.mk {rl : Pl → Ru} {p : Pl} (h : ∀ q, Nd rl q p → Good rl q) : Good rl p := Acc.intro p h
theorem Good.inv {rl : Pl → Ru} {p q : Pl} (h : Good rl p) (n : Nd rl q p) : Good rl q := Acc.inv h n
open Classical in
noncomputable def evAcc (p : Pl) (h : Acc (Nd rl) p) : Int := Acc.rec (motive := fun _ _ => Int) (fun p _ ih => (rl p).ev fun q => if hq : Nd rl q p then ih q hq else 0) h
open Classical in
/-- the value of a cell -/
noncomputable def Sv (p : Pl) : Int := if h : Acc (Nd rl) p then evAcc rl p h else 0
end
section
variable {rl : Pl → Ru}
theorem evAcc_eq {p : Pl} (h : Acc (Nd rl) p) : evAcc rl p h = (rl p).ev (Sv rl) := by
  cases h with
  | intro _ h =>
    show (rl p).ev (fun q => if hq : Nd rl q p then evAcc rl q (h q hq) else 0) = _
    refine Ru.ev_congr _ fun q hq => ?_
    have hq' : Nd rl q p := hq
    simp only [hq', dif_pos]
    unfold Sv
    rw [dif_pos (h q hq')]
theorem Sv_eq {p : Pl} (h : Good rl p) : Sv rl p = (rl p).ev (Sv rl) := by
  have h' : Acc (Nd rl) p := h
  rw [← evAcc_eq h']
  unfold Sv
  rw [dif_pos h']
theorem Sv_fit : Fits (Sv rl) := by
  intro p
  by_cases h : Acc (Nd rl) p
  · induction h with
    | intro p hp ih =>
      have g : Good rl p := Acc.intro p hp
      rw [Sv_eq g]
      have e : (rl p).ev (Sv rl) = (rl p).ev fun q => if q ∈ (rl p).lst then Sv rl q else 0 := Ru.ev_congr _ fun q hq => by simp [hq]
      rw [e]
      refine (rl p).ev_fit fun q => ?_
      split
      · rename_i hq
        exact ih q hq
      · omega
  · unfold Sv
    rw [dif_neg h]
    omega
/-- values that keep the rules where no ring is come to are the values -/
theorem Sv_uniq {V : Pl → Int} (hV : ∀ p, Good rl p → V p = (rl p).ev V) {p : Pl} (h : Good rl p) : V p = Sv rl p := by
  have h' : Acc (Nd rl) p := h
  induction h' with
  | intro p hp ih =>
    rw [hV p h, Sv_eq h]
    exact Ru.ev_congr _ fun q hq => ih q hq (hp q hq)
/-- the places that s touches -/
inductive Tch (rl : Pl → Ru) (B : List Pl) (s : Pl) : Pl → Prop
  | base : Tch rl B s s
  | step {p q : Pl} (h : Tch rl B s q) (n : Nd rl q p) (hp : p ∈ B) : Tch rl B s p
theorem Tch.sub {B : List Pl} {s p : Pl} (hs : s ∈ B) (h : Tch rl B s p) : p ∈ B := by
  cases h with
  | base => exact hs
  | step _ _ hp => exact hp
end
/-! ### a sheet that holds rules as it should -/
structure ShOk (h w : Nat) (rl : Pl → Ru) : Prop where
  hh : 0 < h ∧ h ≤ 12
  hw : 0 < w ∧ w ≤ 12
  dep : ∀ p, (rl p).dep ≤ 8
  box : ∀ p, p ∈ boxP 0 h 0 w → (rl p).In 0 h 0 w
section
variable {h w : Nat} {rl : Pl → Ru}
theorem ShOk.sm (k : ShOk h w rl) : h * w < 100000 := by
  have := Nat.mul_le_mul k.hh.2 k.hw.2
  omega
theorem ShOk.sm2 (k : ShOk h w rl) : h * w ≤ 144 := Nat.mul_le_mul k.hh.2 k.hw.2
theorem ShOk.len (k : ShOk h w rl) : (boxP 0 h 0 w).length ≤ 144 := by rw [boxP_len]; exact k.sm2
theorem ShOk.nd (k : ShOk h w rl) {p q : Pl} (hp : p ∈ boxP 0 h 0 w) (n : Nd rl q p) : q ∈ boxP 0 h 0 w := (rl p).nam_In (k.box p hp) ((Ru.lst_mem _).mp n)
theorem ShOk.set (k : ShOk h w rl) {p : Pl} {x : Ru} (hd : x.dep ≤ 8) (hi : x.In 0 h 0 w) : ShOk h w (setR rl p x) := by
  refine ⟨k.hh, k.hw, fun q => ?_, fun q hq => ?_⟩
  · unfold setR; split
    · exact hd
    · exact k.dep q
  · unfold setR; split
    · exact hi
    · exact k.box q hq
theorem ShOk.noughts (hh : 0 < h ∧ h ≤ 12) (hw : 0 < w ∧ w ≤ 12) : ShOk h w fun _ => .num 0 := ⟨hh, hw, fun _ => by simp [Ru.dep], fun _ _ => trivial⟩
end
/-- the places that a rule needs, each once, rising -/
def needP (h w : Nat) (x : Ru) : List Pl := (boxP 0 h 0 w).filter fun p => decide (p ∈ x.lst)
def usersP (h w : Nat) (rl : Pl → Ru) (p : Pl) : List Pl := (boxP 0 h 0 w).filter fun q => decide (Nd rl p q)
theorem mem_needP {h w : Nat} {x : Ru} {p : Pl} : p ∈ needP h w x ↔ p ∈ boxP 0 h 0 w ∧ p ∈ x.lst := by simp [needP]
theorem mem_usersP {h w : Nat} {rl : Pl → Ru} {p q : Pl} : q ∈ usersP h w rl p ↔ q ∈ boxP 0 h 0 w ∧ Nd rl p q := by simp [usersP]
theorem needP_nd {h w : Nat} {x : Ru} : (needP h w x).Nodup := List.Pairwise.filter _ boxP_nd
theorem usersP_nd {h w : Nat} {rl : Pl → Ru} {p : Pl} : (usersP h w rl p).Nodup := List.Pairwise.filter _ boxP_nd
theorem need_of_run {h w : Nat} {x : Ru} (hs : h * w < 100000) (hd : x.dep ≤ 40) (hi : x.In 0 h 0 w) : f_needed_ 40 [x.toD] = .ok (.node .lst ((needP h w x).map pairD)) := by
  obtain ⟨ks, e, hk, hp⟩ := needed_run (t := 0) (l := 0) hs 40 x hd hi
  rw [e, keys_due hk hp (q := fun p => decide (p ∈ x.lst)) fun p => by rw [decide_eq_true_eq]; exact Ru.lst_mem x]
  rfl
end Rs

set_option maxRecDepth 100000
/-! RsP2: needs_of, users_of. -/
namespace Rs
open PySem PySem.Spec PyProof.Rows L2
def m_needs_of : Evn → RS :=
    (mSeq (mSet 1 mDT)
    (mSeq (mFor 2 (mMeth 1 f_Sh_places (mVar 0) mNil) (mPut 1 pRoot (mVar 2) (mApp 1 (f_needed_ 40) (mCons (mMeth 2 f_Sh_rule (mVar 0) (mCons (mVar 2) mNil)) mNil))))
    (mRetV 1)))
def f_needs_of : List D → R D := runP 1 3 m_needs_of
def m_users_of : Evn → RS :=
    (mSeq (mSet 1 mDT)
    (mSeq (mFor 2 (mMeth 1 f_Sh_places (mVar 0) mNil) (mPut 1 pRoot (mVar 2) (mLst mNil)))
    (mSeq (mFor 2 (mMeth 1 f_Sh_places (mVar 0) mNil) (mFor 3 (mApp 1 (f_needed_ 40) (mCons (mMeth 2 f_Sh_rule (mVar 0) (mCons (mVar 2) mNil)) mNil)) (mMut "list" gAppend 1 (pIx 1 (mVar 3)) (mCons (mImm (mVar 2)) mNil))))
    (mRetV 1))))
def f_users_of : List D → R D := runP 1 4 m_users_of
def m_settled : Evn → RS :=
    (mSeq (mSet 1 (mApp 1 f_needs_of (mCons (mVar 0) mNil)))
    (mSeq (mSet 2 (mApp 1 f_users_of (mCons (mVar 0) mNil)))
    (mSeq (mSet 3 mDT)
    (mSeq (mSet 4 (mLst mNil))
    (mSeq (mFor 5 (mMeth 1 f_Sh_places (mVar 0) mNil) (mSeq (mPut 3 pRoot (mVar 5) (mCall gLen (mCons (mBinE gIx (mVar 1) (mVar 5)) mNil)))
    (mIf (mTest (mBin gEq (mBinE gIx (mVar 3) (mVar 5)) (mC (.int 0)))) (mMut "list" gAppend 4 pRoot (mCons (mImm (mVar 5)) mNil)) mNx)))
    (mSeq (mSet 6 (mC (.int 0)))
    (mSeq (mFrz ((7 :: ([] ++ ([] ++ []))) ++ [6]) 2 (whileL (mTest (mBin gLt (mVar 6) (mCall gLen (mCons (mVar 4) mNil)))) (mSeq (mFor 7 (mBinE gIx (mRo 2) (mBinE gIx (mVar 4) (mVar 6))) (mSeq (mPut 3 pRoot (mVar 7) (mBin gSub (mBinE gIx (mVar 3) (mVar 7)) (mC (.int 1))))
    (mIf (mTest (mBin gEq (mBinE gIx (mVar 3) (mVar 7)) (mC (.int 0)))) (mMut "list" gAppend 4 pRoot (mCons (mImm (mVar 7)) mNil)) mNx)))
    (mSet 6 (mBin gAdd (mVar 6) (mC (.int 1))))) 1000000))
    (mRetV 4))))))))
def f_settled : List D → R D := runP 1 8 m_settled
def m_reckoned : Evn → RS :=
    (mSeq (mSet 1 mDT)
    (mSeq (mFor 2 (mApp 1 f_settled (mCons (mVar 0) mNil)) (mPut 1 pRoot (mVar 2) (mApp 2 (f_told_ 40) (mCons (mMeth 2 f_Sh_rule (mVar 0) (mCons (mVar 2) mNil)) (mCons (mVar 1) mNil)))))
    (mSeq (mSet 3 (mLst mNil))
    (mSeq (mForR 4 (mCons (mFld 0 (mVar 0)) mNil) (mMut "list" gAppend 3 pRoot (mCons (mLcR 5 (mCons (mFld 1 (mVar 0)) mNil) mYes (mImm (mGet (mVar 1) (mTup (mCons (mImm (mVar 4)) (mCons (mImm (mVar 5)) mNil)))))) mNil)))
    (mRetV 3)))))
def f_reckoned : List D → R D := runP 1 6 m_reckoned
def m_ring : Evn → RS :=
    (mSeq (mSet 1 (mApp 1 f_needs_of (mCons (mVar 0) mNil)))
    (mSeq (mSet 2 mDT)
    (mSeq (mFor 3 (mApp 1 f_settled (mCons (mVar 0) mNil)) (mPut 2 pRoot (mVar 3) (mC (.bl true))))
    (mSeq (mSet 4 (mLc 3 (mMeth 1 f_Sh_places (mVar 0) mNil) (mTest (mBin gNotIn (mVar 3) (mVar 2))) (mImm (mVar 3))))
    (mSeq (mIf (mTest (mBin gEq (mVar 4) (mLst mNil))) (mRet (mC .non)) mNx)
    (mSeq (mSet 5 (mLst (mCons (mImm (mBinE gIx (mVar 4) (mC (.int 0)))) mNil)))
    (whileL (mTest (mC (.bl true))) (mSeq (mSet 6 (mImm (mBinE gIx (mLc 3 (mBinE gIx (mVar 1) (mBinE gIx (mVar 5) (mUn gNeg (mC (.int 1))))) (mTest (mBin gNotIn (mVar 3) (mVar 2))) (mImm (mVar 3))) (mC (.int 0)))))
    (mSeq (mIf (mTest (mBin gIn (mVar 6) (mVar 5))) (mRet (mSl (mVar 5) (mPart (mIndex (mVar 5) (mVar 6))) mNoPart)) mNx)
    (mMut "list" gAppend 5 pRoot (mCons (mImm (mVar 6)) mNil)))) 1000000)))))))
def f_ring : List D → R D := runP 1 7 m_ring
def m_touched : Evn → RS :=
    (mSeq (mDrop (mMeth 2 f_Sh_rule (mVar 0) (mCons (mVar 1) mNil)))
    (mSeq (mSet 2 (mApp 1 f_users_of (mCons (mVar 0) mNil)))
    (mSeq (mSet 3 (mLst (mCons (mTup (mCons (mImm (mBinE gIx (mVar 1) (mC (.int 0)))) (mCons (mImm (mBinE gIx (mVar 1) (mC (.int 1)))) mNil))) mNil)))
    (mSeq (mSet 4 (mC (.int 0)))
    (mSeq (mFrz ((5 :: ([] ++ [])) ++ [4]) 2 (whileL (mTest (mBin gLt (mVar 4) (mCall gLen (mCons (mVar 3) mNil)))) (mSeq (mFor 5 (mBinE gIx (mRo 2) (mBinE gIx (mVar 3) (mVar 4))) (mIf (mTest (mBin gNotIn (mVar 5) (mVar 3))) (mMut "list" gAppend 3 pRoot (mCons (mImm (mVar 5)) mNil)) mNx))
    (mSet 4 (mBin gAdd (mVar 4) (mC (.int 1))))) 1000000))
    (mRet (mCall gSorted (mCons (mVar 3) mNil))))))))
def f_touched : List D → R D := runP 2 6 m_touched
/-! ### dicts of lists -/
theorem dF_congr {ks : List Pl} {v v' : Pl → D} (h : ∀ p ∈ ks, v p = v' p) : dF ks v = dF ks v' := by
  show D.node (.dT ks) (ks.map v) = D.node (.dT ks) (ks.map v')
  rw [List.map_congr_left h]
theorem put_new {ks : List Pl} {v : Pl → D} {p : Pl} (hl : ks.length < 100000) (hp : p ∉ ks) : putItem (dF ks v) (pairD p) (v p) = some (dF (ks ++ [p]) v) := by
  unfold putItem
  simp only [pair_pairD]
  rw [if_pos ⟨hl, .inr hp⟩]
  unfold putD
  rw [if_neg hp]
  show some (D.node (.dT (ks ++ [p])) (ks.map v ++ [v p])) = some (D.node (.dT (ks ++ [p])) ((ks ++ [p]).map v))
  rw [List.map_append]
  rfl
theorem dF_child {ks : List Pl} {v : Pl → D} {p : Pl} (hnd : ks.Nodup) (hp : p ∈ ks) : ∃ j, ixChild (dF ks v) (pairD p) = some j ∧ atP (dF ks v) (some j) = some (v p) ∧ ∀ d', setP (dF ks v) (some j) d' = dF ks fun q => if q = p then d' else v q := by
  obtain ⟨j, hj⟩ : ∃ j, ixOf ks p = some j := by
    unfold ixOf
    cases e : ks.findIdx? fun x => decide (x = p) with
    | some j => exact ⟨j, rfl⟩
    | none =>
      have := List.findIdx?_eq_none_iff.mp e p hp
      simp at this
  have hj' := hj
  unfold ixOf at hj'
  obtain ⟨hlt, hz, _⟩ := List.findIdx?_eq_some_iff_getElem.mp hj'
  have ek : ks[j] = p := of_decide_eq_true hz
  refine ⟨j, ?_, ?_, fun d' => ?_⟩
  · show (match (pairD p).pair with
      | some p => (ixOf ks p).bind fun j => if j < (ks.map v).length then some j else none
      | none => none) = _
    rw [pair_pairD]
    show ((ixOf ks p).bind fun j => if j < (ks.map v).length then some j else none) = _
    rw [hj]
    show (if j < (ks.map v).length then some j else none) = _
    rw [if_pos (by simpa using hlt)]
  · show (if Hd.mu (.dT ks) = true then (ks.map v)[j]? else none) = _
    have hm : (Hd.dT ks).mu = true := rfl
    rw [if_pos hm, List.getElem?_map, List.getElem?_eq_getElem hlt, ek]
    rfl
  · show D.node (.dT ks) ((ks.map v).set j d') = D.node (.dT ks) (ks.map _)
    congr 1
    apply List.ext_getElem
    · simp
    · intro i h1 h2
      have hi : i < ks.length := by simpa using h2
      rw [List.getElem_set, List.getElem_map, List.getElem_map]
      by_cases e : j = i
      · subst e
        rw [if_pos rfl, if_pos ek]
      · rw [if_neg e, if_neg]
        intro q
        exact e ((List.getElem_inj hnd).mp (q.trans ek.symm)).symm
@[simp] theorem ap_pix {r : Nat} {mk : Evn → R D} {ρ : Evn} : pIx r mk ρ = Slot.ownR ρ[r]? fun d => (mk ρ).bind fun k => oR (ixChild d k) fun j => .ok (some j) := by
  unfold pIx Slot.ownR
  cases ρ[r]? with
  | none => rfl
  | some q =>
    cases q with
    | ow d =>
      show (mk ρ).bind _ = (mk ρ).bind _
      congr 1
      funext k
      cases ixChild d k <;> rfl
    | un => rfl
    | ro d => rfl
theorem putIn_at {d dn : D} {p : Option Nat} {g : D → Option D} (h : atP d p = some dn) : putIn d p g = (g dn).map fun dn' => setP d p dn' := by
  unfold putIn
  rw [h]
  rfl
section
variable {h w : Nat} {rl : Pl → Ru}
abbrev lstD (L : List Pl) : D := .node .lst (L.map pairD)
theorem needs_of_run (k : ShOk h w rl) : f_needs_of [shD h w rl] = .ok (dF (boxP 0 h 0 w) fun p => lstD (needP h w (rl p))) := by
  have hl : (boxP 0 h 0 w).length < 100000 := by rw [boxP_len]; exact k.sm
  have pl : f_Sh_places [shD h w rl] = .ok (.node .lst ((boxP 0 h 0 w).map pairD)) := places_run k.hh.1 k.hw.1 k.sm
  unfold f_needs_of
  refine run_o (ρ0 := [.ro (shD h w rl), .un, .un]) rfl ?_
  unfold m_needs_of
  refine seqF (ρ' := [.ro (shD h w rl), .ow (dF [] fun p => lstD (needP h w (rl p))), .un]) (by simp -implicitDefEqProofs [mDT]) ?_
  refine seqX (for_ex (xs := (boxP 0 h 0 w).map pairD) (fun i ρ => ∃ s2, ρ = [.ro (shD h w rl), .ow (dF ((boxP 0 h 0 w).take i) fun p => lstD (needP h w (rl p))), s2]) (d := .node .lst ((boxP 0 h 0 w).map pairD)) (by simp -implicitDefEqProofs [-List.map_map, pl]) rfl ⟨_, rfl⟩ (by
    rintro i x _ hx ⟨s2, rfl⟩
    have hi : i < (boxP 0 h 0 w).length := by have := (List.getElem?_eq_some_iff.mp hx).1; simpa using this
    have ex : x = pairD (boxP 0 h 0 w)[i] := by
      rw [List.getElem?_map, List.getElem?_eq_getElem hi] at hx
      exact (Option.some.inj hx).symm
    subst ex
    have hm : (boxP 0 h 0 w)[i] ∈ boxP 0 h 0 w := List.getElem_mem hi
    have r1 := rule_run (h := h) (w := w) (rl := rl) (p := (boxP 0 h 0 w)[i])
    rw [if_pos (onP_iff.mpr hm)] at r1
    have nr := need_of_run k.sm (by have := k.dep (boxP 0 h 0 w)[i]; omega) (k.box _ hm)
    have pt := put_new (ks := (boxP 0 h 0 w).take i) (v := fun p => lstD (needP h w (rl p))) (p := (boxP 0 h 0 w)[i]) (by rw [List.length_take]; omega) (take_nd boxP_nd hi)
    have e1 : (boxP 0 h 0 w).take i ++ [(boxP 0 h 0 w)[i]] = (boxP 0 h 0 w).take (i + 1) := by simp
    rw [e1] at pt
    refine ⟨_, ?_, .ro (pairD (boxP 0 h 0 w)[i]), rfl⟩
    simp -implicitDefEqProofs [-List.map_take, -List.map_map, r1, nr, pt])) ?_
  rintro _ ⟨s2, rfl⟩
  rw [List.length_map, List.take_length]
  simp -implicitDefEqProofs
theorem users_of_run (k : ShOk h w rl) : f_users_of [shD h w rl] = .ok (dF (boxP 0 h 0 w) fun p => lstD (usersP h w rl p)) := by
  have hl : (boxP 0 h 0 w).length < 100000 := by rw [boxP_len]; exact k.sm
  have pl : f_Sh_places [shD h w rl] = .ok (.node .lst ((boxP 0 h 0 w).map pairD)) := places_run k.hh.1 k.hw.1 k.sm
  unfold f_users_of
  refine run_o (ρ0 := [.ro (shD h w rl), .un, .un, .un]) rfl ?_
  unfold m_users_of
  refine seqF (ρ' := [.ro (shD h w rl), .ow (dF [] fun _ => lstD []), .un, .un]) (by simp -implicitDefEqProofs [mDT]) ?_
  refine seqX (for_ex (xs := (boxP 0 h 0 w).map pairD) (fun i ρ => ∃ s2, ρ = [.ro (shD h w rl), .ow (dF ((boxP 0 h 0 w).take i) fun _ => lstD []), s2, .un]) (d := .node .lst ((boxP 0 h 0 w).map pairD)) (by simp -implicitDefEqProofs [-List.map_map, pl]) rfl ⟨_, rfl⟩ (by
    rintro i x _ hx ⟨s2, rfl⟩
    have hi : i < (boxP 0 h 0 w).length := by have := (List.getElem?_eq_some_iff.mp hx).1; simpa using this
    have ex : x = pairD (boxP 0 h 0 w)[i] := by
      rw [List.getElem?_map, List.getElem?_eq_getElem hi] at hx
      exact (Option.some.inj hx).symm
    subst ex
    have pt := put_new (ks := (boxP 0 h 0 w).take i) (v := fun _ => lstD []) (p := (boxP 0 h 0 w)[i]) (by rw [List.length_take]; omega) (take_nd boxP_nd hi)
    have e1 : (boxP 0 h 0 w).take i ++ [(boxP 0 h 0 w)[i]] = (boxP 0 h 0 w).take (i + 1) := by simp
    rw [e1] at pt
    change putItem (dF _ fun _ => lstD []) (pairD _) (.node .lst []) = _ at pt
    refine ⟨_, ?_, .ro (pairD (boxP 0 h 0 w)[i]), rfl⟩
    simp -implicitDefEqProofs [-List.map_take, pt])) ?_
  rintro _ ⟨s2, rfl⟩
  rw [List.length_map, List.take_length]
  refine seqX (for_ex (xs := (boxP 0 h 0 w).map pairD) (fun i ρ => ∃ s2 s3, ρ = [.ro (shD h w rl), .ow (dF (boxP 0 h 0 w) fun p => lstD (((boxP 0 h 0 w).take i).filter fun q => decide (Nd rl p q))), s2, s3]) (d := .node .lst ((boxP 0 h 0 w).map pairD)) (by simp -implicitDefEqProofs [-List.map_map, pl]) rfl ⟨_, _, rfl⟩ (by
    rintro i x _ hx ⟨s2, s3, rfl⟩
    have hi : i < (boxP 0 h 0 w).length := by have := (List.getElem?_eq_some_iff.mp hx).1; simpa using this
    have ex : x = pairD (boxP 0 h 0 w)[i] := by
      rw [List.getElem?_map, List.getElem?_eq_getElem hi] at hx
      exact (Option.some.inj hx).symm
    subst ex
    have hm : (boxP 0 h 0 w)[i] ∈ boxP 0 h 0 w := List.getElem_mem hi
    have r1 := rule_run (h := h) (w := w) (rl := rl) (p := (boxP 0 h 0 w)[i])
    rw [if_pos (onP_iff.mpr hm)] at r1
    have nr := need_of_run k.sm (by have := k.dep (boxP 0 h 0 w)[i]; omega) (k.box _ hm)
    have tk : (boxP 0 h 0 w).take (i + 1) = (boxP 0 h 0 w).take i ++ [(boxP 0 h 0 w)[i]] := by simp
    have hti : ((boxP 0 h 0 w).take i).length ≤ i := by rw [List.length_take]; omega
    generalize hq : (boxP 0 h 0 w)[i] = q at hm r1 nr tk
    obtain ⟨ρ', e, s3', e2⟩ := for_ex (i := 3) (it := mApp 1 (f_needed_ 40) (mCons (mMeth 2 f_Sh_rule (mVar 0) (mCons (mVar 2) mNil)) mNil)) (body := mMut "list" gAppend 1 (pIx 1 (mVar 3)) (mCons (mImm (mVar 2)) mNil)) (xs := (needP h w (rl q)).map pairD)
      (ρ := [.ro (shD h w rl), .ow (dF (boxP 0 h 0 w) fun p => lstD (((boxP 0 h 0 w).take i).filter fun q => decide (Nd rl p q))), .ro (pairD q), s3])
      (fun j ρ => ∃ s3, ρ = [.ro (shD h w rl), .ow (dF (boxP 0 h 0 w) fun p => lstD ((((boxP 0 h 0 w).take i).filter fun q => decide (Nd rl p q)) ++ if p ∈ (needP h w (rl q)).take j then [q] else [])), .ro (pairD q), s3])
      (d := .node .lst ((needP h w (rl q)).map pairD)) (by simp -implicitDefEqProofs [-List.map_map, r1, nr]) rfl ⟨s3, by
        congr 2
        congr 1
        refine dF_congr fun p _ => by simp⟩ (by
        rintro j y _ hy ⟨s3, rfl⟩
        have hj : j < (needP h w (rl q)).length := by have := (List.getElem?_eq_some_iff.mp hy).1; simpa using this
        have ey : y = pairD (needP h w (rl q))[j] := by
          rw [List.getElem?_map, List.getElem?_eq_getElem hj] at hy
          exact (Option.some.inj hy).symm
        subst ey
        have hz : (needP h w (rl q))[j] ∈ needP h w (rl q) := List.getElem_mem hj
        have hnt := take_nd (needP_nd (h := h) (w := w) (x := rl q)) hj
        have tk2 : (needP h w (rl q)).take (j + 1) = (needP h w (rl q)).take j ++ [(needP h w (rl q))[j]] := by simp
        generalize (needP h w (rl q))[j] = z at hz hnt tk2
        obtain ⟨c, c1, c2, c3⟩ := dF_child (v := fun p => lstD ((((boxP 0 h 0 w).take i).filter fun q => decide (Nd rl p q)) ++ if p ∈ (needP h w (rl q)).take j then [q] else [])) boxP_nd (mem_needP.mp hz).1
        simp only [hnt, if_false, List.append_nil] at c2
        have lz : ((((boxP 0 h 0 w).take i).filter fun q => decide (Nd rl z q)).map pairD).length < 100000 := by
          rw [List.length_map]
          have := List.length_filter_le (fun q => decide (Nd rl z q)) ((boxP 0 h 0 w).take i)
          omega
        have ga : gAppend (lstD (((boxP 0 h 0 w).take i).filter fun q => decide (Nd rl z q))) [pairD q] = some (lstD ((((boxP 0 h 0 w).take i).filter fun q => decide (Nd rl z q)) ++ [q])) := by
          show (if _ then _ else _) = _
          rw [if_pos lz]
          simp
        refine ⟨[.ro (shD h w rl), .ow (setP (dF (boxP 0 h 0 w) fun p => lstD ((((boxP 0 h 0 w).take i).filter fun q => decide (Nd rl p q)) ++ if p ∈ (needP h w (rl q)).take j then [q] else [])) (some c) (lstD ((((boxP 0 h 0 w).take i).filter fun q => decide (Nd rl z q)) ++ [q]))), .ro (pairD q), .ro (pairD z)], ?_, .ro (pairD z), ?_⟩
        · have pI := putIn_at (g := fun dn => gAppend dn [pairD q]) c2
          rw [ga] at pI
          rw [ap_mut]
          simp -implicitDefEqProofs only [List.set_cons_succ, List.set_cons_zero, List.getElem?_cons_succ, List.getElem?_cons_zero, Slot.own_ow, ap_pix, Slot.ownR_ow, ap_var, Slot.val_ro, R.bind_ok, c1, oR_some, R.toS_ok, c2, oS_some, ty_lst, if_true, ap_cons, ap_nil, ap_imm, imm_pair, pI, Option.map_some, ap_setOw]
        · rw [c3]
          congr 2
          congr 1
          refine dF_congr fun p hp => ?_
          rw [tk2]
          by_cases e : p = z
          · subst e
            simp
          · simp [e])
    rw [List.length_map, List.take_length] at e2
    refine ⟨ρ', e, .ro (pairD q), s3', ?_⟩
    rw [e2]
    congr 2
    congr 1
    refine dF_congr fun p hp => ?_
    rw [tk, List.filter_append]
    congr 2
    by_cases n : Nd rl p q
    · have : p ∈ needP h w (rl q) := mem_needP.mpr ⟨hp, n⟩
      simp [this, n]
    · have : p ∉ needP h w (rl q) := fun z => n (mem_needP.mp z).2
      simp [this, n])) ?_
  rintro _ ⟨s2, s3, rfl⟩
  rw [List.length_map, List.take_length]
  simp -implicitDefEqProofs [usersP]
end
end Rs

set_option maxRecDepth 100000
/-! RsP3: settled, reckoned. -/
namespace Rs
open PySem PySem.Spec PyProof.Rows L2
theorem less_one {d : Pl} : ∀ {M : List Pl}, M.Nodup → d ∈ M → (M.filter fun q => decide (q ≠ d)).length + 1 = M.length
  | [], _, h => by cases h
  | x :: M, hn, h => by
    have hx := (List.nodup_cons.mp hn)
    by_cases e : x = d
    · subst e
      have : (M.filter fun q => decide (q ≠ x)) = M := List.filter_eq_self.mpr fun q hq => by
        simp only [decide_eq_true_eq]
        exact fun z => hx.1 (z ▸ hq)
      rw [List.filter_cons_of_neg (by simp), this, List.length_cons]
    · have hm : d ∈ M := by
        rcases List.mem_cons.mp h with q | q
        · exact absurd q.symm e
        · exact q
      have ih := less_one hx.2 hm
      rw [List.filter_cons_of_pos (by simpa using e), List.length_cons, List.length_cons, ih]
section
variable (h w : Nat) (rl : Pl → Ru)
/-- how many of the needs are not in D -/
def cnt (D : List Pl) (p : Pl) : Nat := ((needP h w (rl p)).filter fun q => decide (q ∉ D)).length
structure Kahn (a : Nat) (done : List Pl) : Prop where
  nd : done.Nodup
  sub : ∀ p ∈ done, p ∈ boxP 0 h 0 w
  le : a ≤ done.length
  iff : ∀ p ∈ boxP 0 h 0 w, p ∈ done ↔ cnt h w rl (done.take a) p = 0
  ord : ∀ i p, done[i]? = some p → ∀ q ∈ needP h w (rl p), q ∈ done.take i
end
section
variable {h w : Nat} {rl : Pl → Ru}
theorem cnt_in {D : List Pl} {d p : Pl} (hd : d ∈ needP h w (rl p)) (hn : d ∉ D) : cnt h w rl D p = cnt h w rl (D ++ [d]) p + 1 := by
  unfold cnt
  have e : ((needP h w (rl p)).filter fun q => decide (q ∉ D ++ [d])) = (((needP h w (rl p)).filter fun q => decide (q ∉ D)).filter fun q => decide (q ≠ d)) := by
    rw [List.filter_filter]
    refine List.filter_congr fun q _ => ?_
    by_cases h1 : q = d <;> by_cases h2 : q ∈ D <;> simp [h1, h2]
  rw [e]
  exact (less_one (List.Pairwise.filter _ needP_nd) (List.mem_filter.mpr ⟨hd, by simpa using hn⟩)).symm
theorem cnt_out {D : List Pl} {d p : Pl} (hd : d ∉ needP h w (rl p)) : cnt h w rl (D ++ [d]) p = cnt h w rl D p := by
  unfold cnt
  congr 1
  refine List.filter_congr fun q hq => ?_
  have : q ≠ d := fun e => hd (e ▸ hq)
  simp [this]
theorem cnt_zero {D : List Pl} {p : Pl} : cnt h w rl D p = 0 ↔ ∀ q ∈ needP h w (rl p), q ∈ D := by
  unfold cnt
  rw [List.length_eq_zero_iff, List.filter_eq_nil_iff]
  constructor
  · intro z q hq
    have := z q hq
    simpa using this
  · intro z q hq
    simpa using z q hq
theorem cnt_nil {p : Pl} : cnt h w rl [] p = (needP h w (rl p)).length := by
  unfold cnt
  congr 1
  exact List.filter_eq_self.mpr fun q _ => by simp
theorem Kahn.start : Kahn h w rl 0 ((boxP 0 h 0 w).filter fun p => decide (cnt h w rl [] p = 0)) := by
  refine ⟨List.Pairwise.filter _ boxP_nd, fun p hp => (List.mem_filter.mp hp).1, Nat.zero_le _, fun p hp => ?_, fun i p hi q hq => ?_⟩
  · rw [List.take_zero, List.mem_filter, decide_eq_true_eq]
    exact ⟨fun z => z.2, fun z => ⟨hp, z⟩⟩
  · have hp := List.mem_of_getElem? hi
    have := of_decide_eq_true (List.mem_filter.mp hp).2
    have := cnt_zero.mp this q hq
    cases this
/-- one place dealt with -/
theorem Kahn.next (k : ShOk h w rl) {a : Nat} {done : List Pl} (K : Kahn h w rl a done) {d : Pl} (hd : done[a]? = some d) :
    Kahn h w rl (a + 1) (done ++ (usersP h w rl d).filter fun p => decide (cnt h w rl (done.take a ++ [d]) p = 0)) := by
  have hlt := (List.getElem?_eq_some_iff.mp hd).1
  have ed := (List.getElem?_eq_some_iff.mp hd).2
  have hdd : d ∈ done := List.mem_of_getElem? hd
  have hdB := K.sub d hdd
  have hdn : d ∉ done.take a := by rw [← ed]; exact take_nd K.nd hlt
  have tk : done.take (a + 1) = done.take a ++ [d] := by rw [List.take_succ_eq_append_getElem hlt, ed]
  have us : ∀ p, p ∈ usersP h w rl d ↔ p ∈ boxP 0 h 0 w ∧ d ∈ needP h w (rl p) := fun p => by
    rw [mem_usersP, mem_needP]
    exact ⟨fun z => ⟨z.1, hdB, z.2⟩, fun z => ⟨z.1, z.2.2⟩⟩
  have tk2 : ∀ M, (done ++ M).take (a + 1) = done.take a ++ [d] := fun M => by rw [List.take_append_of_le_length (by omega), tk]
  refine ⟨?_, fun p hp => ?_, ?_, fun p hp => ?_, fun i p hi q hq => ?_⟩
  · refine List.nodup_append.mpr ⟨K.nd, List.Pairwise.filter _ usersP_nd, fun x hx y hy e => ?_⟩
    subst e
    have hu := (us x).mp (List.mem_filter.mp hy).1
    have c1 := cnt_in (rl := rl) hu.2 hdn
    have c2 := (K.iff x hu.1).mp hx
    omega
  · rcases List.mem_append.mp hp with q | q
    · exact K.sub p q
    · exact ((us p).mp (List.mem_filter.mp q).1).1
  · rw [List.length_append]; omega
  · rw [tk2, List.mem_append, List.mem_filter, decide_eq_true_eq]
    by_cases hu : d ∈ needP h w (rl p)
    · have c1 := cnt_in (rl := rl) hu hdn
      constructor
      · rintro (z | z)
        · have := (K.iff p hp).mp z; omega
        · exact z.2
      · intro z
        exact .inr ⟨(us p).mpr ⟨hp, hu⟩, z⟩
    · rw [cnt_out hu]
      constructor
      · rintro (z | z)
        · exact (K.iff p hp).mp z
        · exact absurd ((us p).mp z.1).2 hu
      · intro z
        exact .inl ((K.iff p hp).mpr z)
  · by_cases hl : i < done.length
    · rw [List.getElem?_append_left hl] at hi
      rw [List.take_append_of_le_length (by omega)]
      exact K.ord i p hi q hq
    · rw [List.getElem?_append_right (Nat.not_lt.mp hl)] at hi
      have hp := (List.mem_filter.mp (List.mem_of_getElem? hi)).2
      have := cnt_zero.mp (of_decide_eq_true hp) q hq
      rw [List.take_append]
      refine List.mem_append_left _ ?_
      rw [List.take_of_length_le (by omega)]
      rw [← tk] at this
      exact List.mem_of_mem_take this
theorem Kahn.len {a : Nat} {done : List Pl} (K : Kahn h w rl a done) : done.length ≤ (boxP 0 h 0 w).length := nodup_len K.nd K.sub
/-- what settled gives -/
structure Settled (h w : Nat) (rl : Pl → Ru) (L : List Pl) : Prop where
  nd : L.Nodup
  iff : ∀ p, p ∈ L ↔ p ∈ boxP 0 h 0 w ∧ Good rl p
  ord : ∀ i p, L[i]? = some p → ∀ q, Nd rl q p → q ∈ L.take i
theorem Kahn.fin (k : ShOk h w rl) {done : List Pl} (K : Kahn h w rl done.length done) : Settled h w rl done := by
  have ne : ∀ p ∈ boxP 0 h 0 w, ∀ q, Nd rl q p → q ∈ needP h w (rl p) := fun p hp q n => mem_needP.mpr ⟨k.nd hp n, n⟩
  have ord : ∀ i p, done[i]? = some p → ∀ q, Nd rl q p → q ∈ done.take i := fun i p hi q n => K.ord i p hi q (ne p (K.sub p (List.mem_of_getElem? hi)) q n)
  have back : ∀ p, Acc (Nd rl) p → p ∈ boxP 0 h 0 w → p ∈ done := fun p g => by
    induction g with
    | intro p hp' ih =>
      intro hp
      refine (K.iff p hp).mpr (cnt_zero.mpr fun q hq => ?_)
      rw [List.take_length]
      exact ih q (mem_needP.mp hq).2 (mem_needP.mp hq).1
  refine ⟨K.nd, fun p => ⟨fun hp => ⟨K.sub p hp, ?_⟩, fun ⟨hp, g⟩ => back p g hp⟩, ord⟩
  · -- the earlier ones first
    obtain ⟨i, hi⟩ := List.mem_iff_getElem?.mp hp
    have key : ∀ (n i : Nat) (p : Pl), i < n → done[i]? = some p → Good rl p := by
      intro n
      induction n with
      | zero => intro i p hi; omega
      | succ n ih =>
        intro i p hi e
        refine Good.mk fun q n => ?_
        obtain ⟨j, hj⟩ := List.mem_iff_getElem?.mp (ord i p e q n)
        have hji : j < i := by
          have := (List.getElem?_eq_some_iff.mp hj).1
          rw [List.length_take] at this; omega
        refine ih j q (by omega) ?_
        rw [List.getElem?_take_of_lt hji] at hj
        exact hj
    exact key (i + 1) i p (by omega) hi
theorem settled_run (k : ShOk h w rl) : ∃ L, f_settled [shD h w rl] = .ok (lstD L) ∧ Settled h w rl L := by
  have hl := k.len
  have pl : f_Sh_places [shD h w rl] = .ok (.node .lst ((boxP 0 h 0 w).map pairD)) := places_run k.hh.1 k.hw.1 k.sm
  have nr := needs_of_run k
  have ur := users_of_run k
  unfold f_settled
  refine run_c (C := fun r => ∃ L, r = .ok (lstD L) ∧ Settled h w rl L) (ρ0 := [.ro (shD h w rl), .un, .un, .un, .un, .un, .un, .un]) rfl ?_
  unfold m_settled
  generalize hN : dF (boxP 0 h 0 w) (fun p => lstD (needP h w (rl p))) = needs at nr
  generalize hU : dF (boxP 0 h 0 w) (fun p => lstD (usersP h w rl p)) = users at ur
  refine seqC (C := fun r => ∃ L, r.out = .ok (lstD L) ∧ Settled h w rl L) (P := fun ρ => ρ = [.ro (shD h w rl), .ow needs, .un, .un, .un, .un, .un, .un]) ⟨_, by simp -implicitDefEqProofs [nr], rfl⟩ ?_
  rintro _ rfl
  refine seqC (C := fun r => ∃ L, r.out = .ok (lstD L) ∧ Settled h w rl L) (P := fun ρ => ρ = [.ro (shD h w rl), .ow needs, .ow users, .un, .un, .un, .un, .un]) ⟨_, by simp -implicitDefEqProofs [ur], rfl⟩ ?_
  rintro _ rfl
  refine seqC (C := fun r => ∃ L, r.out = .ok (lstD L) ∧ Settled h w rl L) (P := fun ρ => ρ = [.ro (shD h w rl), .ow needs, .ow users, .ow (dF [] fun p => .int (cnt h w rl [] p)), .un, .un, .un, .un]) ⟨_, by simp -implicitDefEqProofs [mDT], rfl⟩ ?_
  rintro _ rfl
  refine seqC (C := fun r => ∃ L, r.out = .ok (lstD L) ∧ Settled h w rl L) (P := fun ρ => ρ = [.ro (shD h w rl), .ow needs, .ow users, .ow (dF [] fun p => .int (cnt h w rl [] p)), .ow (lstD []), .un, .un, .un]) ⟨_, by simp -implicitDefEqProofs, rfl⟩ ?_
  rintro _ rfl
  refine seqC (C := fun r => ∃ L, r.out = .ok (lstD L) ∧ Settled h w rl L)
    (for_ex (xs := (boxP 0 h 0 w).map pairD) (fun i ρ => ∃ s5, ρ = [.ro (shD h w rl), .ow needs, .ow users, .ow (dF ((boxP 0 h 0 w).take i) fun p => .int (cnt h w rl [] p)), .ow (lstD (((boxP 0 h 0 w).take i).filter fun p => decide (cnt h w rl [] p = 0))), s5, .un, .un]) (d := .node .lst ((boxP 0 h 0 w).map pairD)) (by simp -implicitDefEqProofs [-List.map_map, pl]) rfl ⟨_, rfl⟩ ?_) ?_
  · rintro i x _ hx ⟨s5, rfl⟩
    have hi : i < (boxP 0 h 0 w).length := by have := (List.getElem?_eq_some_iff.mp hx).1; simpa using this
    have ex : x = pairD (boxP 0 h 0 w)[i] := by
      rw [List.getElem?_map, List.getElem?_eq_getElem hi] at hx
      exact (Option.some.inj hx).symm
    subst ex
    have hm : (boxP 0 h 0 w)[i] ∈ boxP 0 h 0 w := List.getElem_mem hi
    have tk : (boxP 0 h 0 w).take (i + 1) = (boxP 0 h 0 w).take i ++ [(boxP 0 h 0 w)[i]] := by simp
    have pt := put_same (ks := (boxP 0 h 0 w).take i) (v := fun p => .int (cnt h w rl [] p)) (p := (boxP 0 h 0 w)[i]) (by rw [List.length_take]; omega) rfl
    have e1 : insK ((boxP 0 h 0 w).take i) (boxP 0 h 0 w)[i] = (boxP 0 h 0 w).take (i + 1) := by
      unfold insK
      rw [if_neg (take_nd boxP_nd hi), tk]
    rw [e1] at pt
    have hpt : (boxP 0 h 0 w)[i] ∈ (boxP 0 h 0 w).take (i + 1) := by rw [tk]; exact List.mem_append_right _ (List.mem_singleton.mpr rfl)
    have g3 := ix_dF (ks := (boxP 0 h 0 w).take (i + 1)) (v := fun p => .int (cnt h w rl [] p)) hpt
    have g1 := ix_dF (v := fun p => lstD (needP h w (rl p))) hm
    rw [hN] at g1
    have hfl : ((((boxP 0 h 0 w).take i).filter fun p => decide (cnt h w rl [] p = 0)).map pairD).length < 100000 := by
      rw [List.length_map]
      have h1 := List.length_filter_le (fun p => decide (cnt h w rl [] p = 0)) ((boxP 0 h 0 w).take i)
      rw [List.length_take] at h1
      omega
    have cn : cnt h w rl [] (boxP 0 h 0 w)[i] = (needP h w (rl (boxP 0 h 0 w)[i])).length := cnt_nil
    generalize hq : (boxP 0 h 0 w)[i] = q at hm tk pt e1 hpt g3 g1 cn
    have ln : gLen [lstD (needP h w (rl q))] = .ok (.int (cnt h w rl [] q)) := by rw [g_len_lst, List.length_map, cn]
    by_cases z : cnt h w rl [] q = 0
    · refine ⟨_, ?_, .ro (pairD q), rfl⟩
      have zd : decide (((cnt h w rl [] q : Nat) : Int) = 0) = true := by simp [z]
      have ef : ((boxP 0 h 0 w).take i ++ [q]).filter (fun p => decide (cnt h w rl [] p = 0)) = ((boxP 0 h 0 w).take i).filter (fun p => decide (cnt h w rl [] p = 0)) ++ [q] := by
        rw [List.filter_append]
        simp [z]
      have fl : lstD (((boxP 0 h 0 w).take i).filter (fun p => decide (cnt h w rl [] p = 0)) ++ [q]) = .node .lst ((((boxP 0 h 0 w).take i).filter fun p => decide (cnt h w rl [] p = 0)).map pairD ++ [pairD q]) := by
        show D.node .lst _ = _
        rw [List.map_append]
        rfl
      rw [tk, ef, fl]
      rw [tk] at pt g3
      simp -implicitDefEqProofs only [zd, if_true, ap_seq, ap_put, List.set_cons_succ, List.set_cons_zero, List.getElem?_cons_succ, List.getElem?_cons_zero, Slot.own_ow, ap_call, ap_cons, ap_nil, ap_binE, ap_var, Slot.val_ow, Slot.val_ro, R.bind_ok, g1, R.only_ok, ln, R.toS_ok, ap_root, putIn_none, pt, ap_setOw, RS.thn_nx, ap_if, ap_test, ap_bin, g3, ap_c, g_eqi, R.bool_bl, ap_mut, ap_imm, imm_pair, atP_none, oS_some, ty_lst, app_lst, hfl]
    · refine ⟨_, ?_, .ro (pairD q), rfl⟩
      have zd : decide (((cnt h w rl [] q : Nat) : Int) = 0) = false := by simp [z]
      have ef : ((boxP 0 h 0 w).take i ++ [q]).filter (fun p => decide (cnt h w rl [] p = 0)) = ((boxP 0 h 0 w).take i).filter (fun p => decide (cnt h w rl [] p = 0)) := by
        rw [List.filter_append]
        simp [z]
      rw [tk, ef]
      rw [tk] at pt g3
      simp -implicitDefEqProofs only [zd, if_false, Bool.false_eq_true, ap_seq, ap_put, List.set_cons_succ, List.set_cons_zero, List.getElem?_cons_succ, List.getElem?_cons_zero, Slot.own_ow, ap_call, ap_cons, ap_nil, ap_binE, ap_var, Slot.val_ow, Slot.val_ro, R.bind_ok, g1, R.only_ok, ln, R.toS_ok, ap_root, putIn_none, pt, ap_setOw, RS.thn_nx, ap_if, ap_test, ap_bin, g3, ap_c, g_eqi, R.bool_bl, ap_nx]
  · rintro _ ⟨s5, rfl⟩
    rw [List.length_map, List.take_length]
    have K0 := Kahn.start (h := h) (w := w) (rl := rl)
    generalize ((boxP 0 h 0 w).filter fun p => decide (cnt h w rl [] p = 0)) = done0 at K0
    refine seqC (C := fun r => ∃ L, r.out = .ok (lstD L) ∧ Settled h w rl L) (P := fun ρ => ρ = [.ro (shD h w rl), .ow needs, .ow users, .ow (dF (boxP 0 h 0 w) fun p => .int (cnt h w rl [] p)), .ow (lstD done0), s5, .ow (.int 0), .un]) ⟨_, by simp -implicitDefEqProofs, rfl⟩ ?_
    rintro _ rfl
    refine seqC (C := fun r => ∃ L, r.out = .ok (lstD L) ∧ Settled h w rl L) (P := fun ρ => ∃ L s0 s1 s2 s3 s5 s6 s7, Settled h w rl L ∧ ρ = [s0, s1, s2, s3, .ow (lstD L), s5, s6, s7]) (frz_ex (d := users) rfl ?_) ?_
    · obtain ⟨ρ', e, P⟩ := while_ex (c := mTest (mBin gLt (mVar 6) (mCall gLen (mCons (mVar 4) mNil)))) (body := mSeq (mFor 7 (mBinE gIx (mRo 2) (mBinE gIx (mVar 4) (mVar 6))) (mSeq (mPut 3 pRoot (mVar 7) (mBin gSub (mBinE gIx (mVar 3) (mVar 7)) (mC (.int 1))))
    (mIf (mTest (mBin gEq (mBinE gIx (mVar 3) (mVar 7)) (mC (.int 0)))) (mMut "list" gAppend 4 pRoot (mCons (mImm (mVar 7)) mNil)) mNx)))
    (mSet 6 (mBin gAdd (mVar 6) (mC (.int 1)))))
        (ρ := [.ro (shD h w rl), .ow needs, .ro users, .ow (dF (boxP 0 h 0 w) fun p => .int (cnt h w rl [] p)), .ow (lstD done0), s5, .ow (.int 0), .un])
        (P := fun ρ => ∃ L v s6 s7, Settled h w rl L ∧ ρ = [.ro (shD h w rl), .ow needs, .ro users, .ow (dF (boxP 0 h 0 w) v), .ow (lstD L), s5, s6, s7])
        (fun a ρ => ∃ done s7, Kahn h w rl a done ∧ ρ = [.ro (shD h w rl), .ow needs, .ro users, .ow (dF (boxP 0 h 0 w) fun p => .int (cnt h w rl (done.take a) p)), .ow (lstD done), s5, .ow (.int a), s7]) 145 1000000 (by omega) ⟨done0, _, K0, rfl⟩ (by
          rintro a _ ⟨done, s7, K, rfl⟩
          have kl := K.len
          by_cases hc : a < done.length
          · refine .inr ⟨by omega, by simp -implicitDefEqProofs [hc], ?_⟩
            obtain ⟨d, hd⟩ : ∃ d, done[a]? = some d := ⟨_, List.getElem?_eq_getElem hc⟩
            have K' := K.next k hd
            have ed := (List.getElem?_eq_some_iff.mp hd).2
            have hdB := K.sub d (List.mem_of_getElem? hd)
            have hdn : d ∉ done.take a := by rw [← ed]; exact take_nd K.nd hc
            have tk : done.take (a + 1) = done.take a ++ [d] := by rw [List.take_succ_eq_append_getElem hc, ed]
            have gd : gIx (lstD done) (.int (a : Int)) = .ok (pairD d) := gIx_at (k := a) rfl rfl (by rw [List.getElem?_map, hd]; rfl)
            have gu := ix_dF (v := fun p => lstD (usersP h w rl p)) hdB
            rw [hU] at gu
            refine seqC (C := fun r => ∃ ρ', r = .nx ρ' ∧ ∃ done s7, Kahn h w rl (a + 1) done ∧ ρ' = [.ro (shD h w rl), .ow needs, .ro users, .ow (dF (boxP 0 h 0 w) fun p => .int (cnt h w rl (done.take (a + 1)) p)), .ow (lstD done), s5, .ow (.int ((a + 1 : Nat) : Int)), s7])
              (for_ex (xs := (usersP h w rl d).map pairD) (fun j ρ => ∃ s7, ρ = [.ro (shD h w rl), .ow needs, .ro users, .ow (dF (boxP 0 h 0 w) fun p => .int (if p ∈ (usersP h w rl d).take j then cnt h w rl (done.take a ++ [d]) p else cnt h w rl (done.take a) p : Nat)), .ow (lstD (done ++ ((usersP h w rl d).take j).filter fun p => decide (cnt h w rl (done.take a ++ [d]) p = 0))), s5, .ow (.int a), s7])
                (d := lstD (usersP h w rl d)) (by simp -implicitDefEqProofs only [ap_binE, ap_ro, List.getElem?_cons_succ, List.getElem?_cons_zero, Slot.walk_ro, R.bind_ok, ap_var, Slot.val_ow, gd, R.only_ok, gu]) rfl ⟨s7, by simp⟩ ?_) ?_
            · rintro j x _ hx ⟨s7, rfl⟩
              have hj : j < (usersP h w rl d).length := by have := (List.getElem?_eq_some_iff.mp hx).1; simpa using this
              have ex : x = pairD (usersP h w rl d)[j] := by
                rw [List.getElem?_map, List.getElem?_eq_getElem hj] at hx
                exact (Option.some.inj hx).symm
              subst ex
              have hu : (usersP h w rl d)[j] ∈ usersP h w rl d := List.getElem_mem hj
              have hnt := take_nd (usersP_nd (h := h) (w := w) (rl := rl) (p := d)) hj
              have tk2 : (usersP h w rl d).take (j + 1) = (usersP h w rl d).take j ++ [(usersP h w rl d)[j]] := by simp
              have hul : (usersP h w rl d).length ≤ 144 := by
                have := nodup_len (usersP_nd (h := h) (w := w) (rl := rl) (p := d)) (fun p hp => (mem_usersP.mp hp).1)
                omega
              generalize (usersP h w rl d)[j] = u at hu hnt tk2
              have huB := (mem_usersP.mp hu).1
              have c1 := cnt_in (rl := rl) (mem_needP.mpr ⟨hdB, (mem_usersP.mp hu).2⟩) hdn
              have g0 := ix_dF (v := fun p => .int (if p ∈ (usersP h w rl d).take j then cnt h w rl (done.take a ++ [d]) p else cnt h w rl (done.take a) p : Nat)) huB
              simp only [hnt, if_false] at g0
              have es : ((cnt h w rl (done.take a) u : Nat) : Int) - 1 = (cnt h w rl (done.take a ++ [d]) u : Nat) := by omega
              have pt := put_dF (ks := boxP 0 h 0 w) (v := fun p => .int (if p ∈ (usersP h w rl d).take j then cnt h w rl (done.take a ++ [d]) p else cnt h w rl (done.take a) p : Nat)) (p := u) (x := .int (cnt h w rl (done.take a ++ [d]) u : Nat)) (by omega) rfl
              rw [insK_in huB] at pt
              have ev : (fun q => if q = u then D.int (cnt h w rl (done.take a ++ [d]) u : Nat) else .int (if q ∈ (usersP h w rl d).take j then cnt h w rl (done.take a ++ [d]) q else cnt h w rl (done.take a) q : Nat)) = fun p => .int (if p ∈ (usersP h w rl d).take (j + 1) then cnt h w rl (done.take a ++ [d]) p else cnt h w rl (done.take a) p : Nat) := by
                funext q
                rw [tk2]
                by_cases e : q = u
                · subst e
                  simp
                · simp [e]
              rw [ev] at pt
              have g3 := ix_dF (v := fun p => .int (if p ∈ (usersP h w rl d).take (j + 1) then cnt h w rl (done.take a ++ [d]) p else cnt h w rl (done.take a) p : Nat)) huB
              have hin : u ∈ (usersP h w rl d).take (j + 1) := by rw [tk2]; exact List.mem_append_right _ (List.mem_singleton.mpr rfl)
              simp only [hin, if_true] at g3
              have hfl : ((done ++ ((usersP h w rl d).take j).filter fun p => decide (cnt h w rl (done.take a ++ [d]) p = 0)).map pairD).length < 100000 := by
                rw [List.length_map, List.length_append]
                have h1 := List.length_filter_le (fun p => decide (cnt h w rl (done.take a ++ [d]) p = 0)) ((usersP h w rl d).take j)
                rw [List.length_take] at h1
                omega
              by_cases z : cnt h w rl (done.take a ++ [d]) u = 0
              · refine ⟨[.ro (shD h w rl), .ow needs, .ro users, .ow (dF (boxP 0 h 0 w) fun p => .int (if p ∈ (usersP h w rl d).take (j + 1) then cnt h w rl (done.take a ++ [d]) p else cnt h w rl (done.take a) p : Nat)), .ow (lstD (done ++ ((usersP h w rl d).take (j + 1)).filter fun p => decide (cnt h w rl (done.take a ++ [d]) p = 0))), s5, .ow (.int a), .ro (pairD u)], ?_, .ro (pairD u), rfl⟩
                have zd : decide (((cnt h w rl (done.take a ++ [d]) u : Nat) : Int) = 0) = true := by simp [z]
                have ef : ((usersP h w rl d).take (j + 1)).filter (fun p => decide (cnt h w rl (done.take a ++ [d]) p = 0)) = ((usersP h w rl d).take j).filter (fun p => decide (cnt h w rl (done.take a ++ [d]) p = 0)) ++ [u] := by
                  rw [tk2, List.filter_append]
                  simp [z]
                rw [ef, ← List.append_assoc]
                have fl : (lstD ((done ++ ((usersP h w rl d).take j).filter fun p => decide (cnt h w rl (done.take a ++ [d]) p = 0)) ++ [u])) = .node .lst ((done ++ ((usersP h w rl d).take j).filter fun p => decide (cnt h w rl (done.take a ++ [d]) p = 0)).map pairD ++ [pairD u]) := by
                  show D.node .lst _ = _
                  rw [List.map_append]
                  rfl
                rw [fl]
                simp -implicitDefEqProofs only [ap_seq, ap_put, List.set_cons_succ, List.set_cons_zero, List.getElem?_cons_succ, List.getElem?_cons_zero, Slot.own_ow, ap_binE, ap_var, Slot.val_ow, Slot.val_ro, R.bind_ok, g0, R.only_ok, ap_bin, ap_c, g_sub, es, R.toS_ok, ap_root, putIn_none, pt, ap_setOw, RS.thn_nx, ap_if, ap_test, g3, g_eqi, R.bool_bl, zd, if_true, ap_mut, ap_cons, ap_nil, ap_imm, imm_pair, atP_none, oS_some, ty_lst, app_lst, hfl]
              · refine ⟨[.ro (shD h w rl), .ow needs, .ro users, .ow (dF (boxP 0 h 0 w) fun p => .int (if p ∈ (usersP h w rl d).take (j + 1) then cnt h w rl (done.take a ++ [d]) p else cnt h w rl (done.take a) p : Nat)), .ow (lstD (done ++ ((usersP h w rl d).take (j + 1)).filter fun p => decide (cnt h w rl (done.take a ++ [d]) p = 0))), s5, .ow (.int a), .ro (pairD u)], ?_, .ro (pairD u), rfl⟩
                have zd : decide (((cnt h w rl (done.take a ++ [d]) u : Nat) : Int) = 0) = false := by simp [z]
                have ef : ((usersP h w rl d).take (j + 1)).filter (fun p => decide (cnt h w rl (done.take a ++ [d]) p = 0)) = ((usersP h w rl d).take j).filter (fun p => decide (cnt h w rl (done.take a ++ [d]) p = 0)) := by
                  rw [tk2, List.filter_append]
                  simp [z]
                rw [ef]
                simp -implicitDefEqProofs only [ap_seq, ap_put, List.set_cons_succ, List.set_cons_zero, List.getElem?_cons_succ, List.getElem?_cons_zero, Slot.own_ow, ap_binE, ap_var, Slot.val_ow, Slot.val_ro, R.bind_ok, g0, R.only_ok, ap_bin, ap_c, g_sub, es, R.toS_ok, ap_root, putIn_none, pt, ap_setOw, RS.thn_nx, ap_if, ap_test, g3, g_eqi, R.bool_bl, zd, if_false, Bool.false_eq_true, ap_nx]
            · rintro _ ⟨s7, rfl⟩
              rw [List.length_map, List.take_length]
              refine ⟨_, by simp -implicitDefEqProofs only [ap_set, ap_bin, ap_var, List.getElem?_cons_succ, List.getElem?_cons_zero, Slot.val_ow, ap_c, R.bind_ok, g_add, R.only_ok, R.toS_ok, List.set_cons_succ, List.set_cons_zero]; rfl, _, s7, K', ?_⟩
              have tk3 : (done ++ (usersP h w rl d).filter fun p => decide (cnt h w rl (done.take a ++ [d]) p = 0)).take (a + 1) = done.take a ++ [d] := by rw [List.take_append_of_le_length (by omega), tk]
              rw [tk3]
              have ev : dF (boxP 0 h 0 w) (fun p => .int (if p ∈ usersP h w rl d then cnt h w rl (done.take a ++ [d]) p else cnt h w rl (done.take a) p : Nat)) = dF (boxP 0 h 0 w) fun p => .int (cnt h w rl (done.take a ++ [d]) p : Nat) := dF_congr fun p hp => by
                by_cases hu : p ∈ usersP h w rl d
                · rw [if_pos hu]
                · rw [if_neg hu, cnt_out]
                  exact fun z => hu (mem_usersP.mpr ⟨hp, (mem_needP.mp z).2⟩)
              rw [ev]
              rfl
          · refine .inl ⟨by simp -implicitDefEqProofs [hc], done, _, _, _, ?_, rfl⟩
            have e : a = done.length := by have := K.le; omega
            subst e
            exact K.fin k)
      obtain ⟨L, v, s6, s7, hS, e2⟩ := P
      subst e2
      exact ⟨_, e, L, _, _, _, _, _, _, _, hS, rfl⟩
    · rintro _ ⟨L, s0, s1, s2, s3, s5, s6, s7, hS, rfl⟩
      exact ⟨L, by simp -implicitDefEqProofs, hS⟩
end
end Rs

set_option maxRecDepth 100000
/-! RsP4: reckoned, touched. -/
namespace Rs
open PySem PySem.Spec PyProof.Rows L2
open Classical in
/-- what is told of a cell -/
noncomputable def valD (rl : Pl → Ru) (p : Pl) : D := if Good rl p then .int (Sv rl p) else .non
theorem valD_imm {rl : Pl → Ru} {p : Pl} : (valD rl p).imm = true := by
  unfold valD
  split <;> rfl
theorem gGet_dF {ks : List Pl} {v : Pl → D} {p : Pl} : gGet (dF ks v) (pairD p) = .ok (if p ∈ ks then v p else .non) := by
  have e : dlook (dF ks v) (pairD p) = some (look ks (ks.map v) p) := by
    show (match (pairD p).pair with
      | some p => some (look ks (ks.map v) p)
      | none => none) = _
    rw [pair_pairD]
  unfold gGet
  rw [e, look_map]
  by_cases h : p ∈ ks
  · rw [if_pos h, if_pos h]
  · rw [if_neg h, if_neg h]
theorem gInB_dF {ks : List Pl} {v : Pl → D} {p : Pl} : gInB (pairD p) (dF ks v) = some (decide (p ∈ ks)) := by
  have e : dlook (dF ks v) (pairD p) = some (look ks (ks.map v) p) := by
    show (match (pairD p).pair with
      | some p => some (look ks (ks.map v) p)
      | none => none) = _
    rw [pair_pairD]
  unfold gInB
  rw [e, look_map]
  by_cases h : p ∈ ks
  · rw [if_pos h]; simp [h]
  · rw [if_neg h]; simp [h]
theorem in_dF {ks : List Pl} {v : Pl → D} {p : Pl} : gIn (pairD p) (dF ks v) = .ok (.bl (decide (p ∈ ks))) := by
  unfold gIn
  rw [gInB_dF]
theorem notIn_dF {ks : List Pl} {v : Pl → D} {p : Pl} : gNotIn (pairD p) (dF ks v) = .ok (.bl (!decide (p ∈ ks))) := by
  unfold gNotIn
  rw [gInB_dF]
theorem eqD_pair (p q : Pl) : eqD (pairD p) (pairD q) = decide (p = q) := by
  have := g_eq_pair p q
  unfold gEq at this
  rw [if_pos ⟨okD_pair p (by omega), okD_pair q (by omega)⟩] at this
  injection this with h
  injection h
theorem okDs_pairs (L : List Pl) {n : Nat} (hn : 0 < n) : okDs n (L.map pairD) = true := okDs_iff.mpr fun d hd => by
  obtain ⟨p, _, rfl⟩ := List.mem_map.mp hd
  exact okD_pair p hn
theorem gInB_lst {L : List Pl} {p : Pl} : gInB (pairD p) (lstD L) = some (decide (p ∈ L)) := by
  have e : dlook (lstD L) (pairD p) = none := rfl
  unfold gInB
  rw [e]
  show (if _ then _ else _) = _
  rw [if_pos ⟨okD_pair p (by omega), okDs_pairs L (by omega)⟩, List.any_map]
  congr 1
  rw [Bool.eq_iff_iff, List.any_eq_true, decide_eq_true_eq]
  constructor
  · rintro ⟨q, hq, e⟩
    have e' : eqD (pairD q) (pairD p) = true := e
    rw [eqD_pair, decide_eq_true_eq] at e'
    exact e' ▸ hq
  · intro hp
    refine ⟨p, hp, ?_⟩
    show eqD (pairD p) (pairD p) = true
    rw [eqD_pair]
    simp
theorem in_lst {L : List Pl} {p : Pl} : gIn (pairD p) (lstD L) = .ok (.bl (decide (p ∈ L))) := by
  unfold gIn
  rw [gInB_lst]
theorem notIn_lst {L : List Pl} {p : Pl} : gNotIn (pairD p) (lstD L) = .ok (.bl (!decide (p ∈ L))) := by
  unfold gNotIn
  rw [gInB_lst]
section
variable {h w : Nat} {rl : Pl → Ru}
/-- the table that is told -/
noncomputable def tabD (h w : Nat) (v : Pl → D) : D := .node .lst ((List.range h).map fun (r : Nat) => .node .lst ((List.range w).map fun (c : Nat) => v ((r : Int), (c : Int))))
theorem get_row {kd : D} {g : Pl → D} {r : Int} (hd : isDic kd = true) (hw : w < 100000) (hg : ∀ c : Nat, c < w → gGet kd (pairD (r, (c : Int))) = .ok (g (r, (c : Int))) ∧ (g (r, (c : Int))).imm = true) (s0 s2 s3 s4 s5 : Slot) (h4 : s4 = .ro (.int r)) (h1 : s2 = .ow kd) :
    lcR 5 mYes (mImm (mGet (mVar 1) (mTup (mCons (mImm (mVar 4)) (mCons (mImm (mVar 5)) mNil))))) (rangeD 0 w) [s0, s2, s3, s5, s4, .un] = .ok (.node .lst ((List.range w).map fun (c : Nat) => g (r, (c : Int)))) := by
  subst h4 h1
  unfold lcR
  rw [rangeD_len, if_pos hw, lcL_map (g := fun d => match d with | .int c => g (r, c) | d => d) fun x hx => ?_]
  · rw [R.bind_ok]
    unfold rangeD
    rw [List.map_map]
    refine congrArg (fun l => R.ok (D.node .lst l)) (List.map_congr_left fun c hc => ?_)
    simp only [Function.comp, Int.zero_add]
  · unfold rangeD at hx
    obtain ⟨c, hc, rfl⟩ := List.mem_map.mp hx
    have hc := List.mem_range.mp hc
    obtain ⟨e1, e2⟩ := hg c hc
    rw [← Int.zero_add (c : Int)] at e1 e2
    exact ⟨rfl, by simp -implicitDefEqProofs [-Int.zero_add, hd, pair_mk, e1, e2]⟩
theorem reckoned_run (k : ShOk h w rl) : f_reckoned [shD h w rl] = .ok (tabD h w (valD rl)) := by
  obtain ⟨L, es, S⟩ := settled_run k
  have hl := k.len
  have hL : L.length ≤ 144 := Nat.le_trans (nodup_len S.nd fun p hp => ((S.iff p).mp hp).1) hl
  unfold f_reckoned
  refine run_o (ρ0 := [.ro (shD h w rl), .un, .un, .un, .un, .un]) rfl ?_
  unfold m_reckoned
  refine seqF (ρ' := [.ro (shD h w rl), .ow (dF [] fun p => .int (Sv rl p)), .un, .un, .un, .un]) (by simp -implicitDefEqProofs [mDT]) ?_
  refine seqX (for_ex (xs := L.map pairD) (fun i ρ => ∃ s2, ρ = [.ro (shD h w rl), .ow (dF (L.take i) fun p => .int (Sv rl p)), s2, .un, .un, .un]) (d := lstD L) (by simp -implicitDefEqProofs [-List.map_map, es]) rfl ⟨_, rfl⟩ (by
    rintro i x _ hx ⟨s2, rfl⟩
    have hi : i < L.length := by have := (List.getElem?_eq_some_iff.mp hx).1; simpa using this
    have ex : x = pairD L[i] := by
      rw [List.getElem?_map, List.getElem?_eq_getElem hi] at hx
      exact (Option.some.inj hx).symm
    subst ex
    have hm := (S.iff L[i]).mp (List.getElem_mem hi)
    have r1 := rule_run (h := h) (w := w) (rl := rl) (p := L[i])
    rw [if_pos (onP_iff.mpr hm.1)] at r1
    have td := told_run (t := 0) (h := h) (l := 0) (w := w) k.sm (kd := dF (L.take i) fun p => .int (Sv rl p)) (f := Sv rl) (S := fun q => q ∈ L.take i) Sv_fit (fun q hq => ix_dF hq) 40 (rl L[i]) (by have := k.dep L[i]; omega) (k.box _ hm.1) fun q hq => S.ord i _ (List.getElem?_eq_getElem hi) q ((Ru.lst_mem _).mpr hq)
    rw [← Sv_eq hm.2] at td
    have pt := put_same (ks := L.take i) (v := fun p => .int (Sv rl p)) (p := L[i]) (by rw [List.length_take]; omega) rfl
    have e1 : insK (L.take i) L[i] = L.take (i + 1) := by
      unfold insK
      rw [if_neg (take_nd S.nd hi)]
      simp
    rw [e1] at pt
    refine ⟨_, ?_, .ro (pairD L[i]), rfl⟩
    simp -implicitDefEqProofs [-List.map_take, r1, td, pt])) ?_
  rintro _ ⟨s2, rfl⟩
  rw [List.length_map, List.take_length]
  refine seqF (ρ' := [.ro (shD h w rl), .ow (dF L fun p => .int (Sv rl p)), s2, .ow (.node .lst []), .un, .un]) (by simp -implicitDefEqProofs) ?_
  have f0 : fldD 0 (shD h w rl) = .ok (.int h) := rfl
  have f1 : fldD 1 (shD h w rl) = .ok (.int w) := rfl
  have hw12 := k.hw.2
  have hh12 := k.hh.2
  have gv : ∀ p, p ∈ boxP 0 h 0 w → gGet (dF L fun p => .int (Sv rl p)) (pairD p) = .ok (valD rl p) := fun p hp => by
    rw [gGet_dF]
    unfold valD
    by_cases g : Good rl p
    · rw [if_pos ((S.iff p).mpr ⟨hp, g⟩), if_pos g]
    · rw [if_neg fun z => g ((S.iff p).mp z).2, if_neg g]
  refine seqX (forR_ex (lo := 0) (n := h) (ds := [.int h]) (fun i ρ => ∃ s4, ρ = [.ro (shD h w rl), .ow (dF L fun p => .int (Sv rl p)), s2, .ow (.node .lst ((List.range i).map fun (r : Nat) => .node .lst ((List.range w).map fun (c : Nat) => valD rl ((r : Int), (c : Int))))), s4, .un]) (by simp -implicitDefEqProofs [f0]) (by simp) ⟨_, rfl⟩ (by
    rintro i _ hi ⟨s4, rfl⟩
    have row := get_row (w := w) (kd := dF L fun p => .int (Sv rl p)) (g := valD rl) (r := 0 + (i : Int)) rfl (by omega) (fun c hc => ⟨gv _ (mem_boxP.mpr (by simp only; omega)), valD_imm⟩) (.ro (shD h w rl)) _ s2 _ (.ow (.node .lst ((List.range i).map fun (r : Nat) => .node .lst ((List.range w).map fun (c : Nat) => valD rl ((r : Int), (c : Int)))))) rfl rfl
    refine ⟨_, ?_, .ro (.int (0 + (i : Int))), rfl⟩
    have hlen : ((List.range i).map fun (r : Nat) => D.node .lst ((List.range w).map fun (c : Nat) => valD rl ((r : Int), (c : Int)))).length < 100000 := by rw [List.length_map, List.length_range]; omega
    rw [ap_mut]
    simp -implicitDefEqProofs only [List.set_cons_succ, List.set_cons_zero, List.getElem?_cons_succ, List.getElem?_cons_zero, Slot.own_ow, ap_root, R.toS_ok, atP_none, oS_some, ty_lst, if_true, ap_cons, ap_nil, ap_lcR, ap_fld, ap_var, Slot.val_ro, R.bind_ok, f1, rng_1, Int.toNat_natCast, oR_some, row, putIn_none, app_lst, hlen, ap_setOw]
    congr 5
    rw [List.range_succ, List.map_append]
    simp)) ?_
  rintro _ ⟨s4, rfl⟩
  simp -implicitDefEqProofs [tabD]
end
theorem sorted_lst {L : List Pl} : gSorted [lstD L] = .ok (lstD (sortP L)) := by
  unfold gSorted
  simp only [pairsOf_map]
section
variable {h w : Nat} {rl : Pl → Ru} {s : Pl}
open Classical in
/-- what is touched -/
noncomputable def tchP (h w : Nat) (rl : Pl → Ru) (s : Pl) : List Pl := (boxP 0 h 0 w).filter fun p => decide (Tch rl (boxP 0 h 0 w) s p)
structure Rch (h w : Nat) (rl : Pl → Ru) (s : Pl) (a : Nat) (F : List Pl) : Prop where
  nd : F.Nodup
  tch : ∀ p ∈ F, Tch rl (boxP 0 h 0 w) s p
  fst : s ∈ F
  le : a ≤ F.length
  cl : ∀ i p, i < a → F[i]? = some p → ∀ u ∈ usersP h w rl p, u ∈ F
theorem touched_off (h w : Nat) (rl : Pl → Ru) (s : Pl) (hs : onP h w s = false) : f_touched [shD h w rl, pairD s] = .exc 2 := by
  have r1 := rule_run (h := h) (w := w) (rl := rl) (p := s)
  rw [if_neg (by rw [hs]; simp)] at r1
  unfold f_touched
  rw [run_out]
  unfold m_touched
  simp -implicitDefEqProofs [r1]
theorem touched_run (k : ShOk h w rl) (hs : s ∈ boxP 0 h 0 w) : f_touched [shD h w rl, pairD s] = .ok (lstD (tchP h w rl s)) := by
  have hl := k.len
  have ur := users_of_run k
  have r1 := rule_run (h := h) (w := w) (rl := rl) (p := s)
  rw [if_pos (onP_iff.mpr hs)] at r1
  unfold f_touched
  refine run_o (ρ0 := [.ro (shD h w rl), .ro (pairD s), .un, .un, .un, .un]) rfl ?_
  unfold m_touched
  generalize hU : dF (boxP 0 h 0 w) (fun p => lstD (usersP h w rl p)) = users at ur
  refine seqF (ρ' := [.ro (shD h w rl), .ro (pairD s), .un, .un, .un, .un]) (by simp -implicitDefEqProofs [r1]) ?_
  refine seqF (ρ' := [.ro (shD h w rl), .ro (pairD s), .ow users, .un, .un, .un]) (by simp -implicitDefEqProofs [ur]) ?_
  refine seqF (ρ' := [.ro (shD h w rl), .ro (pairD s), .ow users, .ow (lstD [s]), .un, .un]) (by simp -implicitDefEqProofs [pair_mk]) ?_
  refine seqF (ρ' := [.ro (shD h w rl), .ro (pairD s), .ow users, .ow (lstD [s]), .ow (.int 0), .un]) (by simp -implicitDefEqProofs) ?_
  refine seqX (P := fun ρ => ∃ F s0 s1 s2 s4 s5, Rch h w rl s F.length F ∧ ρ = [s0, s1, s2, .ow (lstD F), s4, s5]) (frz_ex (d := users) rfl ?_) ?_
  · obtain ⟨ρ', e, P⟩ := while_ex (c := mTest (mBin gLt (mVar 4) (mCall gLen (mCons (mVar 3) mNil)))) (body := mSeq (mFor 5 (mBinE gIx (mRo 2) (mBinE gIx (mVar 3) (mVar 4))) (mIf (mTest (mBin gNotIn (mVar 5) (mVar 3))) (mMut "list" gAppend 3 pRoot (mCons (mImm (mVar 5)) mNil)) mNx))
    (mSet 4 (mBin gAdd (mVar 4) (mC (.int 1)))))
      (ρ := [.ro (shD h w rl), .ro (pairD s), .ro users, .ow (lstD [s]), .ow (.int 0), .un])
      (P := fun ρ => ∃ F s5, Rch h w rl s F.length F ∧ ρ = [.ro (shD h w rl), .ro (pairD s), .ro users, .ow (lstD F), .ow (.int F.length), s5])
      (fun a ρ => ∃ F s5, Rch h w rl s a F ∧ ρ = [.ro (shD h w rl), .ro (pairD s), .ro users, .ow (lstD F), .ow (.int a), s5]) 145 1000000 (by omega)
      ⟨[s], _, ⟨by simp, fun p hp => by rw [List.mem_singleton.mp hp]; exact .base, by simp, by simp, fun i p hi => absurd hi (Nat.not_lt_zero _)⟩, rfl⟩ (by
        rintro a _ ⟨F, s5, RC, rfl⟩
        have fl : F.length ≤ (boxP 0 h 0 w).length := nodup_len RC.nd fun p hp => (RC.tch p hp).sub hs
        by_cases hc : a < F.length
        · refine .inr ⟨by omega, by simp -implicitDefEqProofs [hc], ?_⟩
          obtain ⟨d, hd⟩ : ∃ d, F[a]? = some d := ⟨_, List.getElem?_eq_getElem hc⟩
          have hdF := List.mem_of_getElem? hd
          have hdB := (RC.tch d hdF).sub hs
          have gd : gIx (lstD F) (.int (a : Int)) = .ok (pairD d) := gIx_at (k := a) rfl rfl (by rw [List.getElem?_map, hd]; rfl)
          have gu := ix_dF (v := fun p => lstD (usersP h w rl p)) hdB
          rw [hU] at gu
          refine seqC (C := fun r => ∃ ρ', r = .nx ρ' ∧ ∃ F s5, Rch h w rl s (a + 1) F ∧ ρ' = [.ro (shD h w rl), .ro (pairD s), .ro users, .ow (lstD F), .ow (.int ((a + 1 : Nat) : Int)), s5])
            (for_ex (xs := (usersP h w rl d).map pairD) (fun j ρ => ∃ F' s5, (F'.Nodup ∧ (∀ p ∈ F', Tch rl (boxP 0 h 0 w) s p) ∧ F <+: F' ∧ ∀ u ∈ (usersP h w rl d).take j, u ∈ F') ∧ ρ = [.ro (shD h w rl), .ro (pairD s), .ro users, .ow (lstD F'), .ow (.int a), s5])
              (d := lstD (usersP h w rl d)) (by simp -implicitDefEqProofs only [ap_binE, ap_ro, List.getElem?_cons_succ, List.getElem?_cons_zero, Slot.walk_ro, R.bind_ok, ap_var, Slot.val_ow, gd, R.only_ok, gu]) rfl ⟨F, s5, ⟨RC.nd, RC.tch, List.prefix_refl _, fun u hu => by cases hu⟩, rfl⟩ ?_) ?_
          · rintro j x _ hx ⟨F', s5, ⟨nd, tc, pre, cl⟩, rfl⟩
            have hj : j < (usersP h w rl d).length := by have := (List.getElem?_eq_some_iff.mp hx).1; simpa using this
            have ex : x = pairD (usersP h w rl d)[j] := by
              rw [List.getElem?_map, List.getElem?_eq_getElem hj] at hx
              exact (Option.some.inj hx).symm
            subst ex
            have hu : (usersP h w rl d)[j] ∈ usersP h w rl d := List.getElem_mem hj
            have tk2 : (usersP h w rl d).take (j + 1) = (usersP h w rl d).take j ++ [(usersP h w rl d)[j]] := by simp
            generalize (usersP h w rl d)[j] = u at hu tk2
            have fl' : F'.length ≤ (boxP 0 h 0 w).length := nodup_len nd fun p hp => (tc p hp).sub hs
            have ni := notIn_lst (L := F') (p := u)
            by_cases hin : u ∈ F'
            · refine ⟨[.ro (shD h w rl), .ro (pairD s), .ro users, .ow (lstD F'), .ow (.int a), .ro (pairD u)], ?_, F', _, ⟨nd, tc, pre, fun v hv => ?_⟩, rfl⟩
              · rw [show (!decide (u ∈ F')) = false by simp [hin]] at ni
                simp -implicitDefEqProofs [-List.map_map, ni]
              · rw [tk2] at hv
                rcases List.mem_append.mp hv with q | q
                · exact cl v q
                · rw [List.mem_singleton.mp q]; exact hin
            · refine ⟨[.ro (shD h w rl), .ro (pairD s), .ro users, .ow (lstD (F' ++ [u])), .ow (.int a), .ro (pairD u)], ?_, F' ++ [u], _, ⟨?_, ?_, pre.trans (List.prefix_append _ _), fun v hv => ?_⟩, rfl⟩
              · rw [show (!decide (u ∈ F')) = true by simp [hin]] at ni
                have hfl : F'.length < 100000 := by omega
                simp -implicitDefEqProofs [-List.map_map, ni, hfl]
              · refine List.nodup_append.mpr ⟨nd, by simp, fun x hx y hy e => ?_⟩
                rw [List.mem_singleton.mp hy] at e
                exact hin (e ▸ hx)
              · intro p hp
                rcases List.mem_append.mp hp with q | q
                · exact tc p q
                · rw [List.mem_singleton.mp q]
                  have := mem_usersP.mp hu
                  exact .step (RC.tch d hdF) this.2 this.1
              · rw [tk2] at hv
                rcases List.mem_append.mp hv with q | q
                · exact List.mem_append_left _ (cl v q)
                · exact List.mem_append_right _ q
          · rintro _ ⟨F', s5, ⟨nd, tc, pre, cl⟩, rfl⟩
            rw [List.length_map, List.take_length] at cl
            have pl := pre.length_le
            refine ⟨_, by simp -implicitDefEqProofs only [ap_set, ap_bin, ap_var, List.getElem?_cons_succ, List.getElem?_cons_zero, Slot.val_ow, ap_c, R.bind_ok, g_add, R.only_ok, R.toS_ok, List.set_cons_succ, List.set_cons_zero]; rfl, F', s5, ⟨nd, tc, pre.subset RC.fst, by omega, fun i p hi hp u hu => ?_⟩, rfl⟩
            have ei : F'[i]? = F[i]? := by
              obtain ⟨M, rfl⟩ := pre
              rw [List.getElem?_append_left (by omega)]
            rw [ei] at hp
            by_cases e : i = a
            · subst e
              rw [hd] at hp
              cases hp
              exact cl u hu
            · exact pre.subset (RC.cl i p (by omega) hp u hu)
        · refine .inl ⟨by simp -implicitDefEqProofs [hc], F, s5, ?_, ?_⟩
          · have e : a = F.length := by have := RC.le; omega
            rw [← e]; exact RC
          · have e : a = F.length := by have := RC.le; omega
            rw [e])
    obtain ⟨F, s5, RC, e2⟩ := P
    subst e2
    exact ⟨_, e, F, _, _, _, _, _, RC, rfl⟩
  · rintro _ ⟨F, s0, s1, s2, s4, s5, RC, rfl⟩
    have all : ∀ p, Tch rl (boxP 0 h 0 w) s p → p ∈ F := fun p t => by
      induction t with
      | base => exact RC.fst
      | step t n hp ih =>
        obtain ⟨i, hi⟩ := List.mem_iff_getElem?.mp ih
        exact RC.cl i _ (List.getElem?_eq_some_iff.mp hi).1 hi _ (mem_usersP.mpr ⟨hp, n⟩)
    have K : KeysOf (boxP 0 h 0 w) (Tch rl (boxP 0 h 0 w) s) F := ⟨RC.nd, fun p => ⟨RC.tch p, all p⟩, fun p t => t.sub hs⟩
    have e : sortP F = tchP h w rl s := by
      classical
      refine (keys_due K.sort (sortP_up F) (q := fun p => decide (Tch rl (boxP 0 h 0 w) s p)) fun p => by rw [decide_eq_true_eq]).trans ?_
      unfold tchP
      refine List.filter_congr fun p _ => ?_
      congr
    have sl := sorted_lst (L := F)
    rw [e] at sl
    simp -implicitDefEqProofs only [ap_ret, ap_call, ap_cons, ap_nil, ap_var, List.getElem?_cons_succ, List.getElem?_cons_zero, Slot.val_ow, R.bind_ok, sl, R.only_ok, R.toS_ok, RS.out_rt]
end
end Rs

set_option maxRecDepth 100000
/-! RsP5: ring. -/
namespace Rs
open PySem PySem.Spec PyProof.Rows L2
theorem while_ret {c : Evn → R Bool} {body : Evn → RS} {ρ : Evn} {P : D → Prop} (I : Nat → Evn → Prop) (N fuel : Nat) (hf : N < fuel) (h0 : I 0 ρ) (hs : ∀ k ρ, I k ρ → c ρ = .ok true ∧ ((∃ d ρ', body ρ = .rt d ρ' ∧ P d) ∨ (k < N ∧ ∃ ρ', body ρ = .nx ρ' ∧ I (k + 1) ρ'))) : ∃ d ρ', whileL c body fuel ρ = .rt d ρ' ∧ P d := by
  have key : ∀ (j k : Nat) (ρ : Evn), N - k < j → I k ρ → ∃ d ρ', whileL c body j ρ = .rt d ρ' ∧ P d := by
    intro j
    induction j with
    | zero => intro k ρ h; omega
    | succ j ih =>
      intro k ρ h p
      obtain ⟨e, q⟩ := hs k ρ p
      rcases q with ⟨d, ρ', eb, p'⟩ | ⟨hk, ρ', eb, p'⟩
      · refine ⟨d, ρ', ?_, p'⟩
        unfold whileL
        rw [e]
        simp only [if_true, eb]
      · obtain ⟨d, ρ2, e2, q⟩ := ih (k + 1) ρ' (by omega) p'
        refine ⟨d, ρ2, ?_, q⟩
        unfold whileL
        rw [e]
        simp only [if_true, eb]
        exact e2
  exact key fuel 0 ρ (by omega) h0
/-- a ring: each needs the next one, the last one the first -/
structure Ring (rl : Pl → Ru) (B R : List Pl) : Prop where
  ne : R ≠ []
  nd : R.Nodup
  sub : ∀ p ∈ R, p ∈ B ∧ ¬ Good rl p
  nxt : ∀ i p q, R[i]? = some p → R[(i + 1) % R.length]? = some q → Nd rl q p
structure Way (h w : Nat) (rl : Pl → Ru) (W : List Pl) : Prop where
  ne : W ≠ []
  nd : W.Nodup
  sub : ∀ p ∈ W, p ∈ boxP 0 h 0 w ∧ ¬ Good rl p
  nxt : ∀ i p q, W[i]? = some p → W[i + 1]? = some q → Nd rl q p
theorem sl_from {xs : List D} {j : Nat} (hi : D.imms xs = true) (hj : j ≤ xs.length) : gSl (.node .lst xs) (some (j : Int)) none = .ok (.node .lst (xs.drop j)) := by
  have e1 : HT.sIx xs.length 0 (some (j : Int)) = j := by rw [HT.sIx_nat]; omega
  have e2 : HT.sIx xs.length xs.length none = xs.length := rfl
  show (if _ then _ else _) = _
  rw [if_pos hi]
  unfold cutD
  rw [e1, e2, List.take_of_length_le (by rw [List.length_drop]; exact Nat.le_refl _)]
theorem index_lst {L : List Pl} {p : Pl} (hp : p ∈ L) : ∃ j, gIndex (lstD L) (pairD p) = .ok (.int (j : Nat)) ∧ L[j]? = some p := by
  cases e : L.findIdx? fun q => decide (q = p) with
  | none =>
    have := List.findIdx?_eq_none_iff.mp e p hp
    simp at this
  | some j =>
    obtain ⟨hlt, hz, _⟩ := List.findIdx?_eq_some_iff_getElem.mp e
    refine ⟨j, ?_, by rw [List.getElem?_eq_getElem hlt, of_decide_eq_true hz]⟩
    show (if _ then _ else _) = _
    rw [if_pos ⟨okD_pair p (by omega), okDs_pairs L (by omega)⟩]
    have e2 : (L.map pairD).findIdx? (fun z => eqD z (pairD p)) = L.findIdx? fun q => decide (q = p) := by
      rw [List.findIdx?_map]
      congr 1
      funext q
      exact eqD_pair q p
    rw [e2, e]
theorem gIx_last {xs : List D} {x : D} : gIx (.node .lst (xs ++ [x])) (.int (-1)) = .ok x := gIx_back (k := xs.length) rfl (by decide) (by simp; omega) (by simp)
theorem eq_nil_pairs (L : List Pl) : gEq (lstD L) (.node .lst []) = .ok (.bl L.isEmpty) := by
  unfold gEq
  rw [if_pos ⟨okD_pairs L, by rfl⟩]
  cases L with
  | nil => rfl
  | cons p L => rfl
section
variable {h w : Nat} {rl : Pl → Ru}
theorem ring_run (k : ShOk h w rl) : ((∀ p ∈ boxP 0 h 0 w, Good rl p) ∧ f_ring [shD h w rl] = .ok .non) ∨ ((¬ ∀ p ∈ boxP 0 h 0 w, Good rl p) ∧ ∃ RL, f_ring [shD h w rl] = .ok (lstD RL) ∧ Ring rl (boxP 0 h 0 w) RL) := by
  obtain ⟨L, es, S⟩ := settled_run k
  have hl := k.len
  have hL : L.length ≤ 144 := Nat.le_trans (nodup_len S.nd fun p hp => ((S.iff p).mp hp).1) hl
  have pl : f_Sh_places [shD h w rl] = .ok (.node .lst ((boxP 0 h 0 w).map pairD)) := places_run k.hh.1 k.hw.1 k.sm
  have nr := needs_of_run k
  suffices q : (∀ p ∈ boxP 0 h 0 w, Good rl p) ∧ f_ring [shD h w rl] = .ok .non ∨ (¬ ∀ p ∈ boxP 0 h 0 w, Good rl p) ∧ ∃ RL, f_ring [shD h w rl] = .ok (lstD RL) ∧ Ring rl (boxP 0 h 0 w) RL from q
  unfold f_ring
  refine run_c (C := fun r => (∀ p ∈ boxP 0 h 0 w, Good rl p) ∧ r = .ok .non ∨ (¬ ∀ p ∈ boxP 0 h 0 w, Good rl p) ∧ ∃ RL, r = .ok (lstD RL) ∧ Ring rl (boxP 0 h 0 w) RL) (ρ0 := [.ro (shD h w rl), .un, .un, .un, .un, .un, .un]) rfl ?_
  unfold m_ring
  generalize hN : dF (boxP 0 h 0 w) (fun p => lstD (needP h w (rl p))) = needs at nr
  refine seqC (C := fun r => (∀ p ∈ boxP 0 h 0 w, Good rl p) ∧ r.out = .ok .non ∨ (¬ ∀ p ∈ boxP 0 h 0 w, Good rl p) ∧ ∃ RL, r.out = .ok (lstD RL) ∧ Ring rl (boxP 0 h 0 w) RL) (P := fun ρ => ρ = [.ro (shD h w rl), .ow needs, .un, .un, .un, .un, .un]) ⟨_, by simp -implicitDefEqProofs [nr], rfl⟩ ?_
  rintro _ rfl
  refine seqC (C := fun r => (∀ p ∈ boxP 0 h 0 w, Good rl p) ∧ r.out = .ok .non ∨ (¬ ∀ p ∈ boxP 0 h 0 w, Good rl p) ∧ ∃ RL, r.out = .ok (lstD RL) ∧ Ring rl (boxP 0 h 0 w) RL) (P := fun ρ => ρ = [.ro (shD h w rl), .ow needs, .ow (dF [] fun _ => .bl true), .un, .un, .un, .un]) ⟨_, by simp -implicitDefEqProofs [mDT], rfl⟩ ?_
  rintro _ rfl
  refine seqC (C := fun r => (∀ p ∈ boxP 0 h 0 w, Good rl p) ∧ r.out = .ok .non ∨ (¬ ∀ p ∈ boxP 0 h 0 w, Good rl p) ∧ ∃ RL, r.out = .ok (lstD RL) ∧ Ring rl (boxP 0 h 0 w) RL)
    (for_ex (xs := L.map pairD) (fun i ρ => ∃ s3, ρ = [.ro (shD h w rl), .ow needs, .ow (dF (L.take i) fun _ => .bl true), s3, .un, .un, .un]) (d := lstD L) (by simp -implicitDefEqProofs [-List.map_map, es]) rfl ⟨_, rfl⟩ (by
    rintro i x _ hx ⟨s3, rfl⟩
    have hi : i < L.length := by have := (List.getElem?_eq_some_iff.mp hx).1; simpa using this
    have ex : x = pairD L[i] := by
      rw [List.getElem?_map, List.getElem?_eq_getElem hi] at hx
      exact (Option.some.inj hx).symm
    subst ex
    have pt := put_same (ks := L.take i) (v := fun _ => .bl true) (p := L[i]) (by rw [List.length_take]; omega) rfl
    have e1 : insK (L.take i) L[i] = L.take (i + 1) := by
      unfold insK
      rw [if_neg (take_nd S.nd hi)]
      simp
    rw [e1] at pt
    refine ⟨_, ?_, .ro (pairD L[i]), rfl⟩
    simp -implicitDefEqProofs [-List.map_take, pt])) ?_
  rintro _ ⟨s3, rfl⟩
  rw [List.length_map, List.take_length]
  let stuck := (boxP 0 h 0 w).filter fun p => !decide (p ∈ L)
  have hst : ∀ p, p ∈ stuck ↔ p ∈ boxP 0 h 0 w ∧ ¬ Good rl p := fun p => by
    show p ∈ (boxP 0 h 0 w).filter _ ↔ _
    rw [List.mem_filter]
    simp only [Bool.not_eq_true', decide_eq_false_iff_not]
    exact ⟨fun z => ⟨z.1, fun g => z.2 ((S.iff p).mpr ⟨z.1, g⟩)⟩, fun z => ⟨z.1, fun q => z.2 ((S.iff p).mp q).2⟩⟩
  have lcs : ∀ (s4 s5 s6 : Slot), lcR 3 (mTest (mBin gNotIn (mVar 3) (mVar 2))) (mImm (mVar 3)) ((boxP 0 h 0 w).map pairD) [.ro (shD h w rl), .ow needs, .ow (dF L fun _ => .bl true), s3, s4, s5, s6] = .ok (lstD stuck) := fun s4 s5 s6 => by
    unfold lcR
    rw [List.length_map, if_pos (by omega)]
    rw [lcL_filter (p := fun d => !decide (posD d ∈ L)) (g := fun d => d) fun x hx => ?_]
    · rw [R.bind_ok, List.map_id', List.filter_map]
      rfl
    · obtain ⟨p, hp, rfl⟩ := List.mem_map.mp hx
      have := notIn_dF (ks := L) (v := fun _ => .bl true) (p := p)
      exact ⟨by simp -implicitDefEqProofs [this], fun _ => by simp -implicitDefEqProofs⟩
  refine seqC (C := fun r => (∀ p ∈ boxP 0 h 0 w, Good rl p) ∧ r.out = .ok .non ∨ (¬ ∀ p ∈ boxP 0 h 0 w, Good rl p) ∧ ∃ RL, r.out = .ok (lstD RL) ∧ Ring rl (boxP 0 h 0 w) RL) (P := fun ρ => ρ = [.ro (shD h w rl), .ow needs, .ow (dF L fun _ => .bl true), s3, .ow (lstD stuck), .un, .un]) ⟨_, by simp -implicitDefEqProofs [-List.map_map, pl, lcs], rfl⟩ ?_
  rintro _ rfl
  have en := eq_nil_pairs stuck
  by_cases hem : stuck = []
  · have all : ∀ p ∈ boxP 0 h 0 w, Good rl p := fun p hp => Classical.byContradiction fun g => by
      have := (hst p).mpr ⟨hp, g⟩
      rw [hem] at this
      cases this
    refine .inl ⟨all, ?_⟩
    rw [hem] at en ⊢
    have en' : gEq (lstD []) (.node .lst []) = .ok (.bl true) := en
    simp -implicitDefEqProofs [en']
  · obtain ⟨p0, rest, hs0⟩ : ∃ p0 rest, stuck = p0 :: rest := by
      cases e : stuck with
      | nil => exact absurd e hem
      | cons p0 rest => exact ⟨p0, rest, rfl⟩
    have h0 := (hst p0).mp (by rw [hs0]; simp)
    refine .inr ⟨fun all => h0.2 (all p0 h0.1), ?_⟩
    have en' : gEq (lstD stuck) (.node .lst []) = .ok (.bl false) := by rw [en, hs0]; rfl
    refine seqC (C := fun r => ∃ RL, r.out = .ok (lstD RL) ∧ Ring rl (boxP 0 h 0 w) RL) (P := fun ρ => ρ = [.ro (shD h w rl), .ow needs, .ow (dF L fun _ => .bl true), s3, .ow (lstD stuck), .un, .un]) ⟨_, by simp -implicitDefEqProofs [-List.map_map, en'], rfl⟩ ?_
    rintro _ rfl
    have g0 : gIx (lstD stuck) (.int 0) = .ok (pairD p0) := by rw [hs0]; exact ix_l0
    refine seqC (C := fun r => ∃ RL, r.out = .ok (lstD RL) ∧ Ring rl (boxP 0 h 0 w) RL) (P := fun ρ => ρ = [.ro (shD h w rl), .ow needs, .ow (dF L fun _ => .bl true), s3, .ow (lstD stuck), .ow (lstD [p0]), .un]) ⟨_, by simp -implicitDefEqProofs [-List.map_map, g0], rfl⟩ ?_
    rintro _ rfl
    obtain ⟨d, ρ', e, RL, hd, hR⟩ := while_ret (c := mTest (mC (.bl true))) (body := mSeq (mSet 6 (mImm (mBinE gIx (mLc 3 (mBinE gIx (mVar 1) (mBinE gIx (mVar 5) (mUn gNeg (mC (.int 1))))) (mTest (mBin gNotIn (mVar 3) (mVar 2))) (mImm (mVar 3))) (mC (.int 0)))))
    (mSeq (mIf (mTest (mBin gIn (mVar 6) (mVar 5))) (mRet (mSl (mVar 5) (mPart (mIndex (mVar 5) (mVar 6))) mNoPart)) mNx)
    (mMut "list" gAppend 5 pRoot (mCons (mImm (mVar 6)) mNil))))
      (ρ := [.ro (shD h w rl), .ow needs, .ow (dF L fun _ => .bl true), s3, .ow (lstD stuck), .ow (lstD [p0]), .un])
      (P := fun d => ∃ RL, d = lstD RL ∧ Ring rl (boxP 0 h 0 w) RL)
      (fun i ρ => ∃ W s6, W.length = i + 1 ∧ Way h w rl W ∧ ρ = [.ro (shD h w rl), .ow needs, .ow (dF L fun _ => .bl true), s3, .ow (lstD stuck), .ow (lstD W), s6]) 145 1000000 (by omega)
      ⟨[p0], _, rfl, ⟨by simp, by simp, fun p hp => by rw [List.mem_singleton.mp hp]; exact h0, fun i p q hp hq => by simp at hq⟩, rfl⟩ (by
        rintro i _ ⟨W, s6, hW, Y, rfl⟩
        refine ⟨rfl, ?_⟩
        obtain ⟨W', x, rfl⟩ := one_last Y.ne
        have wl : (W' ++ [x]).length ≤ (boxP 0 h 0 w).length := nodup_len Y.nd fun p hp => (Y.sub p hp).1
        have hx := Y.sub x (by simp)
        have gw : gIx (lstD (W' ++ [x])) (.int (-1)) = .ok (pairD x) := by
          show gIx (.node .lst ((W' ++ [x]).map pairD)) _ = _
          rw [List.map_append]
          exact gIx_last
        have gn := ix_dF (v := fun p => lstD (needP h w (rl p))) hx.1
        rw [hN] at gn
        obtain ⟨y, ys, hy⟩ : ∃ y ys, (needP h w (rl x)).filter (fun p => !decide (p ∈ L)) = y :: ys := by
          cases e : (needP h w (rl x)).filter (fun p => !decide (p ∈ L)) with
          | cons y ys => exact ⟨y, ys, rfl⟩
          | nil =>
            refine absurd (Good.mk fun q n => ?_) hx.2
            have hq : q ∈ needP h w (rl x) := mem_needP.mpr ⟨k.nd hx.1 n, n⟩
            have := List.filter_eq_nil_iff.mp e q hq
            have : q ∈ L := by simpa using this
            exact ((S.iff q).mp this).2
        have hym : y ∈ needP h w (rl x) ∧ ¬ y ∈ L := by
          have : y ∈ (needP h w (rl x)).filter (fun p => !decide (p ∈ L)) := by rw [hy]; simp
          have := List.mem_filter.mp this
          exact ⟨this.1, by simpa using this.2⟩
        have nyx : Nd rl y x := (mem_needP.mp hym.1).2
        have hyg : y ∈ boxP 0 h 0 w ∧ ¬ Good rl y := ⟨(mem_needP.mp hym.1).1, fun g => hym.2 ((S.iff y).mpr ⟨(mem_needP.mp hym.1).1, g⟩)⟩
        have nl : (needP h w (rl x)).length < 100000 := by
          have := nodup_len (needP_nd (h := h) (w := w) (x := rl x)) fun p hp => (mem_needP.mp hp).1
          omega
        have lca : ∀ (s6 : Slot), lcR 3 (mTest (mBin gNotIn (mVar 3) (mVar 2))) (mImm (mVar 3)) ((needP h w (rl x)).map pairD) [.ro (shD h w rl), .ow needs, .ow (dF L fun _ => .bl true), s3, .ow (lstD stuck), .ow (lstD (W' ++ [x])), s6] = .ok (lstD (y :: ys)) := fun s6 => by
          unfold lcR
          rw [List.length_map, if_pos nl]
          rw [lcL_filter (p := fun d => !decide (posD d ∈ L)) (g := fun d => d) fun x hx => ?_]
          · rw [R.bind_ok, List.map_id', List.filter_map]
            have : (needP h w (rl x)).filter ((fun d => !decide (posD d ∈ L)) ∘ pairD) = y :: ys := hy
            rw [this]
          · obtain ⟨p, hp, rfl⟩ := List.mem_map.mp hx
            have := notIn_dF (ks := L) (v := fun _ => .bl true) (p := p)
            exact ⟨by simp -implicitDefEqProofs [this], fun _ => by simp -implicitDefEqProofs⟩
        have gy : gIx (lstD (y :: ys)) (.int 0) = .ok (pairD y) := ix_l0
        have ii := in_lst (L := W' ++ [x]) (p := y)
        have e1 : ∀ s2, mSeq (mSet 6 (mImm (mBinE gIx (mLc 3 (mBinE gIx (mVar 1) (mBinE gIx (mVar 5) (mUn gNeg (mC (.int 1))))) (mTest (mBin gNotIn (mVar 3) (mVar 2))) (mImm (mVar 3))) (mC (.int 0))))) s2 [.ro (shD h w rl), .ow needs, .ow (dF L fun _ => .bl true), s3, .ow (lstD stuck), .ow (lstD (W' ++ [x])), s6] = s2 [.ro (shD h w rl), .ow needs, .ow (dF L fun _ => .bl true), s3, .ow (lstD stuck), .ow (lstD (W' ++ [x])), .ow (pairD y)] := fun s2 => by
          simp -implicitDefEqProofs only [ap_seq, ap_set, ap_imm, ap_binE, ap_lc, ap_var, List.getElem?_cons_succ, List.getElem?_cons_zero, Slot.val_ow, R.bind_ok, ap_un, ap_c, g_neg, R.only_ok, gw, gn, sq_lst, oR_some, lca, gy, imm_pair, if_true, R.toS_ok, List.set_cons_succ, List.set_cons_zero, RS.thn_nx]
        rw [e1]
        by_cases hin : y ∈ W' ++ [x]
        · rw [show decide (y ∈ W' ++ [x]) = true by simpa using hin] at ii
          obtain ⟨j, gj, hj⟩ := index_lst hin
          have hjl := (List.getElem?_eq_some_iff.mp hj).1
          have ss := sl_from (xs := (W' ++ [x]).map pairD) (j := j) (imms_pairs _) (by rw [List.length_map]; omega)
          refine .inl ⟨lstD ((W' ++ [x]).drop j), [.ro (shD h w rl), .ow needs, .ow (dF L fun _ => .bl true), s3, .ow (lstD stuck), .ow (lstD (W' ++ [x])), .ow (pairD y)], ?_, _, rfl, ?_⟩
          · have ss' : gSl (lstD (W' ++ [x])) (some (j : Int)) none = .ok (lstD ((W' ++ [x]).drop j)) := by
              rw [show lstD ((W' ++ [x]).drop j) = .node .lst (((W' ++ [x]).map pairD).drop j) by rw [lstD, List.map_drop]]
              exact ss
            simp -implicitDefEqProofs only [ap_seq, ap_if, ap_test, ap_bin, ap_var, List.getElem?_cons_succ, List.getElem?_cons_zero, Slot.val_ow, R.bind_ok, ii, R.only_ok, R.bool_bl, R.toS_ok, if_true, ap_ret, ap_sl, ap_part, ap_nopart, ap_index, lst_is, gj, toPart_int, ss', RS.thn_rt]
          · have dl : ((W' ++ [x]).drop j).length = (W' ++ [x]).length - j := List.length_drop
            refine ⟨fun e => ?_, List.Nodup.sublist (List.drop_sublist _ _) Y.nd, fun p hp => Y.sub p (List.mem_of_mem_drop hp), fun a p q hp hq => ?_⟩
            · have := congrArg List.length e
              rw [dl] at this
              simp at this
              simp at hjl
              omega
            · rw [dl] at hq
              rw [List.getElem?_drop] at hp hq
              have hal := (List.getElem?_eq_some_iff.mp hp).1
              by_cases e : j + a + 1 = (W' ++ [x]).length
              · have e0 : (a + 1) % ((W' ++ [x]).length - j) = 0 := by
                  rw [show (W' ++ [x]).length - j = a + 1 by omega]
                  exact Nat.mod_self _
                rw [e0, Nat.add_zero, hj] at hq
                have hp' : p = x := by
                  have : j + a = W'.length := by simp at e; omega
                  rw [this] at hp
                  simpa using hp.symm
                cases hq
                rw [hp']
                exact nyx
              · have e1 : (a + 1) % ((W' ++ [x]).length - j) = a + 1 := Nat.mod_eq_of_lt (by omega)
                rw [e1, ← Nat.add_assoc] at hq
                exact Y.nxt (j + a) p q hp hq
        · rw [show decide (y ∈ W' ++ [x]) = false by simpa using hin] at ii
          have wl' : W'.length + 1 ≤ 144 := by
            simp at wl
            omega
          have hfl : ((W' ++ [x]).map pairD).length < 100000 := by simp; omega
          refine .inr ⟨by simp at hW; omega, [.ro (shD h w rl), .ow needs, .ow (dF L fun _ => .bl true), s3, .ow (lstD stuck), .ow (lstD (W' ++ [x] ++ [y])), .ow (pairD y)], ?_, W' ++ [x] ++ [y], .ow (pairD y), by simp at hW ⊢; omega, ⟨by simp, ?_, fun p hp => ?_, fun a p q hp hq => ?_⟩, rfl⟩
          · have fl : lstD (W' ++ [x] ++ [y]) = .node .lst ((W' ++ [x]).map pairD ++ [pairD y]) := by
              show D.node .lst _ = _
              rw [List.map_append (l₁ := W' ++ [x])]
              rfl
            rw [fl]
            simp -implicitDefEqProofs only [ap_seq, ap_if, ap_test, ap_bin, ap_var, List.getElem?_cons_succ, List.getElem?_cons_zero, Slot.val_ow, R.bind_ok, ii, R.only_ok, R.bool_bl, R.toS_ok, Bool.false_eq_true, if_false, ap_nx, RS.thn_nx, ap_mut, Slot.own_ow, ap_root, atP_none, oS_some, ty_lst, if_true, ap_cons, ap_nil, ap_imm, imm_pair, putIn_none, app_lst, hfl, ap_setOw, List.set_cons_succ, List.set_cons_zero]
          · refine List.nodup_append.mpr ⟨Y.nd, by simp, fun u hu v hv e => ?_⟩
            rw [List.mem_singleton.mp hv] at e
            exact hin (e ▸ hu)
          · rcases List.mem_append.mp hp with z | z
            · exact Y.sub p z
            · rw [List.mem_singleton.mp z]; exact hyg
          · have hql := (List.getElem?_eq_some_iff.mp hq).1
            by_cases e : a + 1 = (W' ++ [x]).length
            · rw [List.getElem?_append_right (by omega)] at hq
              rw [List.getElem?_append_left (by omega)] at hp
              have ha : a = W'.length := by simp at e; omega
              have hq' : q = y := by rw [e] at hq; simpa using hq.symm
              have hp' : p = x := by rw [ha] at hp; simpa using hp.symm
              rw [hq', hp']
              exact nyx
            · simp only [List.length_append, List.length_singleton] at hql e
              have h1 : a + 1 < (W' ++ [x]).length := by simp; omega
              rw [List.getElem?_append_left h1] at hq
              rw [List.getElem?_append_left (by omega)] at hp
              exact Y.nxt a p q hp hq)
    subst hd
    exact ⟨RL, by rw [e]; rfl, hR⟩
end
end Rs

set_option maxRecDepth 100000
/-! RsL: functions that several laws have, and sheets filled place by place. -/
namespace Rs
open PySem PySem.Spec PyProof.Rows L2
def m_l_mix : Evn → RS :=
    (mSeq (mSet 2 (mCall gMax2 (mCons (mC (.int 1)) (mCons (mBin gSub (mCall gLen (mCons (mVar 0) mNil)) (mC (.int 2))) mNil))))
    (mSeq (mSet 3 (mApp 2 f_l_cell_at (mCons (mVar 0) (mCons (mBin gAdd (mC (.int 2)) (mBin gMod (mVar 1) (mVar 2))) mNil))))
    (mSeq (mIf (mTest (mBin gLt (mVar 1) (mVar 2))) (mRetV 3) mNx)
    (mRet (mBin gMod (mBin gMul (mBin gAdd (mBin gMod (mVar 3) (mC (.int 1000003))) (mBin gMul (mC (.int 7919)) (mBin gDiv (mVar 1) (mVar 2)))) (mC (.int 48271))) (mC (.int 1000003)))))))
def f_l_mix : List D → R D := runP 2 4 m_l_mix
theorem mix_run {ns : List Int} (hn : ns.length ≤ 63) {k : Int} (hk : 0 ≤ k) : ∃ x : Int, f_l_mix [.node .fls (ns.map D.int), .int k] = .ok (.int x) := by
  have hm : (0 : Int) < max 1 ((ns.length : Int) - 2) ∧ max 1 ((ns.length : Int) - 2) < 1073741824 := by omega
  unfold f_l_mix
  rw [run_out]
  unfold m_l_mix
  generalize hM : max 1 ((ns.length : Int) - 2) = m at hm
  have g1 : gMod (.int k) (.int m) = .ok (.int (k % m)) := g_mod hm.1
  have g2 : gDiv (.int k) (.int m) = .ok (.int (k / m)) := g_div hm
  have c := cell_run (ns := ns) (k := 2 + k % m) (by have := Int.emod_nonneg k (show m ≠ 0 by omega); omega)
  have g3 : gMul (.int 7919) (.int (k / m)) = .ok (.int (7919 * (k / m))) := by
    show (if mulOk 7919 (k / m) = true then R.ok (D.int (7919 * (k / m))) else .no) = _
    rw [if_pos (by unfold mulOk; simp)]
  generalize cellV ns (2 + k % m).toNat = x at c
  have g4 : gMul (.int (x % 1000003 + 7919 * (k / m))) (.int 48271) = .ok (.int ((x % 1000003 + 7919 * (k / m)) * 48271)) := g_mul2 (by omega)
  by_cases h : k < m
  · exact ⟨x, by simp -implicitDefEqProofs [hM, g1, c, h]⟩
  · exact ⟨(x % 1000003 + 7919 * (k / m)) * 48271 % 1000003, by simp -implicitDefEqProofs [hM, g1, g2, g3, g4, c, h]⟩
section
variable {h w : Nat} {rl : Pl → Ru}
theorem grow_rules {k : Nat} (hw : 0 < w) (hs : h * w < 100000) (hk : k < h * w) {x : Ru} :
    putItem (dF ((boxP 0 h 0 w).take k) fun p => (rl p).toD) (pairD ((k : Int) / (w : Int), (k : Int) % (w : Int))) x.toD = some (dF ((boxP 0 h 0 w).take (k + 1)) fun p => (setR rl ((k : Int) / (w : Int), (k : Int) % (w : Int)) x p).toD) := by
  have hk' : k < (boxP 0 h 0 w).length := by rw [boxP_len]; exact hk
  have e := box_at hw hk'
  have hn : ((k : Int) / (w : Int), (k : Int) % (w : Int)) ∉ (boxP 0 h 0 w).take k := by rw [← e]; exact take_nd boxP_nd hk'
  have tk : (boxP 0 h 0 w).take (k + 1) = (boxP 0 h 0 w).take k ++ [((k : Int) / (w : Int), (k : Int) % (w : Int))] := by rw [List.take_succ_eq_append_getElem hk', e]
  generalize ((k : Int) / (w : Int), (k : Int) % (w : Int)) = p at hn tk
  have c : dF ((boxP 0 h 0 w).take k) (fun p => (rl p).toD) = dF ((boxP 0 h 0 w).take k) fun q => (setR rl p x q).toD := dF_congr fun q hq => by
    unfold setR
    rw [if_neg (fun z : q = p => hn (z ▸ hq))]
  have v : (setR rl p x p).toD = x.toD := by unfold setR; rw [if_pos rfl]
  have pn := put_new (ks := (boxP 0 h 0 w).take k) (v := fun q => (setR rl p x q).toD) (p := p) (by rw [List.length_take]; omega) hn
  rw [tk, c, ← pn]
  rw [v]
/-- what is put so far -/
def mixR (rl : Pl → Ru) (L : List Pl) : Pl → Ru := fun p => if p ∈ L then rl p else .num 0
theorem mix_nil : mixR rl [] = fun _ => .num 0 := funext fun p => if_neg (by simp)
theorem mix_put {L : List Pl} {p : Pl} : setR (mixR rl L) p (rl p) = mixR rl (L ++ [p]) := funext fun q => by
  unfold setR mixR
  by_cases e : q = p
  · subst e; simp
  · simp [e]
theorem sh_congr {r1 r2 : Pl → Ru} (e : ∀ p ∈ boxP 0 h 0 w, r1 p = r2 p) : shD h w r1 = shD h w r2 := by
  unfold shD
  rw [dF_congr (v := fun p => (r1 p).toD) (v' := fun p => (r2 p).toD) fun p hp => by rw [e p hp]]
theorem mix_all : shD h w (mixR rl (boxP 0 h 0 w)) = shD h w rl := sh_congr fun p hp => if_pos hp
theorem put_in {r0 : Pl → Ru} {p : Pl} {x : Ru} (hs : h * w < 100000) (hp : p ∈ boxP 0 h 0 w) (hd : x.dep ≤ 8) (hi : x.In 0 h 0 w) : f_Sh_put [shD h w r0, pairD p, x.toD] = .ok (shD h w (setR r0 p x)) .non := by
  rw [put_run hs (by omega), if_pos (onP_iff.mpr hp), if_pos hd, if_pos hi]
theorem take_box {k : Nat} {p : Pl} {L : List Pl} (hk : L[k]? = some p) : L.take (k + 1) = L.take k ++ [p] := by
  have hl := (List.getElem?_eq_some_iff.mp hk).1
  rw [List.take_succ_eq_append_getElem hl, (List.getElem?_eq_some_iff.mp hk).2]
end
end Rs

set_option maxRecDepth 100000
/-! Rs30: d.pop(k) of a dict by places. -/
namespace Rs
section
open PySem PySem.W PySem.Calls PyProof.Rows PyProof.V PySem.Spec L2
variable {K : Type} [DecidableEq K] {prog : Program} {w : World} {knd : HeapKind prog w K}
theorem meetsPop1 {d b : Addr} {k : K} (hd : (d == sysModules) = false) :
    MeetsIn prog w (Builtin.«dict.pop» ⟨[.ref d, .ref b], []⟩) (fun A R s => ∃ xs p, knd.room A.in1 ∧ knd.is s.heap k b ∧ s.heap.DictOfH knd d xs ∧ xs.length ≤ sizeLine ∧ atKey xs k = some p ∧
      ∀ h' tk, h'.DictOfH knd d (DT.dropH xs k) → Heap.SameBut d s.heap h' → R (.ok (.ret p.2)) { s with heap := h', toks := tk }) :=
  .of_wp fun A R s ⟨xs, p, hu, hkey, hm, hsz, hp, hsome⟩ => by
    obtain ⟨o, es, ep, ho, hc, hdat, he, his, hn⟩ := id hm
    have hes : es.size = xs.length := size_of_entries he
    have hpart : (keyPart (Value.ref b)).isSome = false := rfl
    unfold Builtin.«dict.pop»
    refine wpAny_bind ?_
    unfold Builtin.Dict.keyAndDefault
    refine wpAny_bind (wpAny_notOrdered_dict hm.typeIs ?_)
    show wpAny _ _ (pure (d, Value.ref b, none)) _ _ s
    refine wpAny_pure ?_
    simp only [hpart, Bool.false_eq_true, if_false]
    refine wpAny_bind (wpAny_dictEntries ho hdat (wpAny_bind (wpAny_pure ?_)))
    cases hem : es.isEmpty with
    | true =>
      have h0 : xs = [] := by
        have z : es.size = 0 := by simpa using hem
        exact List.length_eq_zero_iff.mp (by omega)
      rw [h0] at hp
      cases hp
    | false =>
      simp only [Bool.false_eq_true, if_false]
      refine wpAny_bind (DT.takeH hu hkey hm hsz (fun hno => by rw [hp] at hno; cases hno) fun p' e hp' hev h' hm' hs' => ?_)
      rw [hp] at hp'
      cases hp'
      simp only [Option.isNone_some, Bool.false_eq_true, if_false]
      exact wpAny_bind (wpAny_letGo (wpAny_pure ⟨e.val, rfl, by rw [hev]; exact hsome h' _ hm' hs'⟩))
end
section
open PySem PySem.Spec PyProof.Rows L2 L2.DX
variable {X : Cx} {G : Gx}
def rPop1T : V → List V → Hp → VK → Prop := fun x xs H Q => ∃ (a : Addr) (kvs : List (List L2.Key × V)) (k : List L2.Key) (b : Addr) (v : V), x = .ref a ∧ xs = [.ref b] ∧ H a = some (.dT kvs) ∧ H b = some (.tup (k.map kV)) ∧
  valV kvs k = some v ∧ Q v (upd H a (.dT (dropK kvs k)))
theorem mt_pop1T (hu : X.A.units + 1 < cLine) : MtR X "dict.pop" rPop1T := by
  intro pins s σ H x xs v us Q I rx rxs h
  obtain ⟨a, kvs, k, b, v0, rfl, rfl, ha, hb, ev, q1⟩ := h
  cases rx
  obtain ⟨u1, rfl, r1⟩ := vals1 rxs
  cases r1
  obtain ⟨z, hd, xs', rel, dd⟩ := dt_of I.hok ha
  have hz : xs'.length ≤ sizeLine := by rw [← Paired.length rel]; exact z
  have r := rel.val k
  rw [ev] at r
  obtain ⟨p, hp, rv⟩ : ∃ p, atKey xs' k = some p ∧ RelV v0 p.2 := by
    cases e : atKey xs' k with
    | none => rw [e] at r; exact (show False from r).elim
    | some p => rw [e] at r; exact ⟨p, rfl, r⟩
  refine call_meetsIn PySem.F.slot_dict_pop dd.typeIs PySem.F.entry_dict_pop (PySem.F.args_dict_pop_2 _ _) (meetsPop1 (knd := tupleKind (mixKind X.prog X.w)) (k := k) hd)
    ⟨xs', p, tupleKind_room_in1 hu, key_of I.hok hb, dd, hz, hp, fun h' tk dd' hs => ?_⟩
  obtain ⟨o, es, ep, hq, h2, h3, h4, _, h5⟩ := dd'
  have I2 : Inv X pins σ (upd H a (.dT (dropK kvs k))) { s with heap := h', toks := tk } :=
    d_write I (by rw [ha]; exact True.intro) hs ⟨o, hq⟩ ⟨Nat.le_trans (dropK_le kvs k) z, hd, _, (KT_drop k rel).keeps (fun c ys ec => (by rw [upd_ne (ne_of ec ha (fun z => nomatch z))]; exact ec)), o, es, ep, hq, h2, h3, h4, h5⟩
  show EP X pins σ Q p.2 _
  exact ⟨v0, _, I2, rv, q1⟩
def dropL (p : Int × Int) : List (Int × Int) → List D → List D
  | k :: ks, x :: xs => if k = p then dropL p ks xs else x :: dropL p ks xs
  | _, _ => []
/-- d.pop(k) -/
def gPopT (d : D) : List D → Option D
  | [k] => match d with
    | .node (.dT ks) xs => match k.pair with
      | some p => if p ∈ ks ∧ D.imms xs = true then some (.node (.dT (ks.filter fun q => decide (q ≠ p))) (dropL p ks xs)) else none
      | none => none
    | _ => none
  | _ => none
theorem drop_own {H : Hp} {p : Int × Int} : ∀ {ks : List (Int × Int)} {xs : List D} {kvs : List (List L2.Key × V)} {F : List Addr}, kvs.map (·.1) = ks.map kp → D.imms xs = true → OwnL G H xs (kvs.map (·.2)) F →
    (dropK kvs (kp p)).map (·.1) = (ks.filter fun q => decide (q ≠ p)).map kp ∧ OwnL G H (dropL p ks xs) ((dropK kvs (kp p)).map (·.2)) []
  | [], xs, kvs, F, hk, hi, o => by
    have : kvs = [] := by simpa using hk
    subst this
    refine ⟨rfl, ?_⟩
    have e : dropL p [] xs = [] := by cases xs <;> rfl
    rw [e]
    exact ownL_nil.mpr ⟨rfl, rfl⟩
  | k :: ks, xs, kvs, F, hk, hi, o => by
    cases kvs with
    | nil => simp at hk
    | cons kv kvs =>
      simp only [List.map_cons, List.cons.injEq] at hk
      cases xs with
      | nil => have := (ownL_nil.mp o).1; simp at this
      | cons x xs =>
        obtain ⟨v, vr, F1, F2, e, o1, o2, rfl⟩ := ownL_cons.mp o
        simp only [List.map_cons, List.cons.injEq] at e
        obtain ⟨rfl, rfl⟩ := e
        have hi' := imms_iff.mp hi
        have i1 := own_imm x _ F1 (hi' x (by simp)) o1
        subst i1
        obtain ⟨a1, a2⟩ := drop_own (p := p) hk.2 (imms_iff.mpr fun d hd => hi' d (by simp [hd])) o2
        by_cases ek : k = p
        · have z1 : dropK (kv :: kvs) (kp p) = dropK kvs (kp p) := List.filter_cons_of_neg (by simp [hk.1, ek])
          rw [z1]
          refine ⟨by rw [a1]; simp [ek], ?_⟩
          show OwnL G H (if k = p then dropL p ks xs else x :: dropL p ks xs) _ _
          rw [if_pos ek]
          exact a2
        · have nk : kv.1 ≠ kp p := by rw [hk.1]; exact fun z => ek (kp_inj z)
          have z1 : dropK (kv :: kvs) (kp p) = kv :: dropK kvs (kp p) := List.filter_cons_of_pos (by simpa using nk)
          rw [z1]
          refine ⟨by rw [List.map_cons, a1, hk.1]; simp [ek], ?_⟩
          show OwnL G H (if k = p then dropL p ks xs else x :: dropL p ks xs) _ _
          rw [if_neg ek]
          exact ownL_cons.mpr ⟨_, _, [], [], rfl, o1, a2, rfl⟩
theorem look_in {p : Int × Int} : ∀ {ks : List (Int × Int)} {vs : List V}, p ∈ ks → vs.length = ks.length → ∃ v, look ks vs p = some v
  | [], _, h, _ => by cases h
  | k :: ks, [], _, h => by simp at h
  | k :: ks, v :: vs, h, hl => by
    by_cases e : k = p
    · subst e; exact ⟨v, look_pos⟩
    · rw [look_neg e]
      exact look_in ((List.mem_cons.mp h).resolve_left fun z => e z.symm) (by simpa using hl)
theorem mud_pop : MuD G "dict" rPop1T gPopT := by
  intro dn dn' ds w vs Fn Fx H h o nd un ol ndx dis
  unfold gPopT at h
  split at h
  · rename_i k
    split at h
    · rename_i ks xs
      split at h
      · rename_i p hp
        split at h
        · rename_i hc
          cases h
          obtain ⟨a, kvs, F1, rfl, rd, hk, oxs, ef⟩ := own_dT o
          subst ef
          obtain ⟨u', hu'⟩ := un a (by simp)
          have ha0 := mut_rd hu' rd
          have hm : ∃ u, H a = some u ∧ MutO u := ⟨_, ha0, trivial⟩
          obtain ⟨y, Fy, rfl, oy⟩ := own1 ol
          rw [D.pair_eq hp] at oy
          obtain ⟨b, rfl, hb⟩ := own_pair oy
          obtain ⟨q1, q2⟩ := drop_own (G := G) (H := H) (p := p) hk hc.2 oxs
          obtain ⟨v, hv⟩ : ∃ v, valV kvs (kp p) = some v := by
            rw [valV_look (fun _ _ => kp_inj) p hk rfl]
            exact look_in hc.1 (by have := congrArg List.length hk; simpa using this)
          refine ⟨a, _, .dT (dropK kvs (kp p)), [a], rfl, ha0, trivial, trivial, by simp, fun Q q => ⟨a, kvs, kp p, b, v, rfl, rfl, ha0, hb, hv, q _⟩, ?_, by simp, fun z hz => .inl (by simp at hz; simp [hz])⟩
          exact own_node.mpr ⟨a, _, [], rfl, ⟨_, .inl upd_same, q1, rfl⟩, ownL_upd hm (by simp) q2, rfl⟩
        · cases h
      · cases h
    · cases h
  · cases h
theorem drop_map {p : Int × Int} {v : Int × Int → D} : ∀ ks : List (Int × Int), dropL p ks (ks.map v) = (ks.filter fun q => decide (q ≠ p)).map v
  | [] => rfl
  | k :: ks => by
    show (if k = p then dropL p ks (ks.map v) else v k :: dropL p ks (ks.map v)) = _
    rw [drop_map ks]
    by_cases e : k = p
    · rw [if_pos e, List.filter_cons_of_neg (by simp [e])]
    · rw [if_neg e, List.filter_cons_of_pos (by simp [e])]
      rfl
theorem pop_in {L : List (Int × Int)} {v : Int × Int → D} {p : Int × Int} (hp : p ∈ L) (hv : ∀ q, (v q).imm = true) : gPopT (.node (.dT L) (L.map v)) [pairD p] = some (.node (.dT (L.filter fun q => decide (q ≠ p))) ((L.filter fun q => decide (q ≠ p)).map v)) := by
  have hi : D.imms (L.map v) = true := imms_iff.mpr fun d hd => by
    obtain ⟨q, _, rfl⟩ := List.mem_map.mp hd
    exact hv q
  show (match (pairD p).pair with
    | some p => if p ∈ L ∧ D.imms (L.map v) = true then some (D.node (.dT (L.filter fun q => decide (q ≠ p))) (dropL p L (L.map v))) else none
    | none => none) = _
  have e : (pairD p).pair = some p := rfl
  rw [e]
  dsimp only
  rw [if_pos ⟨hp, hi⟩, drop_map]
end
end Rs

set_option maxRecDepth 100000
/-! RsQ1: needs and rings by the laws' own looking. -/
namespace Rs
open PySem PySem.Spec PyProof.Rows L2
def m_l_lane : Evn → RS :=
    (mSeq (mSet 3 (mCall gMin2 (mCons (mBinE gIx (mVar 0) (mVar 2)) (mCons (mBinE gIx (mVar 1) (mVar 2)) mNil))))
    (mRet (mLcR 4 (mCons (mBin gAdd (mBin gSub (mCall gMax2 (mCons (mBinE gIx (mVar 0) (mVar 2)) (mCons (mBinE gIx (mVar 1) (mVar 2)) mNil))) (mVar 3)) (mC (.int 1))) mNil) mYes (mBin gAdd (mVar 3) (mVar 4)))))
def f_l_lane : List D → R D := runP 3 5 m_l_lane
def m_l_area : Evn → RS :=
    (mSeq (mSet 2 (mLst mNil))
    (mSeq (mFor 3 (mApp 3 f_l_lane (mCons (mVar 0) (mCons (mVar 1) (mCons (mC (.int 0)) mNil)))) (mFor 4 (mApp 3 f_l_lane (mCons (mVar 0) (mCons (mVar 1) (mCons (mC (.int 1)) mNil)))) (mMut "list" gAppend 2 pRoot (mCons (mTup (mCons (mImm (mVar 3)) (mCons (mImm (mVar 4)) mNil))) mNil))))
    (mRetV 2)))
def f_l_area : List D → R D := runP 2 5 m_l_area
def m_l_needs (g : List D → R D) : Evn → RS :=
    (mSeq (mIf (mTest (mBin gEq (mBinE gIx (mVar 0) (mC (.int 0))) (mC (.str "num")))) (mRet (mLst mNil)) mNx)
    (mSeq (mIf (mTest (mBin gEq (mBinE gIx (mVar 0) (mC (.int 0))) (mC (.str "cell")))) (mRet (mLst (mCons (mTup (mCons (mImm (mBinE gIx (mBinE gIx (mVar 0) (mC (.int 1))) (mC (.int 0)))) (mCons (mImm (mBinE gIx (mBinE gIx (mVar 0) (mC (.int 1))) (mC (.int 1)))) mNil))) mNil))) mNx)
    (mSeq (mIf (cOr (mTest (mBin gEq (mBinE gIx (mVar 0) (mC (.int 0))) (mC (.str "sum")))) (mTest (mBin gEq (mBinE gIx (mVar 0) (mC (.int 0))) (mC (.str "most"))))) (mRet (mApp 2 f_l_area (mCons (mBinE gIx (mVar 0) (mC (.int 1))) (mCons (mBinE gIx (mVar 0) (mC (.int 2))) mNil)))) mNx)
    (mSeq (mIf (mTest (mBin gEq (mBinE gIx (mVar 0) (mC (.int 0))) (mC (.str "look")))) (mRet (mBin gAdd (mBin gAdd (mApp 1 g (mCons (mBinE gIx (mVar 0) (mC (.int 1))) mNil)) (mApp 2 f_l_area (mCons (mBinE gIx (mVar 0) (mC (.int 2))) (mCons (mBinE gIx (mVar 0) (mC (.int 3))) mNil)))) (mApp 1 g (mCons (mBinE gIx (mVar 0) (mC (.int 4))) mNil)))) mNx)
    (mSeq (mSet 1 (mLst mNil))
    (mSeq (mFor 2 (mSl (mVar 0) (mPart (mC (.int 1))) mNoPart) (mSet 1 (mBin gAdd (mVar 1) (mApp 1 g (mCons (mVar 2) mNil)))))
    (mRetV 1)))))))
def f_l_needs_ : Nat → List D → R D
  | 0 => fun _ => .no
  | n + 1 => runP 1 3 (m_l_needs (f_l_needs_ n))
def m_l_left : Evn → RS :=
    (mSeq (mSet 1 (mCall gList (mCons (mVar 0) mNil)))
    (mSeq (mSet 2 mDT)
    (mSeq (mForK 3 0 (mPut 2 pRoot (mVar 3) (mApp 1 (f_l_needs_ 40) (mCons (mBinE gIx (mVar 0) (mVar 3)) mNil))))
    (mSeq (mSet 4 (mBin gAdd (mCall gLen (mCons (mVar 1) mNil)) (mC (.int 1))))
    (mSeq (whileL (mTest (mBin gLt (mCall gLen (mCons (mVar 1) mNil)) (mVar 4))) (mSeq (mSet 4 (mCall gLen (mCons (mVar 1) mNil)))
    (mSeq (mSet 5 (mLst mNil))
    (mSeq (mSet 6 mDT)
    (mSeq (mFrz (3 :: []) 1 (mFor 3 (mRo 1) (mPut 6 pRoot (mVar 3) (mC (.bl true)))))
    (mSeq (mFrz (3 :: ([] ++ [])) 1 (mFor 3 (mRo 1) (mIf (mTest (mBin gEq (mLc 7 (mBinE gIx (mVar 2) (mVar 3)) (mTest (mBin gIn (mVar 7) (mVar 6))) (mImm (mVar 7))) (mLst mNil))) (mMut "dict" gPopT 6 pRoot (mCons (mImm (mVar 3)) mNil)) (mMut "list" gAppend 5 pRoot (mCons (mImm (mVar 3)) mNil)))))
    (mMv 1 5)))))) 1000000)
    (mRetV 1))))))
def f_l_left : List D → R D := runP 1 8 m_l_left
theorem lane_run {a b : D} {i u v : Int} (ha : gIx a (.int i) = .ok (.int u)) (hb : gIx b (.int i) = .ok (.int v)) (hl : (max u v - min u v + 1).toNat < 100000) : f_l_lane [a, b, .int i] = .ok (.node .lst ((List.range (max u v - min u v + 1).toNat).map fun (k : Nat) => .int (min u v + k))) := by
  unfold f_l_lane
  refine run_o (ρ0 := [.ro a, .ro b, .ro (.int i), .un, .un]) rfl ?_
  unfold m_l_lane
  refine seqF (ρ' := [.ro a, .ro b, .ro (.int i), .ow (.int (min u v)), .un]) (by simp -implicitDefEqProofs [ha, hb]) ?_
  have lc : lcR 4 mYes (mBin gAdd (mVar 3) (mVar 4)) (rangeD 0 (max u v - min u v + 1).toNat) [.ro a, .ro b, .ro (.int i), .ow (.int (min u v)), .un] = .ok (.node .lst ((List.range (max u v - min u v + 1).toNat).map fun (k : Nat) => .int (min u v + k))) := by
    unfold lcR
    rw [rangeD_len, if_pos hl, lcL_map (g := fun d => match d with | .int k => .int (min u v + k) | _ => .non) fun x hx => ?_]
    · rw [R.bind_ok]
      unfold rangeD
      rw [List.map_map]
      congr 2
      refine List.map_congr_left fun k _ => ?_
      simp
    · obtain ⟨k, hk⟩ := List.mem_iff_getElem?.mp hx
      obtain ⟨rfl, _⟩ := rangeD_get hk
      exact ⟨rfl, by simp -implicitDefEqProofs [-Int.zero_add]⟩
  simp -implicitDefEqProofs [ha, hb, rng_1, lc]
theorem larea_run {a b : Ref} (hl : (areaP a.r a.c b.r b.c).length < 100000) : f_l_area [a.toD, b.toD] = .ok (lstD (areaP a.r a.c b.r b.c)) := by
  unfold areaP at hl ⊢
  rw [show max a.r b.r + 1 - min a.r b.r = max a.r b.r - min a.r b.r + 1 by omega, show max a.c b.c + 1 - min a.c b.c = max a.c b.c - min a.c b.c + 1 by omega] at hl ⊢
  rw [boxP_len] at hl
  have h1 : 0 < (max a.r b.r - min a.r b.r + 1).toNat := by omega
  have h2 : 0 < (max a.c b.c - min a.c b.c + 1).toNat := by omega
  have l1 : (max a.r b.r - min a.r b.r + 1).toNat < 100000 := Nat.lt_of_le_of_lt (Nat.le_mul_of_pos_right _ h2) hl
  have l2 : (max a.c b.c - min a.c b.c + 1).toNat < 100000 := Nat.lt_of_le_of_lt (Nat.le_mul_of_pos_left _ h1) hl
  have r1 := lane_run (ix_r0 a) (ix_r0 b) l1
  have r2 := lane_run (ix_r1 a) (ix_r1 b) l2
  generalize (max a.r b.r - min a.r b.r + 1).toNat = h at *
  generalize (max a.c b.c - min a.c b.c + 1).toNat = w at *
  generalize min a.r b.r = t at *
  generalize min a.c b.c = l at *
  unfold f_l_area
  refine run_o (ρ0 := [.ro a.toD, .ro b.toD, .un, .un, .un]) rfl ?_
  unfold m_l_area
  refine seqF (ρ' := [.ro a.toD, .ro b.toD, .ow (lstD []), .un, .un]) (by simp -implicitDefEqProofs) ?_
  refine seqX (P := fun ρ => ∃ s3 s4, ρ = [.ro a.toD, .ro b.toD, .ow (lstD (boxP t h l w)), s3, s4])
    ((for_ex (xs := (List.range h).map fun (k : Nat) => .int (t + k)) (fun i ρ => ∃ s3 s4, ρ = [.ro a.toD, .ro b.toD, .ow (lstD (boxP t i l w)), s3, s4]) (d := .node .lst ((List.range h).map fun (k : Nat) => .int (t + k))) (by simp -implicitDefEqProofs [r1]) rfl ⟨_, _, rfl⟩ ?_).imp fun ρ' x => ⟨x.1, by rw [List.length_map, List.length_range] at x; exact x.2⟩) ?_
  · rintro i x _ hx ⟨s3, s4, rfl⟩
    have hi : i < h := by have := (List.getElem?_eq_some_iff.mp hx).1; simpa using this
    rw [List.getElem?_map, List.getElem?_range hi] at hx
    cases hx
    obtain ⟨ρ', e, s4', rfl⟩ := for_ex (i := 4) (it := mApp 3 f_l_lane (mCons (mVar 0) (mCons (mVar 1) (mCons (mC (.int 1)) mNil)))) (body := mMut "list" gAppend 2 pRoot (mCons (mTup (mCons (mImm (mVar 3)) (mCons (mImm (mVar 4)) mNil))) mNil)) (xs := (List.range w).map fun (k : Nat) => .int (l + k)) (ρ := [.ro a.toD, .ro b.toD, .ow (lstD (boxP t i l w)), .ro (.int (t + (i : Int))), s4])
      (fun j ρ => ∃ s4, ρ = [.ro a.toD, .ro b.toD, .ow (lstD (boxP t i l w ++ rowP l j (t + (i : Int)))), .ro (.int (t + (i : Int))), s4]) (d := .node .lst ((List.range w).map fun (k : Nat) => .int (l + k))) (by simp -implicitDefEqProofs [r2]) rfl ⟨s4, by simp [rowP]⟩ (by
        rintro j x _ hx ⟨s4, rfl⟩
        have hj : j < w := by have := (List.getElem?_eq_some_iff.mp hx).1; simpa using this
        rw [List.getElem?_map, List.getElem?_range hj] at hx
        cases hx
        have sz : (boxP t i l w ++ rowP l j (t + (i : Int))).length < 100000 := by
          rw [List.length_append, boxP_len, rowP_len]
          have : (i + 1) * w ≤ h * w := Nat.mul_le_mul_right _ hi
          rw [Nat.succ_mul] at this
          omega
        have ap : gAppend (lstD (boxP t i l w ++ rowP l j (t + (i : Int)))) [Rs.pairD (t + (i : Int), l + (j : Int))] = some (lstD (boxP t i l w ++ rowP l (j + 1) (t + (i : Int)))) := by
          show (if _ then _ else _) = _
          rw [if_pos (by rw [List.length_map]; exact sz), rowP_succ, ← List.append_assoc]
          simp [lstD]
        refine ⟨_, ?_, .ro (.int (l + (j : Int))), rfl⟩
        have ty : ∀ L, tyD "list" (lstD L) = true := fun L => rfl
        simp -implicitDefEqProofs [pair_mk, ap, ty, -List.map_append])
    refine ⟨_, e, .ro (.int (t + (i : Int))), s4', ?_⟩
    rw [List.length_map, List.length_range, ← boxP_succ]
  · rintro _ ⟨s3, s4, rfl⟩
    simp -implicitDefEqProofs
/-- a list of places put behind another -/
theorem add_lst {L M : List Pl} (h : L.length + M.length ≤ 1000000) : gAdd (lstD L) (lstD M) = .ok (lstD (L ++ M)) := by
  show (if _ then _ else _) = _
  rw [if_pos ⟨imms_pairs _, imms_pairs _, by rw [List.length_map, List.length_map]; exact h⟩]
  rw [lstD, List.map_append]
theorem lneeds_run : ∀ (n : Nat) (x : Ru), x.dep ≤ n → x.lst.length ≤ 10000 → f_l_needs_ n [x.toD] = .ok (lstD x.lst)
  | 0, x, h, _ => by have := x.dep_pos; omega
  | n + 1, x, h, hl => by
    have ih := lneeds_run n
    unfold f_l_needs_
    rw [run_out]
    unfold m_l_needs
    cases x with
    | num i => simp -implicitDefEqProofs [Ru.toD, Ru.lst]
    | cell a => simp -implicitDefEqProofs [Ru.toD, Ru.lst, pair_mk]
    | sum a b =>
      have hv := larea_run (a := a) (b := b) (by simp only [Ru.lst] at hl; omega)
      simp -implicitDefEqProofs [Ru.toD, hv, Ru.lst]
    | most a b =>
      have hv := larea_run (a := a) (b := b) (by simp only [Ru.lst] at hl; omega)
      simp -implicitDefEqProofs [Ru.toD, hv, Ru.lst]
    | op q x y =>
      simp only [Ru.dep] at h
      simp only [Ru.lst, List.length_append] at hl
      have h1 := ih x (by omega) (by omega)
      have h2 := ih y (by omega) (by omega)
      have a1 : gAdd (.node .lst []) (lstD x.lst) = .ok (lstD x.lst) := add_lst (L := []) (M := x.lst) (by simp; omega)
      have a2 := add_lst (L := x.lst) (M := y.lst) (by omega)
      cases q <;> simp -implicitDefEqProofs [Ru.toD, Op.nm, h1, h2, a1, a2, Ru.lst, -List.map_append]
    | pick x y z =>
      simp only [Ru.dep] at h
      simp only [Ru.lst, List.length_append] at hl
      have h1 := ih x (by omega) (by omega)
      have h2 := ih y (by omega) (by omega)
      have h3 := ih z (by omega) (by omega)
      have a1 : gAdd (.node .lst []) (lstD x.lst) = .ok (lstD x.lst) := add_lst (L := []) (M := x.lst) (by simp; omega)
      have a2 := add_lst (L := x.lst) (M := y.lst) (by omega)
      have a3 := add_lst (L := x.lst ++ y.lst) (M := z.lst) (by rw [List.length_append]; omega)
      simp -implicitDefEqProofs [Ru.toD, h1, h2, h3, a1, a2, a3, Ru.lst, -List.map_append, -List.append_assoc]
    | look k a b o =>
      simp only [Ru.dep] at h
      simp only [Ru.lst, List.length_append] at hl
      have h1 := ih k (by omega) (by omega)
      have h2 := ih o (by omega) (by omega)
      have hv := larea_run (a := a) (b := b) (by omega)
      have a2 := add_lst (L := k.lst) (M := areaP a.r a.c b.r b.c) (by omega)
      have a3 := add_lst (L := k.lst ++ areaP a.r a.c b.r b.c) (M := o.lst) (by rw [List.length_append]; omega)
      simp -implicitDefEqProofs [Ru.toD, h1, h2, hv, a2, a3, Ru.lst, -List.map_append, -List.append_assoc]
section
variable {h w : Nat} {rl : Pl → Ru}
open Classical in
/-- the places from which a ring can be come to -/
noncomputable def leftP (h w : Nat) (rl : Pl → Ru) : List Pl := (boxP 0 h 0 w).filter fun p => decide (¬ Good rl p)
/-- what is left in a round of looking -/
structure Lft (h w : Nat) (rl : Pl → Ru) (M : List Pl) : Prop where
  sub : M.Sublist (boxP 0 h 0 w)
  out : ∀ p ∈ boxP 0 h 0 w, p ∉ M → Good rl p
theorem Lft.stop (k : ShOk h w rl) {M : List Pl} (L : Lft h w rl M) (c : ∀ p ∈ M, ∃ q ∈ (rl p).lst, q ∈ M) : M = leftP h w rl := by
  classical
  have ng : ∀ p, Good rl p → p ∉ M := fun p g => by
    have g' : Acc (Nd rl) p := g
    induction g' with
    | intro p _ ih =>
      intro hp
      obtain ⟨q, hq, hqM⟩ := c p hp
      exact ih q hq (Good.inv g hq) hqM
  have e : M = (boxP 0 h 0 w).filter fun p => decide (p ∈ M) := by
    have key : ∀ {M B : List Pl}, M.Sublist B → B.Nodup → M = B.filter fun p => decide (p ∈ M) := fun {M B} s => by
      induction s with
      | slnil => intro _; rfl
      | @cons l₁ l₂ a s ih =>
        intro nd
        rw [List.nodup_cons] at nd
        rw [List.filter_cons_of_neg (by simpa using fun z => nd.1 (s.subset z))]
        exact ih nd.2
      | @cons_cons l₁ l₂ a s ih =>
        intro nd
        rw [List.nodup_cons] at nd
        rw [List.filter_cons_of_pos (by simp)]
        congr 1
        refine (ih nd.2).trans (List.filter_congr fun x hx => ?_)
        have : x ≠ a := fun z => nd.1 (z ▸ hx)
        simp [this]
    exact key L.sub boxP_nd
  rw [e]
  unfold leftP
  refine List.filter_congr fun p hp => ?_
  rw [Bool.eq_iff_iff, decide_eq_true_eq, decide_eq_true_eq]
  exact ⟨fun z g => ng p g z, fun z => Classical.byContradiction fun q => z (L.out p hp q)⟩
theorem left_run (k : ShOk h w rl) (kl : ∀ p ∈ boxP 0 h 0 w, (rl p).lst.length ≤ 10000) : f_l_left [dF (boxP 0 h 0 w) fun p => (rl p).toD] = .ok (lstD (leftP h w rl)) := by
  have hl := k.len
  unfold f_l_left
  refine run_o (ρ0 := [.ro (dF (boxP 0 h 0 w) fun p => (rl p).toD), .un, .un, .un, .un, .un, .un, .un]) rfl ?_
  unfold m_l_left
  generalize hd : dF (boxP 0 h 0 w) (fun p => (rl p).toD) = kept
  have gl : gList [kept] = .ok (lstD (boxP 0 h 0 w)) := by rw [← hd]; rfl
  refine seqF (ρ' := [.ro kept, .ow (lstD (boxP 0 h 0 w)), .un, .un, .un, .un, .un, .un]) (by simp -implicitDefEqProofs [gl]) ?_
  refine seqF (ρ' := [.ro kept, .ow (lstD (boxP 0 h 0 w)), .ow (dF [] fun p => lstD (rl p).lst), .un, .un, .un, .un, .un]) (by simp -implicitDefEqProofs [mDT]) ?_
  refine seqX (P := fun ρ => ∃ s3, ρ = [.ro kept, .ow (lstD (boxP 0 h 0 w)), .ow (dF (boxP 0 h 0 w) fun p => lstD (rl p).lst), s3, .un, .un, .un, .un]) ?_ ?_
  · obtain ⟨ρ', e, s3, rfl⟩ := forK_ex (i := 3) (r := 0) (vs := (boxP 0 h 0 w).map fun p => (rl p).toD) (ks := boxP 0 h 0 w) (body := mPut 2 pRoot (mVar 3) (mApp 1 (f_l_needs_ 40) (mCons (mBinE gIx (mVar 0) (mVar 3)) mNil)))
      (fun j ρ => ∃ s3, ρ = [.ro kept, .ow (lstD (boxP 0 h 0 w)), .ow (dF ((boxP 0 h 0 w).take j) fun p => lstD (rl p).lst), s3, .un, .un, .un, .un]) (ρ := [.ro kept, .ow (lstD (boxP 0 h 0 w)), .ow (dF [] fun p => lstD (rl p).lst), .un, .un, .un, .un, .un]) (by rw [← hd]; rfl) ⟨_, rfl⟩ (by
        rintro j p _ hk ⟨s3, rfl⟩
        have hm := List.mem_of_getElem? hk
        have g := ix_dF (v := fun p => (rl p).toD) hm
        rw [hd] at g
        have nr := lneeds_run 40 (rl p) (by have := k.dep p; omega) (kl p hm)
        have hlt := (List.getElem?_eq_some_iff.mp hk).1
        have hn : p ∉ (boxP 0 h 0 w).take j := by rw [← (List.getElem?_eq_some_iff.mp hk).2]; exact take_nd boxP_nd hlt
        have pn := put_new (ks := (boxP 0 h 0 w).take j) (v := fun p => lstD (rl p).lst) (p := p) (by rw [List.length_take]; omega) hn
        rw [← take_box hk] at pn
        exact ⟨_, by simp -implicitDefEqProofs [-List.map_take, g, nr, pn], .ro (pairD p), rfl⟩)
    rw [List.take_length] at e
    exact ⟨_, e, s3, rfl⟩
  rintro _ ⟨s3, rfl⟩
  generalize hN : dF (boxP 0 h 0 w) (fun p => lstD (rl p).lst) = needs
  refine seqF (ρ' := [.ro kept, .ow (lstD (boxP 0 h 0 w)), .ow needs, s3, .ow (.int (((boxP 0 h 0 w).length + 1 : Nat) : Int)), .un, .un, .un]) (by simp -implicitDefEqProofs) ?_
  refine seqX (P := fun ρ => ∃ s3 s4 s5 s6 s7, ρ = [.ro kept, .ow (lstD (leftP h w rl)), .ow needs, s3, s4, s5, s6, s7]) (while_ex
    (I := fun i ρ => ∃ (M : List Pl) (sz : Nat) (s3 s5 s6 s7 : Slot), Lft h w rl M ∧ (M.length < sz ∨ ∀ p ∈ M, ∃ q ∈ (rl p).lst, q ∈ M) ∧ sz + i ≤ 145 ∧ ρ = [.ro kept, .ow (lstD M), .ow needs, s3, .ow (.int (sz : Int)), s5, s6, s7]) 146 1000000 (by omega)
    ⟨boxP 0 h 0 w, _, s3, _, _, _, ⟨List.Sublist.refl _, fun p hp z => absurd hp z⟩, .inl (Nat.lt_succ_self _), by omega, rfl⟩ ?_) ?_
  · rintro i _ ⟨M, sz, s3, s5, s6, s7, LM, st, hsz, rfl⟩
    by_cases hc : M.length < sz
    · refine .inr ⟨by omega, by simp -implicitDefEqProofs; omega, ?_⟩
      have ndM : M.Nodup := LM.sub.nodup boxP_nd
      have lM : M.length ≤ 144 := Nat.le_trans LM.sub.length_le hl
      have hds : ∀ (T : List Pl) (z : Bool), tyD "dict" (dF T fun _ => D.bl true) = true := fun T z => rfl
      refine seqC (C := fun r => ∃ ρ', r = .nx ρ' ∧ ∃ (M : List Pl) (sz : Nat) (s3 s5 s6 s7 : Slot), Lft h w rl M ∧ (M.length < sz ∨ ∀ p ∈ M, ∃ q ∈ (rl p).lst, q ∈ M) ∧ sz + (i + 1) ≤ 145 ∧ ρ' = [.ro kept, .ow (lstD M), .ow needs, s3, .ow (.int (sz : Int)), s5, s6, s7])
        (P := fun ρ => ρ = [.ro kept, .ow (lstD M), .ow needs, s3, .ow (.int (M.length : Int)), s5, s6, s7]) ⟨_, by simp -implicitDefEqProofs, rfl⟩ ?_
      rintro _ rfl
      refine seqC (C := fun r => ∃ ρ', r = .nx ρ' ∧ ∃ (M : List Pl) (sz : Nat) (s3 s5 s6 s7 : Slot), Lft h w rl M ∧ (M.length < sz ∨ ∀ p ∈ M, ∃ q ∈ (rl p).lst, q ∈ M) ∧ sz + (i + 1) ≤ 145 ∧ ρ' = [.ro kept, .ow (lstD M), .ow needs, s3, .ow (.int (sz : Int)), s5, s6, s7])
        (P := fun ρ => ρ = [.ro kept, .ow (lstD M), .ow needs, s3, .ow (.int (M.length : Int)), .ow (lstD []), s6, s7]) ⟨_, by simp -implicitDefEqProofs, rfl⟩ ?_
      rintro _ rfl
      refine seqC (C := fun r => ∃ ρ', r = .nx ρ' ∧ ∃ (M : List Pl) (sz : Nat) (s3 s5 s6 s7 : Slot), Lft h w rl M ∧ (M.length < sz ∨ ∀ p ∈ M, ∃ q ∈ (rl p).lst, q ∈ M) ∧ sz + (i + 1) ≤ 145 ∧ ρ' = [.ro kept, .ow (lstD M), .ow needs, s3, .ow (.int (sz : Int)), s5, s6, s7])
        (P := fun ρ => ρ = [.ro kept, .ow (lstD M), .ow needs, s3, .ow (.int (M.length : Int)), .ow (lstD []), .ow (dF [] fun _ => .bl true), s7]) ⟨_, by simp -implicitDefEqProofs [mDT], rfl⟩ ?_
      rintro _ rfl
      refine seqC (C := fun r => ∃ ρ', r = .nx ρ' ∧ ∃ (M : List Pl) (sz : Nat) (s3 s5 s6 s7 : Slot), Lft h w rl M ∧ (M.length < sz ∨ ∀ p ∈ M, ∃ q ∈ (rl p).lst, q ∈ M) ∧ sz + (i + 1) ≤ 145 ∧ ρ' = [.ro kept, .ow (lstD M), .ow needs, s3, .ow (.int (sz : Int)), s5, s6, s7])
        (P := fun ρ => ∃ s3 s7, ρ = [.ro kept, .ow (lstD M), .ow needs, s3, .ow (.int (M.length : Int)), .ow (lstD []), .ow (dF M fun _ => .bl true), s7]) (frz_ex (d := lstD M) rfl (by
          obtain ⟨ρ', e, s3', rfl⟩ := for_ex (i := 3) (it := mRo 1) (body := mPut 6 pRoot (mVar 3) (mC (.bl true))) (xs := M.map pairD) (ρ := [.ro kept, .ro (lstD M), .ow needs, s3, .ow (.int (M.length : Int)), .ow (lstD []), .ow (dF [] fun _ => .bl true), s7])
            (fun j ρ => ∃ s3, ρ = [.ro kept, .ro (lstD M), .ow needs, s3, .ow (.int (M.length : Int)), .ow (lstD []), .ow (dF (M.take j) fun _ => .bl true), s7]) (d := lstD M) rfl rfl ⟨_, rfl⟩ (by
              rintro j x _ hx ⟨s3, rfl⟩
              have hj : j < M.length := by have := (List.getElem?_eq_some_iff.mp hx).1; simpa using this
              rw [List.getElem?_map, List.getElem?_eq_getElem hj] at hx
              cases hx
              have hn : M[j] ∉ M.take j := take_nd ndM hj
              have pn := put_new (ks := M.take j) (v := fun _ => .bl true) (p := M[j]) (by rw [List.length_take]; omega) hn
              rw [← take_box (List.getElem?_eq_getElem hj)] at pn
              exact ⟨_, by simp -implicitDefEqProofs [-List.map_take, pn], .ro (pairD M[j]), rfl⟩)
          rw [List.length_map, List.take_length] at e
          exact ⟨_, e, dropRo s3', thawS [3] 1 7 s7 s7, by cases s3 <;> simp⟩)) ?_
      rintro _ ⟨s3, s7, rfl⟩
      refine seqC (C := fun r => ∃ ρ', r = .nx ρ' ∧ ∃ (M : List Pl) (sz : Nat) (s3 s5 s6 s7 : Slot), Lft h w rl M ∧ (M.length < sz ∨ ∀ p ∈ M, ∃ q ∈ (rl p).lst, q ∈ M) ∧ sz + (i + 1) ≤ 145 ∧ ρ' = [.ro kept, .ow (lstD M), .ow needs, s3, .ow (.int (sz : Int)), s5, s6, s7])
        (P := fun ρ => ∃ T G s3 s7, (T.Sublist M ∧ (∀ p ∈ M, p ∉ T → Good rl p) ∧ ∀ p ∈ T, ∃ q ∈ (rl p).lst, q ∈ M) ∧ ρ = [.ro kept, .ow (lstD M), .ow needs, s3, .ow (.int (M.length : Int)), .ow (lstD T), .ow (dF G fun _ => .bl true), s7]) (frz_ex (d := lstD M) rfl (by
          obtain ⟨ρ', e, T, s3', ⟨t1, t2, t3⟩, rfl⟩ := for_ex (i := 3) (it := mRo 1) (body := mIf (mTest (mBin gEq (mLc 7 (mBinE gIx (mVar 2) (mVar 3)) (mTest (mBin gIn (mVar 7) (mVar 6))) (mImm (mVar 7))) (mLst mNil))) (mMut "dict" gPopT 6 pRoot (mCons (mImm (mVar 3)) mNil)) (mMut "list" gAppend 5 pRoot (mCons (mImm (mVar 3)) mNil)))
            (xs := M.map pairD) (ρ := [.ro kept, .ro (lstD M), .ow needs, s3, .ow (.int (M.length : Int)), .ow (lstD []), .ow (dF M fun _ => .bl true), s7])
            (fun j ρ => ∃ T s3, (T.Sublist (M.take j) ∧ (∀ p ∈ M.take j, p ∉ T → Good rl p) ∧ ∀ p ∈ T, ∃ q ∈ (rl p).lst, q ∈ M) ∧ ρ = [.ro kept, .ro (lstD M), .ow needs, s3, .ow (.int (M.length : Int)), .ow (lstD T), .ow (dF (T ++ M.drop j) fun _ => .bl true), s7]) (d := lstD M) rfl rfl ⟨[], _, ⟨List.Sublist.refl _, fun p hp => by simp at hp, fun p hp => by simp at hp⟩, rfl⟩ (by
              rintro j x _ hx ⟨T, s3, ⟨t1, t2, t3⟩, rfl⟩
              have hj : j < M.length := by have := (List.getElem?_eq_some_iff.mp hx).1; simpa using this
              rw [List.getElem?_map, List.getElem?_eq_getElem hj] at hx
              cases hx
              have tk := take_box (List.getElem?_eq_getElem hj)
              have hn : M[j] ∉ M.take j := take_nd ndM hj
              have hpM : M[j] ∈ M := List.getElem_mem hj
              have dr : M.drop j = M[j] :: M.drop (j + 1) := (List.drop_eq_getElem_cons hj)
              have hn2 : M[j] ∉ M.drop (j + 1) := by
                have := ndM
                rw [← List.take_append_drop j M, dr] at this
                exact (List.nodup_cons.mp (List.nodup_append.mp this).2.1).1
              have split : ∀ q ∈ M, q ∈ M.take j ∨ q ∈ M.drop j := fun q hq => List.mem_append.mp (by rw [List.take_append_drop]; exact hq)
              generalize hp : M[j] = p at tk hn hpM dr hn2 ⊢
              have hpB := LM.sub.subset hpM
              have hnT : p ∉ T := fun z => hn (t1.subset z)
              have tl : T.length ≤ 144 := Nat.le_trans t1.length_le (by rw [List.length_take]; omega)
              have gn := ix_dF (v := fun p => lstD (rl p).lst) hpB
              rw [hN] at gn
              have ll := kl p hpB
              rw [dr]
              have lc : lcR 7 (mTest (mBin gIn (mVar 7) (mVar 6))) (mImm (mVar 7)) ((rl p).lst.map pairD) [.ro kept, .ro (lstD M), .ow needs, .ro (pairD p), .ow (.int (M.length : Int)), .ow (lstD T), .ow (dF (T ++ p :: M.drop (j + 1)) fun _ => .bl true), s7] = .ok (lstD ((rl p).lst.filter fun q => decide (q ∈ T ++ p :: M.drop (j + 1)))) := by
                unfold lcR
                rw [List.length_map, if_pos (by omega)]
                rw [lcL_filter (p := fun x => decide (posD x ∈ T ++ p :: M.drop (j + 1))) (g := fun d => d) fun x hx => ?_]
                · rw [R.bind_ok, List.map_id', List.filter_map]
                  rfl
                · obtain ⟨q, hq, rfl⟩ := List.mem_map.mp hx
                  have ni := in_dF (ks := T ++ p :: M.drop (j + 1)) (v := fun _ => .bl true) (p := q)
                  exact ⟨by simp -implicitDefEqProofs only [ap_test, ap_bin, ap_var, List.set_cons_succ, List.set_cons_zero, List.getElem?_cons_succ, List.getElem?_cons_zero, Slot.val_ro, Slot.val_ow, R.bind_ok, ni, R.only_ok, R.bool_bl, pos_pair], fun _ => by simp -implicitDefEqProofs⟩
              have en := eq_nil_pairs ((rl p).lst.filter fun q => decide (q ∈ T ++ p :: M.drop (j + 1)))
              by_cases hem : ((rl p).lst.filter fun q => decide (q ∈ T ++ p :: M.drop (j + 1))) = []
              · have no : ∀ q ∈ (rl p).lst, q ∉ T ++ p :: M.drop (j + 1) := fun q hq => by
                  have := List.filter_eq_nil_iff.mp hem q hq
                  simpa only [decide_eq_true_eq] using this
                rw [hem] at en lc
                have en' : gEq (lstD []) (.node .lst []) = .ok (.bl true) := en
                have pi := pop_in (L := T ++ p :: M.drop (j + 1)) (v := fun _ => .bl true) (p := p) (by simp) fun _ => rfl
                have fe : ((T ++ p :: M.drop (j + 1)).filter fun q => decide (q ≠ p)) = T ++ M.drop (j + 1) := by
                  rw [List.filter_append, List.filter_cons_of_neg (by simp), List.filter_eq_self.mpr fun q hq => by simpa using fun z : q = p => hnT (z ▸ hq), List.filter_eq_self.mpr fun q hq => by simpa using fun z : q = p => hn2 (z ▸ hq)]
                rw [fe] at pi
                have pi' : gPopT (dF (T ++ p :: M.drop (j + 1)) fun _ => .bl true) [pairD p] = some (dF (T ++ M.drop (j + 1)) fun _ => .bl true) := pi
                refine ⟨[.ro kept, .ro (lstD M), .ow needs, .ro (pairD p), .ow (.int (M.length : Int)), .ow (lstD T), .ow (dF (T ++ M.drop (j + 1)) fun _ => .bl true), s7], ?_, T, _, ⟨?_, ?_, t3⟩, rfl⟩
                · simp -implicitDefEqProofs only [List.set_cons_succ, List.set_cons_zero, ap_if, ap_test, ap_bin, ap_lc, ap_binE, ap_var, List.getElem?_cons_succ, List.getElem?_cons_zero, Slot.val_ro, Slot.val_ow, R.bind_ok, gn, R.only_ok, sq_lst, oR_some, lc, ap_lst, ap_nil, en', R.bool_bl, R.toS_ok, if_true, ap_mut, Slot.own_ow, ap_root, atP_none, oS_some, hds T true, ap_cons, ap_imm, imm_pair, putIn_none, pi', ap_setOw, tyD]
                  rfl
                · rw [tk]; exact t1.trans (List.sublist_append_left _ _)
                · intro q hq hqT
                  rw [tk] at hq
                  rcases List.mem_append.mp hq with z | z
                  · exact t2 q z hqT
                  · rw [List.mem_singleton.mp z]
                    refine Good.mk fun r n => ?_
                    have hrB := k.nd hpB n
                    have hrG := no r n
                    by_cases hrM : r ∈ M
                    · rcases split r hrM with y | y
                      · exact t2 r y fun hT => hrG (List.mem_append_left _ hT)
                      · rw [dr] at y; exact absurd (List.mem_append_right _ y) hrG
                    · exact LM.out r hrB hrM
              · obtain ⟨q0, rest, hs0⟩ : ∃ q0 rest, ((rl p).lst.filter fun q => decide (q ∈ T ++ p :: M.drop (j + 1))) = q0 :: rest := by
                  cases e : ((rl p).lst.filter fun q => decide (q ∈ T ++ p :: M.drop (j + 1))) with
                  | nil => exact absurd e hem
                  | cons q0 rest => exact ⟨q0, rest, rfl⟩
                have hq0 : q0 ∈ (rl p).lst ∧ q0 ∈ T ++ p :: M.drop (j + 1) := by
                  have : q0 ∈ ((rl p).lst.filter fun q => decide (q ∈ T ++ p :: M.drop (j + 1))) := by rw [hs0]; simp
                  have := List.mem_filter.mp this
                  exact ⟨this.1, of_decide_eq_true this.2⟩
                have hq0M : q0 ∈ M := by
                  rcases List.mem_append.mp hq0.2 with z | z
                  · exact List.mem_of_mem_take (t1.subset z)
                  · rw [← dr] at z; exact List.mem_of_mem_drop z
                rw [hs0] at en lc
                have en' : gEq (lstD (q0 :: rest)) (.node .lst []) = .ok (.bl false) := en
                have ap : gAppend (lstD T) [Rs.pairD p] = some (lstD (T ++ [p])) := by
                  show (if _ then _ else _) = _
                  rw [if_pos (by rw [List.length_map]; omega)]
                  simp [lstD]
                refine ⟨[.ro kept, .ro (lstD M), .ow needs, .ro (pairD p), .ow (.int (M.length : Int)), .ow (lstD (T ++ [p])), .ow (dF (T ++ p :: M.drop (j + 1)) fun _ => .bl true), s7], ?_, T ++ [p], .ro (pairD p), ⟨?_, ?_, ?_⟩, by simp⟩
                · simp -implicitDefEqProofs only [List.set_cons_succ, List.set_cons_zero, ap_if, ap_test, ap_bin, ap_lc, ap_binE, ap_var, List.getElem?_cons_succ, List.getElem?_cons_zero, Slot.val_ro, Slot.val_ow, R.bind_ok, gn, R.only_ok, sq_lst, oR_some, lc, ap_lst, ap_nil, en', R.bool_bl, R.toS_ok, if_false, Bool.false_eq_true, ap_mut, Slot.own_ow, ap_root, atP_none, oS_some, ap_cons, ap_imm, imm_pair, if_true, putIn_none, ap, ap_setOw, tyD, List.length_nil, Nat.zero_le]
                  rfl
                · rw [tk]; exact List.Sublist.append t1 (List.Sublist.refl _)
                · intro q hq hqT
                  rw [tk] at hq
                  rcases List.mem_append.mp hq with z | z
                  · exact t2 q z fun y => hqT (List.mem_append_left _ y)
                  · exact absurd (List.mem_append_right _ z) hqT
                · intro q hq
                  rcases List.mem_append.mp hq with z | z
                  · exact t3 q z
                  · rw [List.mem_singleton.mp z]; exact ⟨q0, hq0.1, hq0M⟩)
          rw [List.length_map, List.take_length] at t1 t2
          exact ⟨_, e, T, T ++ M.drop (M.map pairD).length, dropRo s3', thawS [3] 1 7 s7 s7, ⟨t1, t2, t3⟩, by cases s3 <;> simp⟩)) ?_
      rintro _ ⟨T, G, s3, s7, ⟨t1, t2, t3⟩, rfl⟩
      refine ⟨[.ro kept, .ow (lstD T), .ow needs, s3, .ow (.int (M.length : Int)), .un, .ow (dF G fun _ => .bl true), s7], by simp -implicitDefEqProofs, T, M.length, _, _, _, _, ⟨t1.trans LM.sub, fun p hp hnT => ?_⟩, ?_, by omega, rfl⟩
      · by_cases hpM : p ∈ M
        · exact t2 p hpM hnT
        · exact LM.out p hp hpM
      · by_cases e : T.length < M.length
        · exact .inl e
        · have eq : T = M := t1.eq_of_length_le (Nat.not_lt.mp e)
          rw [eq]
          rw [eq] at t3
          exact .inr t3
    · have c := st.resolve_left hc
      have e := LM.stop k c
      subst e
      exact .inl ⟨by simp -implicitDefEqProofs; omega, _, _, _, _, _, rfl⟩
  · rintro _ ⟨s3, s4, s5, s6, s7, rfl⟩
    simp -implicitDefEqProofs
end
end Rs

set_option maxRecDepth 100000
/-! RsQ2: rules with few needs; rules wrapped. -/
namespace Rs
open PySem PySem.Spec PyProof.Rows L2
theorem mt_pop1 {X : Cx} (hu : X.A.units + 100 < cLine) : MtR X "dict.pop" rPop1T := mt_pop1T (by omega)
theorem Ref.In_mono {h H w : Nat} (hh : h ≤ H) {a : Ref} (i : a.In 0 h 0 w) : a.In 0 H 0 w := by
  unfold Ref.In at *
  omega
theorem Ru.In_mono {h H w : Nat} (hh : h ≤ H) : ∀ {x : Ru}, x.In 0 h 0 w → x.In 0 H 0 w
  | .num _, _ => trivial
  | .cell _, i => Ref.In_mono hh i
  | .sum _ _, i => ⟨Ref.In_mono hh i.1, Ref.In_mono hh i.2⟩
  | .most _ _, i => ⟨Ref.In_mono hh i.1, Ref.In_mono hh i.2⟩
  | .op _ _ _, i => ⟨Ru.In_mono hh i.1, Ru.In_mono hh i.2⟩
  | .pick _ _ _, i => ⟨Ru.In_mono hh i.1, Ru.In_mono hh i.2.1, Ru.In_mono hh i.2.2⟩
  | .look _ _ _ _, i => ⟨Ru.In_mono hh i.1, Ref.In_mono hh i.2.1, Ref.In_mono hh i.2.2.1, Ru.In_mono hh i.2.2.2⟩
theorem area_le {h w : Nat} {a b : Ref} (ha : a.In 0 h 0 w) (hb : b.In 0 h 0 w) (hh : h ≤ 12) (hw : w ≤ 12) : (areaP a.r a.c b.r b.c).length ≤ 144 := by
  unfold Ref.In at ha hb
  unfold areaP
  rw [boxP_len]
  exact Nat.mul_le_mul (show _ ≤ 12 by omega) (show _ ≤ 12 by omega)
theorem wrapped_lst (x : Ru) (c : Int) (m : Int) (hm : 0 ≤ m ∧ m ≤ 1000) : ∃ x' : Ru, f_l_wrapped [x.toD, .int c, .int m] = .ok x'.toD ∧ x'.dep = x.dep + m.toNat ∧ x'.lst = x.lst ∧ ∀ h w : Nat, x.In 0 h 0 w → x'.In 0 h 0 w := by
  unfold f_l_wrapped
  refine run_c (C := fun r => ∃ x' : Ru, r = .ok x'.toD ∧ x'.dep = x.dep + m.toNat ∧ x'.lst = x.lst ∧ ∀ h w : Nat, x.In 0 h 0 w → x'.In 0 h 0 w) (ρ0 := [.ro x.toD, .ro (.int c), .ro (.int m), .un, .un]) rfl ?_
  unfold m_l_wrapped
  refine seqC (C := fun r => ∃ x' : Ru, r.out = .ok x'.toD ∧ x'.dep = x.dep + m.toNat ∧ x'.lst = x.lst ∧ ∀ h w : Nat, x.In 0 h 0 w → x'.In 0 h 0 w)
    (forR_ex (lo := 0) (n := m.toNat) (fun k ρ => ∃ (y : Ru) (s0 s3 s4 : Slot), ρ = [s0, .ro (.int c), .ro (.int m), s3, s4] ∧ Holds0 s0 y.toD ∧ y.dep = x.dep + k ∧ y.lst = x.lst ∧ ∀ h w : Nat, x.In 0 h 0 w → y.In 0 h 0 w) (by simp; rfl) rfl ⟨x, _, _, _, rfl, .inl rfl, rfl, rfl, fun _ _ h => h⟩ ?_) ?_
  · rintro k _ hk ⟨y, s0, s3, s4, rfl, hs, hd, hx, hi⟩
    have v := hs.val
    have m1 : gMul (.int (0 + (k : Int))) (.int (0 + (k : Int))) = .ok (.int ((0 + (k : Int)) * (0 + (k : Int)))) := g_mul2 (by omega)
    have c4 : ((c / 7 + (0 + (k : Int)) * (0 + (k : Int))) % 4 = 0) ∨ ((c / 7 + (0 + (k : Int)) * (0 + (k : Int))) % 4 = 1) ∨ ((c / 7 + (0 + (k : Int)) * (0 + (k : Int))) % 4 = 2) ∨ ((c / 7 + (0 + (k : Int)) * (0 + (k : Int))) % 4 = 3) := by omega
    have fin : ∀ (z : Ru) (s4' : Slot), (∃ ρ', ρ' = [.ow z.toD, .ro (.int c), .ro (.int m), .ro (.int (0 + (k : Int))), s4'] ∧ True) → z.dep = y.dep + 1 → z.lst = y.lst → (∀ h w : Nat, y.In 0 h 0 w → z.In 0 h 0 w) → ∃ (y : Ru) (s0 s3 s4 : Slot), [.ow z.toD, .ro (.int c), .ro (.int m), .ro (.int (0 + (k : Int))), s4'] = [s0, .ro (.int c), .ro (.int m), s3, s4] ∧ Holds0 s0 y.toD ∧ y.dep = x.dep + (k + 1) ∧ y.lst = x.lst ∧ ∀ h w : Nat, x.In 0 h 0 w → y.In 0 h 0 w := fun z s4' _ h1 h3 h2 => ⟨z, _, _, _, rfl, .inr rfl, by omega, h3.trans hx, fun h w q => h2 h w (hi h w q)⟩
    rcases c4 with e | e | e | e
    · refine ⟨_, ?_, fin (.op .add y (.num (0 + (k : Int)))) (.ow (.int 0)) ⟨_, rfl, trivial⟩ (by simp only [Ru.dep]; have := y.dep_pos; omega) (by simp [Ru.lst]) fun h w q => ⟨q, trivial⟩⟩
      simp -implicitDefEqProofs [v, m1, e, Ru.toD, Op.nm, -Int.zero_add]
    · refine ⟨_, ?_, fin (.op .mul (.num (0 + (k : Int) + 1)) y) (.ow (.int 1)) ⟨_, rfl, trivial⟩ (by simp only [Ru.dep]; have := y.dep_pos; omega) (by simp [Ru.lst]) fun h w q => ⟨trivial, q⟩⟩
      simp -implicitDefEqProofs [v, m1, e, Ru.toD, Op.nm, -Int.zero_add]
    · refine ⟨_, ?_, fin (.pick (.num ((0 + (k : Int)) % 2)) y (.num (0 + (k : Int)))) (.ow (.int 2)) ⟨_, rfl, trivial⟩ (by simp only [Ru.dep]; have := y.dep_pos; omega) (by simp [Ru.lst]) fun h w q => ⟨trivial, q, trivial⟩⟩
      simp -implicitDefEqProofs [v, m1, e, Ru.toD, Op.nm, -Int.zero_add]
    · refine ⟨_, ?_, fin (.op .sub (.num (0 + (k : Int))) y) (.ow (.int 3)) ⟨_, rfl, trivial⟩ (by simp only [Ru.dep]; have := y.dep_pos; omega) (by simp [Ru.lst]) fun h w q => ⟨trivial, q⟩⟩
      simp -implicitDefEqProofs [v, m1, e, Ru.toD, Op.nm, -Int.zero_add]
  · rintro _ ⟨y, s0, s3, s4, rfl, hs, hd, hx, hi⟩
    exact ⟨y, hs.give y.imm, hd, hx, hi⟩
/-- a sheet of rules with few needs -/
structure ShLs (h w : Nat) (rl : Pl → Ru) : Prop where
  ok : ShOk h w rl
  ls : ∀ p, (rl p).lst.length ≤ 1000
theorem ShLs.set {h w : Nat} {rl : Pl → Ru} (k : ShLs h w rl) {p : Pl} {x : Ru} (hd : x.dep ≤ 8) (hi : x.In 0 h 0 w) (hx : x.lst.length ≤ 1000) : ShLs h w (setR rl p x) := by
  refine ⟨k.ok.set hd hi, fun q => ?_⟩
  unfold setR; split
  · exact hx
  · exact k.ls q
theorem ShLs.noughts {h w : Nat} (hh : 0 < h ∧ h ≤ 12) (hw : 0 < w ∧ w ≤ 12) : ShLs h w fun _ => .num 0 := ⟨ShOk.noughts hh hw, fun _ => by simp [Ru.lst]⟩
end Rs

set_option maxRecDepth 100000
/-! RsQ3: what a rule tells, by the laws' own reckoning. -/
namespace Rs
open PySem PySem.Spec PyProof.Rows L2
def m_l_number_by : Evn → RS :=
    (mSeq (mSet 1 (mBin gDiv (mVar 0) (mC (.int 5))))
    (mSeq (mIf (mTest (mBin gEq (mBin gMod (mVar 0) (mC (.int 5))) (mC (.int 0)))) (mRet (mBin gMod (mVar 1) (mC (.int 10)))) mNx)
    (mSeq (mIf (mTest (mBin gEq (mBin gMod (mVar 0) (mC (.int 5))) (mC (.int 1)))) (mRet (mBin gMod (mVar 1) (mC (.int 1000000000)))) mNx)
    (mSeq (mIf (mTest (mBin gEq (mBin gMod (mVar 0) (mC (.int 5))) (mC (.int 2)))) (mRet (mBin gAdd (mC (.int 999999999)) (mBin gMod (mVar 1) (mC (.int 3))))) mNx)
    (mSeq (mIf (mTest (mBin gEq (mBin gMod (mVar 0) (mC (.int 5))) (mC (.int 3)))) (mRet (mBin gSub (mUn gNeg (mC (.int 1))) (mBin gMod (mVar 1) (mBin gPow (mC (.int 10)) (mC (.int 12)))))) mNx)
    (mRet (mBin gMod (mVar 1) (mBin gPow (mC (.int 10)) (mC (.int 30))))))))))
def f_l_number_by : List D → R D := runP 1 2 m_l_number_by
def m_l_looked (g : List D → R D) : Evn → RS :=
    (mSeq (mSet 2 (mApp 3 f_l_lane (mCons (mBinE gIx (mVar 0) (mC (.int 2))) (mCons (mBinE gIx (mVar 0) (mC (.int 3))) (mCons (mC (.int 1)) mNil)))))
    (mSeq (mSet 3 (mApp 2 g (mCons (mBinE gIx (mVar 0) (mC (.int 1))) (mCons (mVar 1) mNil))))
    (mSeq (mFor 4 (mApp 3 f_l_lane (mCons (mBinE gIx (mVar 0) (mC (.int 2))) (mCons (mBinE gIx (mVar 0) (mC (.int 3))) (mCons (mC (.int 0)) mNil)))) (mIf (mTest (mBin gEq (mBinE gIx (mVar 1) (mTup (mCons (mImm (mVar 4)) (mCons (mImm (mBinE gIx (mVar 2) (mC (.int 0)))) mNil)))) (mVar 3))) (mRet (mImm (mBinE gIx (mVar 1) (mTup (mCons (mImm (mVar 4)) (mCons (mImm (mBinE gIx (mVar 2) (mUn gNeg (mC (.int 1))))) mNil)))))) mNx))
    (mRet (mApp 2 g (mCons (mBinE gIx (mVar 0) (mC (.int 4))) (mCons (mVar 1) mNil)))))))
def f_l_looked (g : List D → R D) : List D → R D := runP 2 5 (m_l_looked g)
def m_l_told (g : List D → R D) : Evn → RS :=
    (mSeq (mIf (mTest (mBin gEq (mBinE gIx (mVar 0) (mC (.int 0))) (mC (.str "num")))) (mRet (mBin gMod (mBinE gIx (mVar 0) (mC (.int 1))) (mC (.int 1000000000)))) mNx)
    (mSeq (mIf (mTest (mBin gEq (mBinE gIx (mVar 0) (mC (.int 0))) (mC (.str "cell")))) (mRet (mImm (mBinE gIx (mVar 1) (mTup (mCons (mImm (mBinE gIx (mBinE gIx (mVar 0) (mC (.int 1))) (mC (.int 0)))) (mCons (mImm (mBinE gIx (mBinE gIx (mVar 0) (mC (.int 1))) (mC (.int 1)))) mNil)))))) mNx)
    (mSeq (mIf (mTest (mBin gEq (mBinE gIx (mVar 0) (mC (.int 0))) (mC (.str "sum")))) (mRet (mBin gMod (mCall gSum (mCons (mLc 2 (mApp 2 f_l_area (mCons (mBinE gIx (mVar 0) (mC (.int 1))) (mCons (mBinE gIx (mVar 0) (mC (.int 2))) mNil))) mYes (mImm (mBinE gIx (mVar 1) (mVar 2)))) mNil)) (mC (.int 1000000000)))) mNx)
    (mSeq (mIf (mTest (mBin gEq (mBinE gIx (mVar 0) (mC (.int 0))) (mC (.str "most")))) (mRet (mCall gMax1 (mCons (mLc 2 (mApp 2 f_l_area (mCons (mBinE gIx (mVar 0) (mC (.int 1))) (mCons (mBinE gIx (mVar 0) (mC (.int 2))) mNil))) mYes (mImm (mBinE gIx (mVar 1) (mVar 2)))) mNil))) mNx)
    (mSeq (mIf (mTest (mBin gEq (mBinE gIx (mVar 0) (mC (.int 0))) (mC (.str "look")))) (mRet (mApp 2 (f_l_looked g) (mCons (mVar 0) (mCons (mVar 1) mNil)))) mNx)
    (mSeq (mSet 3 (mLc 4 (mSl (mVar 0) (mPart (mC (.int 1))) mNoPart) mYes (mApp 2 g (mCons (mVar 4) (mCons (mVar 1) mNil)))))
    (mSeq (mIf (mTest (mBin gEq (mBinE gIx (mVar 0) (mC (.int 0))) (mC (.str "pick")))) (mRet (mImm (mBinE gIx (mVar 3) (mBin gAdd (mC (.int 1)) (mCall gInt (mCons (mBin gEq (mBinE gIx (mVar 3) (mC (.int 0))) (mC (.int 0))) mNil)))))) mNx)
    (mSeq (mIf (mTest (mBin gEq (mBinE gIx (mVar 0) (mC (.int 0))) (mC (.str "add")))) (mRet (mBin gMod (mBin gAdd (mBinE gIx (mVar 3) (mC (.int 0))) (mBinE gIx (mVar 3) (mC (.int 1)))) (mC (.int 1000000000)))) mNx)
    (mSeq (mIf (mTest (mBin gEq (mBinE gIx (mVar 0) (mC (.int 0))) (mC (.str "sub")))) (mRet (mBin gMod (mBin gSub (mBinE gIx (mVar 3) (mC (.int 0))) (mBinE gIx (mVar 3) (mC (.int 1)))) (mC (.int 1000000000)))) mNx)
    (mRet (mBin gMod (mBin gMul (mBinE gIx (mVar 3) (mC (.int 0))) (mBinE gIx (mVar 3) (mC (.int 1)))) (mC (.int 1000000000)))))))))))))
def f_l_told_ : Nat → List D → R D
  | 0 => fun _ => .no
  | n + 1 => runP 2 5 (m_l_told (f_l_told_ n))

theorem num_run (x : Int) : ∃ z : Int, f_l_number_by [.int x] = .ok (.int z) := by
  unfold f_l_number_by
  rw [run_out]
  unfold m_l_number_by
  by_cases c0 : x % 5 = 0
  · exact ⟨x / 5 % 10, by simp -implicitDefEqProofs [c0]⟩
  · by_cases c1 : x % 5 = 1
    · exact ⟨x / 5 % 1000000000, by simp -implicitDefEqProofs [c1]⟩
    · by_cases c2 : x % 5 = 2
      · exact ⟨999999999 + x / 5 % 3, by simp -implicitDefEqProofs [c2]⟩
      · by_cases c3 : x % 5 = 3
        · exact ⟨-1 - x / 5 % 1000000000000, by simp -implicitDefEqProofs [c3, g_pow]⟩
        · exact ⟨x / 5 % 1000000000000000000000000000000, by simp -implicitDefEqProofs [c0, c1, c2, c3, g_pow]⟩
theorem vals2_run {kd : D} {f : Int × Int → Int} {ps : List (Int × Int)} (hl : ps.length < 100000) (h : ∀ p ∈ ps, gIx kd (pairD p) = .ok (.int (f p))) (s0 s2 s3 s4 : Slot) :
    lcR 2 mYes (mImm (mBinE gIx (mVar 1) (mVar 2))) (ps.map pairD) [s0, .ro kd, s2, s3, s4] = .ok (.node .lst ((ps.map f).map D.int)) := by
  unfold lcR
  rw [List.length_map, if_pos hl, lcL_map (g := fun d => .int (f (posD d))) fun x hx => ?_]
  · rw [R.bind_ok, List.map_map, List.map_map]
    rfl
  · obtain ⟨p, hp, rfl⟩ := List.mem_map.mp hx
    exact ⟨rfl, by simp -implicitDefEqProofs [h p hp]⟩
theorem lane0 (a b : Ref) (hl : (max a.r b.r + 1 - min a.r b.r).toNat < 100000) : f_l_lane [a.toD, b.toD, .int 0] = .ok (.node .lst ((rowsL a.r b.r).map D.int)) := by
  rw [lane_run (ix_r0 a) (ix_r0 b) (by omega)]
  unfold rowsL
  rw [List.map_map, show max a.r b.r + 1 - min a.r b.r = max a.r b.r - min a.r b.r + 1 by omega]
  rfl
theorem lane1 (a b : Ref) (hl : (max a.c b.c + 1 - min a.c b.c).toNat < 100000) : f_l_lane [a.toD, b.toD, .int 1] = .ok (.node .lst ((rowsL a.c b.c).map D.int)) := by
  rw [lane_run (ix_r1 a) (ix_r1 b) (by omega)]
  unfold rowsL
  rw [List.map_map, show max a.c b.c + 1 - min a.c b.c = max a.c b.c - min a.c b.c + 1 by omega]
  rfl
section
variable {t l : Int} {h w : Nat}
theorem lanes {a b : Ref} (ha : a.In t h l w) (hb : b.In t h l w) (hw : h * w < 100000) : f_l_lane [a.toD, b.toD, .int 0] = .ok (.node .lst ((rowsL a.r b.r).map D.int)) ∧ f_l_lane [a.toD, b.toD, .int 1] = .ok (.node .lst ((rowsL a.c b.c).map D.int)) := by
  unfold Ref.In at ha hb
  have h0 : 0 < h := by omega
  have w0 : 0 < w := by omega
  have h1 : h ≤ h * w := Nat.le_mul_of_pos_right h w0
  have h2 : w ≤ h * w := Nat.le_mul_of_pos_left w h0
  exact ⟨lane0 a b (by omega), lane1 a b (by omega)⟩
theorem scan_law {kd : D} {f : Int × Int → Int} {lt rt key : Int} {cols : D} (hc0 : gIx cols (.int 0) = .ok (.int lt)) (hc1 : gIx cols (.int (-1)) = .ok (.int rt)) (s0 : Slot) : ∀ (rs : List Int) (s4 : Slot), (∀ x ∈ rs, gIx kd (pairD (x, lt)) = .ok (.int (f (x, lt))) ∧ gIx kd (pairD (x, rt)) = .ok (.int (f (x, rt)))) →
    ∃ s4', forL 4 (mIf (mTest (mBin gEq (mBinE gIx (mVar 1) (mTup (mCons (mImm (mVar 4)) (mCons (mImm (mBinE gIx (mVar 2) (mC (.int 0)))) mNil)))) (mVar 3))) (mRet (mImm (mBinE gIx (mVar 1) (mTup (mCons (mImm (mVar 4)) (mCons (mImm (mBinE gIx (mVar 2) (mUn gNeg (mC (.int 1))))) mNil)))))) mNx) (rs.map D.int)
      [s0, .ro kd, .ow cols, .ow (.int key), s4] = match scanL f lt rt key rs with
        | some v => .rt (.int v) [s0, .ro kd, .ow cols, .ow (.int key), s4']
        | none => .nx [s0, .ro kd, .ow cols, .ow (.int key), s4']
  | [], s4, _ => ⟨s4, rfl⟩
  | x :: rs, s4, hk => by
    obtain ⟨h1, h2⟩ := hk x (by simp)
    unfold scanL
    by_cases e : f (x, lt) = key
    · refine ⟨.ro (.int x), ?_⟩
      rw [if_pos e]
      simp -implicitDefEqProofs [hc0, hc1, pair_mk, h1, h2, e]
    · obtain ⟨s4', hr⟩ := scan_law (f := f) (key := key) hc0 hc1 s0 rs (.ro (.int x)) fun y hy => hk y (by simp [hy])
      refine ⟨s4', ?_⟩
      rw [if_neg e]
      simp -implicitDefEqProofs [hc0, pair_mk, h1, e, hr]
theorem ltold_run (hw : h * w < 100000) {kd : D} {f : Int × Int → Int} {S : Int × Int → Prop} (hf : Fits f) (hk : Known kd f S) : ∀ (n : Nat) (x : Ru), x.dep ≤ n → x.In t h l w → (∀ p, x.Nam p → S p) → f_l_told_ n [x.toD, kd] = .ok (.int (x.ev f))
  | 0, x, hd, _, _ => by have := x.dep_pos; omega
  | n + 1, x, hd, hi, hS => by
    have ih := ltold_run hw hf hk n
    unfold f_l_told_
    rw [run_out]
    unfold m_l_told
    cases x with
    | num i => simp -implicitDefEqProofs [Ru.toD, Ru.ev]
    | cell a =>
      have := hk (a.r, a.c) (hS _ (mem_areaP.mpr (by simp only; omega)))
      simp -implicitDefEqProofs [Ru.toD, Ru.ev, Ref.toD, pair_mk, this]
    | sum a b =>
      have al := area_fit hi.1 hi.2 hw
      have ar := larea_run (a := a) (b := b) (by unfold areaP; rw [boxP_len]; exact al)
      have v := vals2_run (kd := kd) (f := f) (ps := areaP a.r a.c b.r b.c) (by unfold areaP; rw [boxP_len]; exact al) (fun p hp => hk p (hS p hp)) (.ro (Ru.sum a b).toD) .un .un .un
      simp only [Ru.toD] at v
      simp -implicitDefEqProofs [-List.map_map, Ru.toD, Ru.ev, ar, v]
    | most a b =>
      have al := area_fit hi.1 hi.2 hw
      have ar := larea_run (a := a) (b := b) (by unfold areaP; rw [boxP_len]; exact al)
      have v := vals2_run (kd := kd) (f := f) (ps := areaP a.r a.c b.r b.c) (by unfold areaP; rw [boxP_len]; exact al) (fun p hp => hk p (hS p hp)) (.ro (Ru.most a b).toD) .un .un .un
      simp only [Ru.toD] at v
      have m := g_max_ints (ns := (areaP a.r a.c b.r b.c).map f) (by simp [areaP_ne])
      simp -implicitDefEqProofs [-List.map_map, Ru.toD, Ru.ev, ar, v, m]
    | op q x y =>
      simp only [Ru.dep] at hd
      have hx := ih x (by omega) hi.1 fun p hp => hS p (.inl hp)
      have hy := ih y (by omega) hi.2 fun p hp => hS p (.inr hp)
      have fx := x.ev_fit hf
      have m : gMul (.int (x.ev f)) (.int (y.ev f)) = .ok (.int (x.ev f * y.ev f)) := g_mul1 (by omega)
      cases q <;> simp -implicitDefEqProofs [Ru.toD, Ru.ev, Op.nm, Op.ev, lcR, hx, hy, m]
    | pick x y z =>
      simp only [Ru.dep] at hd
      have hx := ih x (by omega) hi.1 fun p hp => hS p (.inl hp)
      have hy := ih y (by omega) hi.2.1 fun p hp => hS p (.inr (.inl hp))
      have hz := ih z (by omega) hi.2.2 fun p hp => hS p (.inr (.inr hp))
      by_cases e : x.ev f = 0
      · simp -implicitDefEqProofs [Ru.toD, Ru.ev, lcR, hx, hy, hz, e]
      · simp -implicitDefEqProofs [Ru.toD, Ru.ev, lcR, hx, hy, hz, e]
    | look k a b o =>
      simp only [Ru.dep] at hd
      have hx := ih k (by omega) hi.1 fun p hp => hS p (.inr (.inl hp))
      have hy := ih o (by omega) hi.2.2.2 fun p hp => hS p (.inr (.inr hp))
      obtain ⟨l0, l1⟩ := lanes hi.2.1 hi.2.2.1 hw
      obtain ⟨c1, e1⟩ := rowsL_first (a := a.c) (b := b.c)
      obtain ⟨c2, e2⟩ := rowsL_last (a := a.c) (b := b.c)
      have hc0 : gIx (.node .lst ((rowsL a.c b.c).map D.int)) (.int 0) = .ok (.int (min a.c b.c)) := by rw [e1]; exact ix_l0
      have hc1 : gIx (.node .lst ((rowsL a.c b.c).map D.int)) (.int (-1)) = .ok (.int (max a.c b.c)) := by rw [e2, List.map_append]; exact ix_m1
      obtain ⟨s4', sc⟩ := scan_law (kd := kd) (f := f) (key := k.ev f) hc0 hc1 (.ro (Ru.look k a b o).toD) (rowsL a.r b.r) .un fun z hz =>
        ⟨hk _ (hS _ (.inl (rows_area hz).1)), hk _ (hS _ (.inl (rows_area hz).2))⟩
      have lk : f_l_looked (f_l_told_ n) [(Ru.look k a b o).toD, kd] = .ok (.int ((Ru.look k a b o).ev f)) := by
        unfold f_l_looked
        rw [run_out]
        unfold m_l_looked
        simp only [Ru.toD] at sc
        simp -implicitDefEqProofs [Ru.toD, Ru.ev, hx, l0, l1] at sc ⊢
        rw [sc]
        cases scanL f (min a.c b.c) (max a.c b.c) (k.ev f) (rowsL a.r b.r) with
        | some v => simp
        | none => simp -implicitDefEqProofs [hy]
      simp only [Ru.toD] at lk
      simp -implicitDefEqProofs [Ru.toD, lk]
end
end Rs

set_option maxRecDepth 100000
/-! RsQ4: tables that are told. -/
namespace Rs
open PySem PySem.Spec PyProof.Rows L2
def rowsD (L : List (List D)) : D := .node .lst (L.map (D.node .lst))
def tabL (h w : Nat) (v : Pl → D) : List (List D) := (List.range h).map fun (r : Nat) => (List.range w).map fun (c : Nat) => v ((r : Int), (c : Int))
theorem tab_rows {h w : Nat} {v : Pl → D} : tabD h w v = rowsD (tabL h w v) := by
  unfold tabD rowsD tabL
  rw [List.map_map]
  rfl
theorem tabL_mem {h w : Nat} {v : Pl → D} {xs : List D} (hx : xs ∈ tabL h w v) : xs.length = w ∧ ∀ d ∈ xs, ∃ p, d = v p := by
  unfold tabL at hx
  obtain ⟨r, _, rfl⟩ := List.mem_map.mp hx
  refine ⟨by simp, fun d hd => ?_⟩
  obtain ⟨c, _, rfl⟩ := List.mem_map.mp hd
  exact ⟨_, rfl⟩
theorem copy_rows {i : Nat} {ρ : Evn} {L : List (List D)} (hl : L.length < 100000) (hi : ∀ xs ∈ L, D.imms xs = true) (h2 : ∀ s, (ρ.set i s)[i]? = some s) : lcR i mYes (mCall gList (mCons (mVar i) mNil)) (L.map (D.node .lst)) ρ = .ok (rowsD L) := by
  unfold lcR
  rw [List.length_map, if_pos hl, lcL_map (g := fun d => d) fun x hx => ?_]
  · rw [R.bind_ok, List.map_id']
    rfl
  · obtain ⟨xs, hxs, rfl⟩ := List.mem_map.mp hx
    exact ⟨rfl, by simp -implicitDefEqProofs [h2, hi xs hxs]⟩
theorem rows_ok {L : List (List D)} (hi : ∀ xs ∈ L, ∀ d ∈ xs, okD 58 d = true) : okD 60 (rowsD L) = true := okDs_iff.mpr fun d hd => by
  obtain ⟨xs, hxs, rfl⟩ := List.mem_map.mp hd
  exact okDs_iff.mpr fun e he => hi xs hxs e he
theorem valD_ok {rl : Pl → Ru} {p : Pl} {n : Nat} : okD (n + 1) (valD rl p) = true := by
  unfold valD
  split <;> simp [okD]
theorem tab_ix {h w : Nat} {v : Pl → D} {p : Pl} (hp : p ∈ boxP 0 h 0 w) : ∃ row, gIx (tabD h w v) (.int p.1) = .ok row ∧ gIx row (.int p.2) = .ok (v p) := by
  have hm := mem_boxP.mp hp
  refine ⟨.node .lst ((List.range w).map fun (c : Nat) => v (p.1, (c : Int))), ?_, ?_⟩
  · refine gIx_at (k := p.1.toNat) rfl (by omega) ?_
    rw [List.getElem?_map, List.getElem?_range (by omega)]
    simp only [Option.map_some]
    rw [show ((p.1.toNat : Nat) : Int) = p.1 by omega]
  · refine gIx_at (k := p.2.toNat) rfl (by omega) ?_
    rw [List.getElem?_map, List.getElem?_range (by omega)]
    simp only [Option.map_some]
    rw [show ((p.2.toNat : Nat) : Int) = p.2 by omega]
/-! the sheet of noughts -/
def row0 (w : Nat) : D := .node .lst (List.replicate w (.int 0))
def tab0 (h w : Nat) : D := .node .lst (List.replicate h (row0 w))
theorem good0 (p : Pl) : Good (fun _ => Ru.num 0) p := Good.mk fun q n => by
  simp [Nd, Ru.lst] at n
theorem val0 (p : Pl) : valD (fun _ => Ru.num 0) p = .int 0 := by
  unfold valD
  rw [if_pos (good0 p), Sv_eq (good0 p)]
  rfl
theorem tab0_eq {h w : Nat} : tabD h w (valD fun _ => .num 0) = tab0 h w := by
  unfold tabD tab0 row0
  simp only [val0, List.map_const', List.length_range]
theorem ok_tab0 {h w : Nat} : okD 60 (tab0 h w) = true := okDs_iff.mpr fun d hd => by
  rw [List.eq_of_mem_replicate hd]
  exact okDs_iff.mpr fun e he => by rw [List.eq_of_mem_replicate he]; rfl
theorem lc0 {h w i j : Nat} (hw : w ≤ 12) (hh : h < 100000) {ρ : Evn} (h2 : ∀ s, Slot.val (ρ.set i s)[j]? = .ok (.int w)) : lcR i mYes (mBin gRep (mLst (mCons (mC (.int 0)) mNil)) (mVar j)) (rangeD 0 h) ρ = .ok (tab0 h w) := by
  unfold lcR
  rw [rangeD_len, if_pos hh, lcL_map (g := fun _ => row0 w) fun x hx => ?_]
  · unfold tab0 rangeD
    rw [R.bind_ok, List.map_map]
    simp [Function.comp_def, List.map_const']
  · have g : gRep (.node .lst [.int 0]) (.int w) = .ok (row0 w) := by
      show (if _ then _ else _) = _
      rw [if_pos ⟨rfl, by decide, by omega, by omega⟩, Int.toNat_natCast, List.flatten_replicate_singleton]
      rfl
    exact ⟨rfl, by simp -implicitDefEqProofs [h2, g]⟩
end Rs

set_option maxRecDepth 100000
/-! Rs31: dict(d) of a dict by places. -/
namespace Rs
section
open PySem PySem.W PySem.Calls PyProof.Rows PyProof.V PySem.Spec L2
variable {prog : Program} {w : World} {K : Type} [DecidableEq K] {knd : HeapKind prog w K} {A : Around} {E : Value → Shared → Prop} {s : Shared}
theorem call_dictH {o : Addr} {more : List (K × Addr × Value)} {Q : Value → Shared → Prop} (hu : knd.room A.in1.in1) (hoS : (o == sysModules) = false) (ho : s.heap.DictOfH knd o more)
    (hst : ∀ h', (∀ b o, s.heap.get? b = some o → h'.get? b = some o) → ∀ x ∈ more, knd.is h' x.1 x.2.1) (hty : ∀ x ∈ more, s.TypeIs (.ref x.2.1) "tuple") (hap : (more.map fun x => knd.hash x.1).Nodup) (hsz : more.length ≤ sizeLine)
    (h : ∀ h', h'.DictOfH knd s.heap.objs.size more → (∀ b o, s.heap.get? b = some o → h'.get? b = some o) → Q (.ref s.heap.objs.size) { s with heap := h' }) :
    wpAny (model prog w) A (call (.type "dict") [.ref o]) Q E s := by
  refine callType_codes (Q₁ := fun obj s₁ => obj = .ref s.heap.objs.size ∧ s₁ = { s with heap := s.heap.push { cls := .type "dict", data := .dict #[] } }) PySem.F.kt_called_dict (PySem.F.kt_typeCall_dict_1 _) PySem.F.entry_dict_init (kt_code_dict_new _ ⟨rfl, rfl⟩) ?_
  rintro obj s₁ ⟨rfl, rfl⟩
  have hg : (s.heap.push { cls := .type "dict", data := .dict #[] }).get? s.heap.objs.size = some { cls := .type "dict", data := .dict #[] } := Heap.get?_push_size _ rfl
  have k0 : ∀ b o, s.heap.get? b = some o → (s.heap.push { cls := .type "dict", data := .dict #[] }).get? b = some o := fun b o e => Heap.get?_push_of_some _ e
  have hnew : (s.heap.push { cls := .type "dict", data := .dict #[] }).DictOfH knd s.heap.objs.size [] := ⟨_, #[], 0, hg, ⟨rfl, rfl, rfl⟩, rfl, rfl, fun x hx => (by cases hx), List.nodup_nil⟩
  obtain ⟨oo, es, ep, h1, h2, h3, h4, h5, h6⟩ := id ho
  have ho' : (s.heap.push { cls := .type "dict", data := .dict #[] }).DictOfH knd o more := ⟨oo, es, ep, k0 _ _ h1, h2, h3, h4, hst _ k0, h6⟩
  have hne : s.heap.objs.size ≠ o := Nat.ne_of_gt (Heap.lt_size h1)
  refine ⟨hnew.typeIs, PySem.F.args_dict_init_2 _ _, ?_⟩
  unfold Builtin.«dict.__init__»
  refine wpAny_bind ?_
  unfold Builtin.Dict.selfAndRest
  refine wpAny_bind (wpAny_notOrdered_dict hnew.typeIs ?_)
  show wpAny _ _ (pure (s.heap.objs.size, [Value.ref o])) _ _ _
  refine wpAny_pure ?_
  show wpAny _ _ (Builtin.Dict.updateFrom "dict.__init__" s.heap.objs.size (.ref o) [] .none) _ _ _
  refine updateFrom_dictH .none hu hne hoS hnew ho' (.inr ⟨fun x hx => ?_, hap⟩) (by simpa using hsz) fun h' hd' _ hs' => ?_
  · obtain ⟨ob, e1, e2⟩ := hty x hx
    exact ⟨ob, k0 _ _ e1, e2⟩
  · rw [storedAllH_nil_of_nodup more h6] at hd'
    exact ⟨rfl, h h' hd' fun b ob e => (hs'.2 b (Nat.ne_of_lt (Heap.lt_size e))).trans (k0 _ _ e)⟩
/-- what is hashed of a place -/
def hashP (p : Int × Int) : Int := reduceHash (Builtin.Tuple.tupleHashOf [hashInt p.1, hashInt p.2])
theorem hash_nd : ((boxP 0 12 0 12).map hashP).Nodup := by decide +kernel
end
section
open PySem PySem.Spec PyProof.Rows L2
variable {X : Cx} {G : Gx}
theorem hash_inj {ks : List (Int × Int)} (hn : ks.Nodup) (hb : ∀ p ∈ ks, p ∈ boxP 0 12 0 12) : (ks.map hashP).Nodup := by
  have inj : ∀ {L : List (Int × Int)}, (L.map hashP).Nodup → ∀ p ∈ L, ∀ q ∈ L, hashP p = hashP q → p = q := fun {L} => by
    induction L with
    | nil => intro _ p hp; cases hp
    | cons a L ih =>
      intro nd p hp q hq e
      rw [List.map_cons, List.nodup_cons] at nd
      rcases List.mem_cons.mp hp with e1 | hp2
      · rcases List.mem_cons.mp hq with e2 | hq2
        · rw [e1, e2]
        · exact absurd (List.mem_map.mpr ⟨q, hq2, by rw [← e, e1]⟩) nd.1
      · rcases List.mem_cons.mp hq with e2 | hq2
        · exact absurd (List.mem_map.mpr ⟨p, hp2, by rw [e, e2]⟩) nd.1
        · exact ih nd.2 p hp2 q hq2 e
  induction ks with
  | nil => exact List.nodup_nil
  | cons a ks ih =>
    rw [List.nodup_cons] at hn
    rw [List.map_cons, List.nodup_cons]
    refine ⟨fun z => ?_, ih hn.2 fun p hp => hb p (by simp [hp])⟩
    obtain ⟨q, hq, e⟩ := List.mem_map.mp z
    exact hn.1 (inj hash_nd q (hb q (by simp [hq])) a (hb a (by simp)) e ▸ hq)
def rDictT : List V → Hp → VK → Prop := fun xs H Q => ∃ (a : Addr) (kvs : List (List L2.Key × V)) (ks : List (Int × Int)), xs = [V.ref a] ∧ Rd H a (.dT kvs) ∧ kvs.map (·.1) = ks.map kp ∧ (∀ p ∈ ks, p ∈ boxP 0 12 0 12) ∧ ∀ p, H p = none → Q (.ref p) (upd H p (.dT kvs))
theorem call_dictT (hu : X.A.units + 100 < cLine) : CallR X (.type "dict") rDictT := by
  intro pins s σ H xs us Q I r h
  obtain ⟨a, kvs, ks, rfl, rd, hk, hb, q⟩ := h
  obtain ⟨u, rfl, rx⟩ := r.one
  cases rx
  obtain ⟨z, hd, xs', rel, dd⟩ := dt_rd I.hok rd
  have mem : ∀ {l : List (List L2.Key × V)} {m : List (List L2.Key × Addr × Value)}, KT H l m → l.map (·.1) = m.map (·.1) ∧ ∀ x ∈ m, H x.2.1 = some (.tup (x.1.map kV)) := by
    intro l m q
    induction q with
    | nil => exact ⟨rfl, fun x hx => nomatch hx⟩
    | @cons p q ps qs hq t ih =>
      refine ⟨by rw [List.map_cons, List.map_cons, hq.1, ih.1], fun x hx => ?_⟩
      rcases List.mem_cons.mp hx with rfl | hx
      · rw [← hq.1]; exact hq.2.1
      · exact ih.2 x hx
  have e1 := (mem rel).1
  have tk : ∀ x ∈ xs', (tupleKind (mixKind X.prog X.w)).is s.heap x.1 x.2.1 := fun x hx => key_of I.hok ((mem rel).2 x hx)
  have nd : ks.Nodup := by
    have := dd.nodup
    rw [← e1, hk] at this
    exact List.Pairwise.of_map kp (fun a b h e => h (by rw [e])) this
  refine call_dictH (knd := tupleKind (mixKind X.prog X.w)) (show X.A.units + 1 + 1 < cLine by omega) hd dd (fun h' ext x hx => ?_) (fun x hx => ?_) ?_ (by rw [← rel.length]; exact z) fun h' dd' ext => ?_
  · obtain ⟨o, items, n, ho, r⟩ := tk x hx
    exact ⟨o, items, n, ext _ _ ho, r⟩
  · obtain ⟨o, items, n, ho, r⟩ := tk x hx
    exact ⟨o, ho, r.1⟩
  · have : (xs'.map fun x => (tupleKind (mixKind X.prog X.w)).hash x.1) = ks.map hashP := by
      have e2 : (xs'.map fun x => (tupleKind (mixKind X.prog X.w)).hash x.1) = (xs'.map (·.1)).map fun k => (tupleKind (mixKind X.prog X.w)).hash k := by rw [List.map_map]; rfl
      rw [e2, ← e1, hk, List.map_map]
      rfl
    rw [this]
    exact hash_inj nd hb
  · obtain ⟨o, es, ep, hq, h2, h3, h4, _, h5⟩ := dd'
    have hf : H s.heap.objs.size = none := I.hok.fresh (Nat.le_refl _)
    refine ⟨.ref s.heap.objs.size, upd H s.heap.objs.size (.dT kvs), I.laid (a := s.heap.objs.size) (o := .dT kvs) (t' := s.toks) (fun b u e => ext b u e) (Nat.le_refl _) ⟨z, beq_eq_false_iff_ne.mpr (Ne.symm (Nat.ne_of_lt I.big)), xs', rel.keeps (fun b ys e => ?_), o, es, ep, hq, h2, h3, h4, h5⟩, rfl, q _ hf⟩
    rw [upd_ne fun z => by rw [z, hf] at e; cases e]
    exact e
/-- dict(d): a copy -/
def gDict : List D → R D
  | [.node (.dT ks) xs] => if D.imms xs = true ∧ (ks.all fun p => decide (p ∈ boxP 0 12 0 12)) = true then .ok (.node (.dT ks) xs) else .no
  | _ => .no
theorem opl_dict : OpL G rDictT gDict := by
  intro ds vs F H Q o s
  unfold gDict at s
  split at s
  · rename_i ks xs
    obtain ⟨v, F1, rfl, o1⟩ := own1 o
    split at s
    · rename_i hc
      obtain ⟨a', kvs, F', rfl, rd, hk, ol, _⟩ := own_dT o1
      have e := ownL_imm xs _ F' hc.1 ol
      subst e
      refine ⟨a', kvs, ks, rfl, rd, hk, fun p hp => of_decide_eq_true (List.all_eq_true.mp hc.2 p hp), fun p hp => ?_⟩
      refine s (.ref p) _ [p] (upd_new hp) (own_new (h := .dT ks) hp ol ⟨kvs, .inl upd_same, hk, rfl⟩) (by simp) fun a ha => ?_
      have : a = p := by simpa using ha
      subst this
      exact ⟨hp, _, upd_same, trivial⟩
    · exact s.elim
  · exact s.elim
theorem dict_copy {L : List (Int × Int)} {v : Int × Int → D} (hb : ∀ p ∈ L, p ∈ boxP 0 12 0 12) (hv : ∀ q, (v q).imm = true) : gDict [.node (.dT L) (L.map v)] = .ok (.node (.dT L) (L.map v)) := by
  show (if _ then _ else _) = _
  rw [if_pos ⟨imms_iff.mpr fun d hd => by
    obtain ⟨q, _, rfl⟩ := List.mem_map.mp hd
    exact hv q, List.all_eq_true.mpr fun p hp => decide_eq_true (hb p hp)⟩]
end
end Rs

set_option maxRecDepth 100000
/-! RsQ5: values by the laws' own reckoning. -/
namespace Rs
open PySem PySem.Spec PyProof.Rows L2
def m_l_values : Evn → RS :=
    (mSeq (mSet 1 mDT)
    (mSeq (mSet 2 mDT)
    (mSeq (mForK 3 0 (mPut 2 pRoot (mVar 3) (mApp 1 (f_l_needs_ 40) (mCons (mBinE gIx (mVar 0) (mVar 3)) mNil))))
    (mSeq (mSet 4 (mCall gList (mCons (mVar 0) mNil)))
    (mSeq (mSet 5 (mBin gAdd (mCall gLen (mCons (mVar 4) mNil)) (mC (.int 1))))
    (mSeq (whileL (mTest (mBin gLt (mCall gLen (mCons (mVar 4) mNil)) (mVar 5))) (mSeq (mSet 5 (mCall gLen (mCons (mVar 4) mNil)))
    (mSeq (mSet 6 (mLst mNil))
    (mSeq (mFrz (3 :: ([] ++ [])) 4 (mFor 3 (mRo 4) (mIf (mTest (mBin gEq (mLc 7 (mBinE gIx (mVar 2) (mVar 3)) (mTest (mBin gNotIn (mVar 7) (mVar 1))) (mImm (mVar 7))) (mLst mNil))) (mPut 1 pRoot (mVar 3) (mApp 2 (f_l_told_ 40) (mCons (mBinE gIx (mVar 0) (mVar 3)) (mCons (mVar 1) mNil)))) (mMut "list" gAppend 6 pRoot (mCons (mImm (mVar 3)) mNil)))))
    (mMv 4 6)))) 1000000)
    (mRetV 1)))))))
def f_l_values : List D → R D := runP 1 8 m_l_values

section
variable {h w : Nat} {rl : Pl → Ru}
/-- known places, places left -/
structure Vls (h w : Nat) (rl : Pl → Ru) (L M : List Pl) : Prop where
  nd : L.Nodup
  sub : M.Sublist (boxP 0 h 0 w)
  good : ∀ p ∈ L, p ∈ boxP 0 h 0 w ∧ Good rl p
  all : ∀ p ∈ boxP 0 h 0 w, p ∈ M ∨ p ∈ L
  off : ∀ p ∈ M, p ∉ L
theorem Vls.lft {L M : List Pl} (V : Vls h w rl L M) : Lft h w rl M := ⟨V.sub, fun p hp hn => (V.good p ((V.all p hp).resolve_left hn)).2⟩
theorem Vls.stop (k : ShOk h w rl) {L M : List Pl} (V : Vls h w rl L M) (c : ∀ p ∈ M, ∃ q ∈ (rl p).lst, q ∈ M) : ∀ p, p ∈ L ↔ p ∈ boxP 0 h 0 w ∧ Good rl p := fun p => by
  refine ⟨V.good p, fun ⟨hp, g⟩ => (V.all p hp).resolve_left fun hM => ?_⟩
  rw [V.lft.stop k c] at hM
  classical
  unfold leftP at hM
  exact of_decide_eq_true (List.mem_filter.mp hM).2 g
theorem lvalues_run (k : ShOk h w rl) (kl : ∀ p ∈ boxP 0 h 0 w, (rl p).lst.length ≤ 10000) : ∃ L : List Pl, L.Nodup ∧ (∀ p, p ∈ L ↔ p ∈ boxP 0 h 0 w ∧ Good rl p) ∧ f_l_values [dF (boxP 0 h 0 w) fun p => (rl p).toD] = .ok (dF L fun p => .int (Sv rl p)) := by
  have hl := k.len
  have hs := k.sm
  unfold f_l_values
  refine run_c (C := fun r => ∃ L : List Pl, L.Nodup ∧ (∀ p, p ∈ L ↔ p ∈ boxP 0 h 0 w ∧ Good rl p) ∧ r = .ok (dF L fun p => .int (Sv rl p))) (ρ0 := [.ro (dF (boxP 0 h 0 w) fun p => (rl p).toD), .un, .un, .un, .un, .un, .un, .un]) rfl ?_
  unfold m_l_values
  generalize hd : dF (boxP 0 h 0 w) (fun p => (rl p).toD) = kept
  have gl : gList [kept] = .ok (lstD (boxP 0 h 0 w)) := by rw [← hd]; rfl
  refine seqC (C := fun r => ∃ L : List Pl, L.Nodup ∧ (∀ p, p ∈ L ↔ p ∈ boxP 0 h 0 w ∧ Good rl p) ∧ r.out = .ok (dF L fun p => .int (Sv rl p))) (P := fun ρ => ρ = [.ro kept, .ow (dF [] fun p => .int (Sv rl p)), .un, .un, .un, .un, .un, .un]) ⟨_, by simp -implicitDefEqProofs [mDT], rfl⟩ ?_
  rintro _ rfl
  refine seqC (C := fun r => ∃ L : List Pl, L.Nodup ∧ (∀ p, p ∈ L ↔ p ∈ boxP 0 h 0 w ∧ Good rl p) ∧ r.out = .ok (dF L fun p => .int (Sv rl p))) (P := fun ρ => ρ = [.ro kept, .ow (dF [] fun p => .int (Sv rl p)), .ow (dF [] fun p => lstD (rl p).lst), .un, .un, .un, .un, .un]) ⟨_, by simp -implicitDefEqProofs [mDT], rfl⟩ ?_
  rintro _ rfl
  refine seqC (C := fun r => ∃ L : List Pl, L.Nodup ∧ (∀ p, p ∈ L ↔ p ∈ boxP 0 h 0 w ∧ Good rl p) ∧ r.out = .ok (dF L fun p => .int (Sv rl p))) (P := fun ρ => ∃ s3, ρ = [.ro kept, .ow (dF [] fun p => .int (Sv rl p)), .ow (dF (boxP 0 h 0 w) fun p => lstD (rl p).lst), s3, .un, .un, .un, .un]) ?_ ?_
  · obtain ⟨ρ', e, s3, rfl⟩ := forK_ex (i := 3) (r := 0) (vs := (boxP 0 h 0 w).map fun p => (rl p).toD) (ks := boxP 0 h 0 w) (body := mPut 2 pRoot (mVar 3) (mApp 1 (f_l_needs_ 40) (mCons (mBinE gIx (mVar 0) (mVar 3)) mNil)))
      (fun j ρ => ∃ s3, ρ = [.ro kept, .ow (dF [] fun p => .int (Sv rl p)), .ow (dF ((boxP 0 h 0 w).take j) fun p => lstD (rl p).lst), s3, .un, .un, .un, .un]) (ρ := [.ro kept, .ow (dF [] fun p => .int (Sv rl p)), .ow (dF [] fun p => lstD (rl p).lst), .un, .un, .un, .un, .un]) (by rw [← hd]; rfl) ⟨_, rfl⟩ (by
        rintro j p _ hk ⟨s3, rfl⟩
        have hm := List.mem_of_getElem? hk
        have g := ix_dF (v := fun p => (rl p).toD) hm
        rw [hd] at g
        have nr := lneeds_run 40 (rl p) (by have := k.dep p; omega) (kl p hm)
        have hlt := (List.getElem?_eq_some_iff.mp hk).1
        have hn : p ∉ (boxP 0 h 0 w).take j := by rw [← (List.getElem?_eq_some_iff.mp hk).2]; exact take_nd boxP_nd hlt
        have pn := put_new (ks := (boxP 0 h 0 w).take j) (v := fun p => lstD (rl p).lst) (p := p) (by rw [List.length_take]; omega) hn
        rw [← take_box hk] at pn
        exact ⟨_, by simp -implicitDefEqProofs [-List.map_take, g, nr, pn], .ro (pairD p), rfl⟩)
    rw [List.take_length] at e
    exact ⟨_, e, s3, rfl⟩
  rintro _ ⟨s3, rfl⟩
  generalize hN : dF (boxP 0 h 0 w) (fun p => lstD (rl p).lst) = needs
  refine seqC (C := fun r => ∃ L : List Pl, L.Nodup ∧ (∀ p, p ∈ L ↔ p ∈ boxP 0 h 0 w ∧ Good rl p) ∧ r.out = .ok (dF L fun p => .int (Sv rl p))) (P := fun ρ => ρ = [.ro kept, .ow (dF [] fun p => .int (Sv rl p)), .ow needs, s3, .ow (lstD (boxP 0 h 0 w)), .un, .un, .un]) ⟨_, by simp -implicitDefEqProofs [gl], rfl⟩ ?_
  rintro _ rfl
  refine seqC (C := fun r => ∃ L : List Pl, L.Nodup ∧ (∀ p, p ∈ L ↔ p ∈ boxP 0 h 0 w ∧ Good rl p) ∧ r.out = .ok (dF L fun p => .int (Sv rl p))) (P := fun ρ => ρ = [.ro kept, .ow (dF [] fun p => .int (Sv rl p)), .ow needs, s3, .ow (lstD (boxP 0 h 0 w)), .ow (.int (((boxP 0 h 0 w).length + 1 : Nat) : Int)), .un, .un]) ⟨_, by simp -implicitDefEqProofs, rfl⟩ ?_
  rintro _ rfl
  refine seqC (C := fun r => ∃ L : List Pl, L.Nodup ∧ (∀ p, p ∈ L ↔ p ∈ boxP 0 h 0 w ∧ Good rl p) ∧ r.out = .ok (dF L fun p => .int (Sv rl p))) (P := fun ρ => ∃ (L : List Pl) (s3 s4 s5 s6 s7 : Slot), L.Nodup ∧ (∀ p, p ∈ L ↔ p ∈ boxP 0 h 0 w ∧ Good rl p) ∧ ρ = [.ro kept, .ow (dF L fun p => .int (Sv rl p)), .ow needs, s3, s4, s5, s6, s7]) (while_ex
    (I := fun i ρ => ∃ (L M : List Pl) (sz : Nat) (s3 s6 s7 : Slot), Vls h w rl L M ∧ (M.length < sz ∨ ∀ p ∈ M, ∃ q ∈ (rl p).lst, q ∈ M) ∧ sz + i ≤ 145 ∧ ρ = [.ro kept, .ow (dF L fun p => .int (Sv rl p)), .ow needs, s3, .ow (lstD M), .ow (.int (sz : Int)), s6, s7]) 146 1000000 (by omega)
    ⟨[], boxP 0 h 0 w, _, s3, _, _, ⟨List.nodup_nil, List.Sublist.refl _, (fun p hp => by cases hp), (fun p hp => .inl hp), fun p _ z => by cases z⟩, .inl (Nat.lt_succ_self _), by omega, rfl⟩ ?_) ?_
  · rintro i _ ⟨L, M, sz, s3, s6, s7, VL, st, hsz, rfl⟩
    by_cases hc : M.length < sz
    · refine .inr ⟨by omega, by simp -implicitDefEqProofs; omega, ?_⟩
      have ndM : M.Nodup := VL.sub.nodup boxP_nd
      have lM : M.length ≤ 144 := Nat.le_trans VL.sub.length_le hl
      refine seqC (C := fun r => ∃ ρ', r = .nx ρ' ∧ ∃ (L M : List Pl) (sz : Nat) (s3 s6 s7 : Slot), Vls h w rl L M ∧ (M.length < sz ∨ ∀ p ∈ M, ∃ q ∈ (rl p).lst, q ∈ M) ∧ sz + (i + 1) ≤ 145 ∧ ρ' = [.ro kept, .ow (dF L fun p => .int (Sv rl p)), .ow needs, s3, .ow (lstD M), .ow (.int (sz : Int)), s6, s7])
        (P := fun ρ => ρ = [.ro kept, .ow (dF L fun p => .int (Sv rl p)), .ow needs, s3, .ow (lstD M), .ow (.int (M.length : Int)), s6, s7]) ⟨_, by simp -implicitDefEqProofs, rfl⟩ ?_
      rintro _ rfl
      refine seqC (C := fun r => ∃ ρ', r = .nx ρ' ∧ ∃ (L M : List Pl) (sz : Nat) (s3 s6 s7 : Slot), Vls h w rl L M ∧ (M.length < sz ∨ ∀ p ∈ M, ∃ q ∈ (rl p).lst, q ∈ M) ∧ sz + (i + 1) ≤ 145 ∧ ρ' = [.ro kept, .ow (dF L fun p => .int (Sv rl p)), .ow needs, s3, .ow (lstD M), .ow (.int (sz : Int)), s6, s7])
        (P := fun ρ => ρ = [.ro kept, .ow (dF L fun p => .int (Sv rl p)), .ow needs, s3, .ow (lstD M), .ow (.int (M.length : Int)), .ow (lstD []), s7]) ⟨_, by simp -implicitDefEqProofs, rfl⟩ ?_
      rintro _ rfl
      refine seqC (C := fun r => ∃ ρ', r = .nx ρ' ∧ ∃ (L M : List Pl) (sz : Nat) (s3 s6 s7 : Slot), Vls h w rl L M ∧ (M.length < sz ∨ ∀ p ∈ M, ∃ q ∈ (rl p).lst, q ∈ M) ∧ sz + (i + 1) ≤ 145 ∧ ρ' = [.ro kept, .ow (dF L fun p => .int (Sv rl p)), .ow needs, s3, .ow (lstD M), .ow (.int (sz : Int)), s6, s7])
        (P := fun ρ => ∃ L2 T s3 s7, (L2.Nodup ∧ T.Sublist M ∧ (∀ p ∈ L2, p ∈ boxP 0 h 0 w ∧ Good rl p) ∧ (∀ p ∈ boxP 0 h 0 w, p ∈ T ∨ p ∈ L2) ∧ (∀ p ∈ T, p ∉ L2) ∧ (T = M → ∀ p ∈ T, ∃ q ∈ (rl p).lst, q ∉ L)) ∧ ρ = [.ro kept, .ow (dF L2 fun p => .int (Sv rl p)), .ow needs, s3, .ow (lstD M), .ow (.int (M.length : Int)), .ow (lstD T), s7]) (frz_ex (d := lstD M) rfl (by
          obtain ⟨ρ', e, L2, T, s3', ⟨u1, u2, u3, u4, u5, u6⟩, rfl⟩ := for_ex (i := 3) (it := mRo 4) (body := mIf (mTest (mBin gEq (mLc 7 (mBinE gIx (mVar 2) (mVar 3)) (mTest (mBin gNotIn (mVar 7) (mVar 1))) (mImm (mVar 7))) (mLst mNil))) (mPut 1 pRoot (mVar 3) (mApp 2 (f_l_told_ 40) (mCons (mBinE gIx (mVar 0) (mVar 3)) (mCons (mVar 1) mNil)))) (mMut "list" gAppend 6 pRoot (mCons (mImm (mVar 3)) mNil)))
            (xs := M.map pairD) (ρ := [.ro kept, .ow (dF L fun p => .int (Sv rl p)), .ow needs, s3, .ro (lstD M), .ow (.int (M.length : Int)), .ow (lstD []), s7])
            (fun j ρ => ∃ L2 T s3, (L2.Nodup ∧ T.Sublist (M.take j) ∧ (∀ p ∈ L2, p ∈ boxP 0 h 0 w ∧ Good rl p) ∧ (∀ p ∈ boxP 0 h 0 w, p ∈ T ∨ p ∈ M.drop j ∨ p ∈ L2) ∧ (∀ p, p ∈ T ∨ p ∈ M.drop j → p ∉ L2) ∧ (T = M.take j → L2 = L ∧ ∀ p ∈ T, ∃ q ∈ (rl p).lst, q ∉ L)) ∧ ρ = [.ro kept, .ow (dF L2 fun p => .int (Sv rl p)), .ow needs, s3, .ro (lstD M), .ow (.int (M.length : Int)), .ow (lstD T), s7]) (d := lstD M) rfl rfl
            ⟨L, [], _, ⟨VL.nd, List.Sublist.refl _, VL.good, fun p hp => .inr (VL.all p hp), fun p hp => VL.off p (hp.resolve_left fun z => by cases z), fun _ => ⟨rfl, fun p hp => by cases hp⟩⟩, rfl⟩ (by
              rintro j x _ hx ⟨L2, T, s3, ⟨u1, u2, u3, u4, u5, u6⟩, rfl⟩
              have hj : j < M.length := by have := (List.getElem?_eq_some_iff.mp hx).1; simpa using this
              rw [List.getElem?_map, List.getElem?_eq_getElem hj] at hx
              cases hx
              have tk := take_box (List.getElem?_eq_getElem hj)
              have hn : M[j] ∉ M.take j := take_nd ndM hj
              have hpM : M[j] ∈ M := List.getElem_mem hj
              have dr : M.drop j = M[j] :: M.drop (j + 1) := (List.drop_eq_getElem_cons hj)
              have hn2 : M[j] ∉ M.drop (j + 1) := by
                have := ndM
                rw [← List.take_append_drop j M, dr] at this
                exact (List.nodup_cons.mp (List.nodup_append.mp this).2.1).1
              generalize hp : M[j] = p at tk hn hpM dr hn2 ⊢
              rw [dr] at u4 u5
              have hpB := VL.sub.subset hpM
              have hnT : p ∉ T := fun z => hn (u2.subset z)
              have hpL : p ∉ L2 := u5 p (.inr (by simp))
              have tl : T.length ≤ 144 := Nat.le_trans u2.length_le (by rw [List.length_take]; omega)
              have l2 : L2.length ≤ 144 := Nat.le_trans (nodup_len u1 fun p hp => (u3 p hp).1) hl
              have gn := ix_dF (v := fun p => lstD (rl p).lst) hpB
              rw [hN] at gn
              have gk := ix_dF (v := fun p => (rl p).toD) hpB
              rw [hd] at gk
              have ll := kl p hpB
              have lc : lcR 7 (mTest (mBin gNotIn (mVar 7) (mVar 1))) (mImm (mVar 7)) ((rl p).lst.map pairD) [.ro kept, .ow (dF L2 fun p => .int (Sv rl p)), .ow needs, .ro (pairD p), .ro (lstD M), .ow (.int (M.length : Int)), .ow (lstD T), s7] = .ok (lstD ((rl p).lst.filter fun q => !decide (q ∈ L2))) := by
                unfold lcR
                rw [List.length_map, if_pos (by omega)]
                rw [lcL_filter (p := fun x => !decide (posD x ∈ L2)) (g := fun d => d) fun x hx => ?_]
                · rw [R.bind_ok, List.map_id', List.filter_map]
                  rfl
                · obtain ⟨q, hq, rfl⟩ := List.mem_map.mp hx
                  have ni := notIn_dF (ks := L2) (v := fun p => .int (Sv rl p)) (p := q)
                  exact ⟨by simp -implicitDefEqProofs only [ap_test, ap_bin, ap_var, List.set_cons_succ, List.set_cons_zero, List.getElem?_cons_succ, List.getElem?_cons_zero, Slot.val_ro, Slot.val_ow, R.bind_ok, ni, R.only_ok, R.bool_bl, pos_pair], fun _ => by simp -implicitDefEqProofs⟩
              have en := eq_nil_pairs ((rl p).lst.filter fun q => !decide (q ∈ L2))
              by_cases hem : ((rl p).lst.filter fun q => !decide (q ∈ L2)) = []
              · have no : ∀ q ∈ (rl p).lst, q ∈ L2 := fun q hq => by
                  have := List.filter_eq_nil_iff.mp hem q hq
                  simpa using this
                rw [hem] at en lc
                have en' : gEq (lstD []) (.node .lst []) = .ok (.bl true) := en
                have g : Good rl p := Good.mk fun q n => (u3 q (no q n)).2
                have kn : Known (dF L2 fun p => .int (Sv rl p)) (Sv rl) (fun p => p ∈ L2) := fun q hq => ix_dF hq
                have td := ltold_run hs Sv_fit kn 40 (rl p) (by have := k.dep p; omega) (k.box p hpB) fun q hq => no q ((Ru.lst_mem _).mpr hq)
                rw [← Sv_eq g] at td
                have pn := put_new (ks := L2) (v := fun p => .int (Sv rl p)) (p := p) (by omega) hpL
                refine ⟨[.ro kept, .ow (dF (L2 ++ [p]) fun p => .int (Sv rl p)), .ow needs, .ro (pairD p), .ro (lstD M), .ow (.int (M.length : Int)), .ow (lstD T), s7], ?_, L2 ++ [p], T, _, ⟨?_, ?_, ?_, ?_, ?_, ?_⟩, rfl⟩
                · simp -implicitDefEqProofs only [List.set_cons_succ, List.set_cons_zero, ap_if, ap_test, ap_bin, ap_lc, ap_binE, ap_var, List.getElem?_cons_succ, List.getElem?_cons_zero, Slot.val_ro, Slot.val_ow, R.bind_ok, gn, R.only_ok, sq_lst, oR_some, lc, ap_lst, ap_nil, en', R.bool_bl, R.toS_ok, if_true, List.length_nil, Nat.zero_le]
                  simp -implicitDefEqProofs [gk, td, pn, -List.map_append]
                · refine List.nodup_append.mpr ⟨u1, by simp, fun x hx y hy e => ?_⟩
                  rw [List.mem_singleton.mp hy] at e
                  exact hpL (e ▸ hx)
                · rw [tk]; exact u2.trans (List.sublist_append_left _ _)
                · intro q hq
                  rcases List.mem_append.mp hq with z | z
                  · exact u3 q z
                  · rw [List.mem_singleton.mp z]; exact ⟨hpB, g⟩
                · intro q hq
                  rcases u4 q hq with z | z | z
                  · exact .inl z
                  · rcases List.mem_cons.mp z with z | z
                    · exact .inr (.inr (by simp [z]))
                    · exact .inr (.inl z)
                  · exact .inr (.inr (List.mem_append_left _ z))
                · intro q hq z
                  rcases List.mem_append.mp z with z | z
                  · exact u5 q (hq.imp id fun y => by simp [y]) z
                  · rw [List.mem_singleton.mp z] at hq
                    rcases hq with y | y
                    · exact hnT y
                    · exact hn2 y
                · intro e
                  rw [tk] at e
                  exact absurd (by rw [e]; simp) hnT
              · obtain ⟨q0, rest, hs0⟩ : ∃ q0 rest, ((rl p).lst.filter fun q => !decide (q ∈ L2)) = q0 :: rest := by
                  cases e : ((rl p).lst.filter fun q => !decide (q ∈ L2)) with
                  | nil => exact absurd e hem
                  | cons q0 rest => exact ⟨q0, rest, rfl⟩
                have hq0 : q0 ∈ (rl p).lst ∧ q0 ∉ L2 := by
                  have : q0 ∈ ((rl p).lst.filter fun q => !decide (q ∈ L2)) := by rw [hs0]; simp
                  have := List.mem_filter.mp this
                  exact ⟨this.1, by simpa using this.2⟩
                rw [hs0] at en lc
                have en' : gEq (lstD (q0 :: rest)) (.node .lst []) = .ok (.bl false) := en
                have ap : gAppend (lstD T) [Rs.pairD p] = some (lstD (T ++ [p])) := by
                  show (if _ then _ else _) = _
                  rw [if_pos (by rw [List.length_map]; omega)]
                  simp [lstD]
                refine ⟨[.ro kept, .ow (dF L2 fun p => .int (Sv rl p)), .ow needs, .ro (pairD p), .ro (lstD M), .ow (.int (M.length : Int)), .ow (lstD (T ++ [p])), s7], ?_, L2, T ++ [p], .ro (pairD p), ⟨u1, ?_, u3, ?_, ?_, ?_⟩, rfl⟩
                · simp -implicitDefEqProofs only [List.set_cons_succ, List.set_cons_zero, ap_if, ap_test, ap_bin, ap_lc, ap_binE, ap_var, List.getElem?_cons_succ, List.getElem?_cons_zero, Slot.val_ro, Slot.val_ow, R.bind_ok, gn, R.only_ok, sq_lst, oR_some, lc, ap_lst, ap_nil, en', R.bool_bl, R.toS_ok, if_false, Bool.false_eq_true, ap_mut, Slot.own_ow, ap_root, atP_none, oS_some, ap_cons, ap_imm, imm_pair, if_true, putIn_none, ap, ap_setOw, tyD, List.length_nil, Nat.zero_le]
                  rfl
                · rw [tk]; exact List.Sublist.append u2 (List.Sublist.refl _)
                · intro q hq
                  rcases u4 q hq with z | z | z
                  · exact .inl (List.mem_append_left _ z)
                  · rcases List.mem_cons.mp z with z | z
                    · exact .inl (by simp [z])
                    · exact .inr (.inl z)
                  · exact .inr (.inr z)
                · intro q hq
                  refine u5 q ?_
                  rcases hq with y | y
                  · rcases List.mem_append.mp y with y | y
                    · exact .inl y
                    · exact .inr (by rw [List.mem_singleton.mp y]; simp)
                  · exact .inr (by simp [y])
                · intro e
                  rw [tk] at e
                  have e' : T = M.take j := List.append_cancel_right e
                  obtain ⟨v1, v2⟩ := u6 e'
                  refine ⟨v1, fun q hq => ?_⟩
                  rcases List.mem_append.mp hq with y | y
                  · exact v2 q y
                  · rw [List.mem_singleton.mp y]; exact ⟨q0, hq0.1, by rw [← v1]; exact hq0.2⟩)
          rw [List.length_map, List.take_length] at u2 u6
          rw [List.length_map, List.drop_length] at u4 u5
          refine ⟨_, e, L2, T, dropRo s3', thawS [3] 4 7 s7 s7, ⟨u1, u2, u3, fun p hp => ?_, fun p hp => u5 p (.inl hp), fun e => (u6 e).2⟩, by cases s3 <;> simp⟩
          rcases u4 p hp with z | z | z
          · exact .inl z
          · cases z
          · exact .inr z)) ?_
      rintro _ ⟨L2, T, s3, s7, ⟨u1, u2, u3, u4, u5, u6⟩, rfl⟩
      refine ⟨[.ro kept, .ow (dF L2 fun p => .int (Sv rl p)), .ow needs, s3, .ow (lstD T), .ow (.int (M.length : Int)), .un, s7], by simp -implicitDefEqProofs, L2, T, M.length, _, _, _, ⟨u1, u2.trans VL.sub, u3, u4, u5⟩, ?_, by omega, rfl⟩
      by_cases e : T.length < M.length
      · exact .inl e
      · have eq : T = M := u2.eq_of_length_le (Nat.not_lt.mp e)
        refine .inr fun p hp => ?_
        obtain ⟨q, h1, h2⟩ := u6 eq p hp
        have hpB := VL.sub.subset (u2.subset hp)
        have hqB := k.nd hpB h1
        rw [eq]
        exact ⟨q, h1, (VL.all q hqB).resolve_right h2⟩
    · have c := st.resolve_left hc
      exact .inl ⟨by simp -implicitDefEqProofs; omega, L, _, _, _, _, _, VL.nd, VL.stop k c, rfl⟩
  · rintro _ ⟨L, s3, s4, s5, s6, s7, h1, h2, rfl⟩
    exact ⟨L, h1, h2, by simp -implicitDefEqProofs⟩
end
end Rs

set_option maxRecDepth 100000
/-! Rs32: {place: value}. -/
namespace Rs
section
open PySem PySem.W PySem.Calls PyProof.Rows PyProof.V PySem.Spec L2
variable {prog : Program} {w : World} {K : Type} [DecidableEq K] {knd : HeapKind prog w K} {A : Around} {E : Value → Shared → Prop} {s : Shared}
theorem subDict_oneH {k v : Sem Value} {Q : Addr → Shared → Prop} (hu : knd.room A)
    (h : wpAny (model prog w) A (evalPairs [(k, v)]) (fun vs s₁ => ∃ b x kk, vs = [(Value.ref b, x)] ∧ knd.is s₁.heap kk b ∧ s₁.heap.DictOfH knd s.heap.objs.size [] ∧
      ∀ h' tk, h'.DictOfH knd s.heap.objs.size [(kk, b, x)] → Heap.SameBut s.heap.objs.size s₁.heap h' → Q s.heap.objs.size { s₁ with heap := h', toks := tk }) E
      { s with heap := s.heap.push { cls := .type "dict", data := .dict #[] } }) :
    wpAny (model prog w) A (subDict [(k, v)]) Q E s := by
  unfold subDict
  refine wpAny_bind (wpAny_alloc ?_)
  refine wpAny_bind (wpAny_holding ?_)
  rw [if_pos (by simp)]
  refine wpAny_bind (wpAny_mono h (fun vs s₁ h₁ => ?_) fun _ _ e => e)
  obtain ⟨b, x, kk, rfl, hk, hm, hQ⟩ := h₁
  refine wpAny_holding ?_
  refine wpAny_bind ?_
  rw [List.forIn_cons]
  refine wpAny_bind (wpAny_bind (wpAny_dictSet_heap hu hk hm (fun h' hm' hs' => wpAny_pure ?_) (by simp)))
  dsimp only
  rw [List.forIn_nil]
  exact wpAny_pure (wpAny_pure (wpAny_pure (hQ h' _ hm' hs')))
theorem Dict_oneH {env : Env} {k v : Expr} {pos : Pos} {Q : Value → Shared → Prop} (hu : knd.room A)
    (h : wpAny (model prog w) A (evalPairs (pairTrees [some k] [v] env pos)) (fun vs s₁ => ∃ b x kk, vs = [(Value.ref b, x)] ∧ knd.is s₁.heap kk b ∧ s₁.heap.DictOfH knd s.heap.objs.size [] ∧
      ∀ h' tk, h'.DictOfH knd s.heap.objs.size [(kk, b, x)] → Heap.SameBut s.heap.objs.size s₁.heap h' → Q (.ref s.heap.objs.size) { s₁ with heap := h', toks := tk }) E
      { s with heap := s.heap.push { cls := .type "dict", data := .dict #[] } }) :
    wpAny (model prog w) A (eval (.Dict [some k] [v] pos) env) Q E s := by
  have hn := pairTrees_length [some k] [v] env pos rfl rfl
  have hz := zip_pairTrees [some k] [v] env pos rfl rfl
  obtain ⟨⟨tk, tv⟩, ht⟩ : ∃ p, pairTrees [some k] [v] env pos = [p] := by
    cases e : pairTrees [some k] [v] env pos with
    | nil => rw [e] at hn; simp at hn
    | cons p r =>
      cases r with
      | nil => exact ⟨p, rfl⟩
      | cons q r => rw [e] at hn; simp at hn
  rw [ht] at h hz
  rw [arm_eval_Dict, hz, dictDisplay_pairs _ (by simp) (by simp)]
  exact wpAny_bind (wpAny_standAt (wpAny_bind (subDict_oneH (knd := knd) (Q := fun d s' => wpAny (model prog w) A (pure (Value.ref d)) Q E s') hu
    (wpAny_mono h (fun vs s₁ h₁ => by
      obtain ⟨b, x, kk, e1, e2, e3, hq⟩ := h₁
      exact ⟨b, x, kk, e1, e2, e3, fun h' t a b => wpAny_pure (hq h' t a b)⟩) fun _ _ e => e))))
end
section
open PySem PySem.Spec PyProof.Rows L2
variable {G : Gx} {X : Cx} {W : WX} {pos : Pos} {k v : Expr} {mk mv : Evn → R D}
def tDisp1T (tk tv : TE) : TE := fun σ H Q => ∀ p, H p = none → tk σ (upd H p (.dT [])) fun x H1 => tv σ H1 fun y H2 => ∃ b kk, x = .ref b ∧ H2 p = some (.dT []) ∧ H2 b = some (.tup (kk.map kV)) ∧ Q (.ref p) (upd H2 p (.dT [(kk, y)]))
theorem pe_disp1T {tk tv : TE} (hu : X.A.units + 100 < cLine) (hk : PE X k tk) (hv : PE X v tv) : PE X (.Dict [some k] [v] pos) (tDisp1T tk tv) := by
  refine ⟨fun pins s σ H Q I q => ?_⟩
  have hn := I.hok.fresh (Nat.le_refl s.heap.objs.size)
  have I1 := I.laid (a := s.heap.objs.size) (o := .dT []) (h' := s.heap.push { cls := .type "dict", data := .dict #[] }) (t' := s.toks) (fun _ _ q => Heap.get?_push_of_some _ q) (Nat.le_refl _) (dt_empty s.heap I.big)
  refine Dict_oneH (knd := tupleKind (mixKind X.prog X.w)) (show X.A.units < cLine by omega) (pairTrees_cons_walk (thn (hk.run pins _ σ _ _ I1 (q _ hn)) fun u s1 ⟨x, H1, I1', rx, q1⟩ => thn (hv.run pins s1 σ H1 _ I1' q1) fun w2 s2 ⟨y, H2, I2, ry, b, kk, ex, e1, e2, q2⟩ => pairTrees_nil_walk ?_))
  subst ex
  cases rx
  obtain ⟨z, hd, vs0, r0, dd⟩ := dt_of I2.hok e1
  cases r0
  refine ⟨b, w2, kk, rfl, key_of I2.hok e2, dd, fun h' tk dd' hs => ⟨.ref s.heap.objs.size, _, ?_, rfl, q2⟩⟩
  obtain ⟨o, es, ep, hq, h2, h3, h4, _, h5⟩ := dd'
  refine d_write I2 (by rw [e1]; exact True.intro) hs ⟨o, hq⟩ ⟨by rw [sizeLine_eq]; simp, hd, [(kk, b, w2)], .cons ⟨rfl, ?_, ry⟩ .nil, o, es, ep, hq, h2, h3, h4, h5⟩
  rw [upd_ne (ne_of e2 e1 (fun z => nomatch z))]
  exact e2
def mD1 (mk mv : Evn → R D) : Evn → R D := fun ρ => (mk ρ).bind fun k => (mv ρ).bind fun x => match k.pair with
  | some p => if x.imm = true then .ok (.node (.dT [p]) [x]) else .no
  | none => .no
theorem sf_disp1 (hu : X.A.units + 100 < cLine) (hk : SE G X W mk k) (hv : SE G X W mv v) : SF G X W (mD1 mk mv) (.Dict [some k] [v] pos) :=
  PE.imp (pe_disp1T hu hk hv) fun σ H Q ⟨ρ, E, s⟩ p hp => by
    have sm := upd_new (o := .dT []) hp
    refine ⟨ρ, E.same sm, ((SatG.bind s).imp fun d _ ⟨_, q⟩ v1 H1 F1 sm1 o1 => ⟨ρ, E.same (sm.trans sm1), ((SatG.bind q).imp fun x _ ⟨_, q2⟩ v2 H2 F2 sm2 o2 => ?_).later (sm.trans sm1)⟩).later sm⟩
    cases e : d.pair with
    | none => rw [e] at q2; exact q2.elim
    | some pr =>
      rw [e] at q2
      dsimp only at q2
      split at q2
      · rename_i hi
        rw [D.pair_eq e] at o1
        obtain ⟨b, rfl, hb⟩ := own_pair o1
        have hp2 : H2 p = some (.dT []) := sm2 _ _ (sm1 _ _ upd_same)
        have eF := own_imm x v2 F2 hi o2
        subst eF
        refine ⟨b, kp pr, rfl, hp2, sm2 _ _ hb, ?_⟩
        refine q2 (.ref p) _ [p] (fun c u hc => ?_) (own_node.mpr ⟨p, [v2], [], rfl, ⟨[(kp pr, v2)], .inl upd_same, rfl, rfl⟩, ownL_one (own_updv ⟨_, hp2, trivial⟩ (by simp) o2), rfl⟩) (by simp) fun a ha => ?_
        · rw [upd_ne fun z => by rw [z, hp] at hc; cases hc]
          exact (sm.trans (sm1.trans sm2)) _ _ hc
        · have : a = p := by simpa using ha
          subst this
          exact ⟨hp, _, upd_same, trivial⟩
      · exact q2.elim
@[simp] theorem ap_d1 {ρ : Evn} : mD1 mk mv ρ = (mk ρ).bind fun k => (mv ρ).bind fun x => match k.pair with
  | some p => if x.imm = true then .ok (.node (.dT [p]) [x]) else .no
  | none => .no := rfl
end
end Rs

set_option maxRecDepth 100000
/-! Rs33: four names at once. -/
namespace Rs
open PySem PySem.Spec PyProof.Rows L2
section
variable {G : Gx} {X : Cx} {W : WX} {e : Expr} {x y z u : Str} {pos p1 p2 p3 p4 p5 : Pos} {kk : Nat} {m : Evn → R D}
def mUnp4 (i j k l : Nat) (m : Evn → R D) : Evn → RS := fun ρ => (m ρ).toS ρ fun d => match d with
  | .node .tup [a, b, c, d] => if a.imm = true ∧ b.imm = true ∧ c.imm = true ∧ d.imm = true then .nx ((((ρ.set i (.ow a)).set j (.ow b)).set k (.ow c)).set l (.ow d)) else .no
  | _ => .no
theorem ss_unp4 (i j k l : Nat) (hc : X.calm = true) (hK : X.K = G.K) (hN : X.N.Nodup) (he : SE G X W m e) (hii : X.N[i]? = some x := by rfl) (hxx : Loc X.env.scope x := by first | exact Or.inl rfl | exact Or.inr rfl) (hij : X.N[j]? = some y := by rfl) (hxy : Loc X.env.scope y := by first | exact Or.inl rfl | exact Or.inr rfl) (hik : X.N[k]? = some z := by rfl) (hxz : Loc X.env.scope z := by first | exact Or.inl rfl | exact Or.inr rfl) (hil : X.N[l]? = some u := by rfl) (hxu : Loc X.env.scope u := by first | exact Or.inl rfl | exact Or.inr rfl)
    (hn : (assignEach [.Name x p1, .Name y p2, .Name z p4, .Name u p5] X.env).length = 4 := by rfl) (hst : (assignEach [.Name x p1, .Name y p2, .Name z p4, .Name u p5] X.env).findIdx? (·.1) = none := by rfl)
    (hs : swapsWithSole [.Tuple [.Name x p1, .Name y p2, .Name z p4, .Name u p5] kk p3] e pos.line X.env = pure false := by rfl) (hw : swappedStores [.Tuple [.Name x p1, .Name y p2, .Name z p4, .Name u p5] kk p3] e X.env = pure none := by rfl)
    (h1 : (assignEach [.Tuple [.Name x p1, .Name y p2, .Name z p4, .Name u p5] kk p3] X.env).map (·.2) = [assign (.Tuple [.Name x p1, .Name y p2, .Name z p4, .Name u p5] kk p3) X.env] := by rfl)
    (hfx : X.fn x = true ∨ X.env.scope.names.lookup x = some .local := by first | exact .inl rfl | exact .inr rfl | assumption) (hfy : X.fn y = true ∨ X.env.scope.names.lookup y = some .local := by first | exact .inl rfl | exact .inr rfl | assumption) (hfz : X.fn z = true ∨ X.env.scope.names.lookup z = some .local := by first | exact .inl rfl | exact .inr rfl | assumption) (hfu : X.fn u = true ∨ X.env.scope.names.lookup u = some .local := by first | exact .inl rfl | exact .inr rfl | assumption) :
    SS G X W ([i] ++ ([j] ++ ([k] ++ [l]))) (mUnp4 i j k l m) (.Assign [.Tuple [.Name x p1, .Name y p2, .Name z p4, .Name u p5] kk p3] e pos) := by
  have gx : PG X (.Name x p1) (gName i) := pg_name hN hii hxx hfx
  have gy : PG X (.Name y p2) (gName j) := pg_name hN hij hxy hfy
  have gz : PG X (.Name z p4) (gName k) := pg_name hN hik hxz hfz
  have gu : PG X (.Name u p5) (gName l) := pg_name hN hil hxu hfu
  refine PS.imp (ps_asg he (pg_tup hc (pgs_cons gx (pgs_cons gy (pgs_cons gz (pgs_cons gu pgs_nil)))) hn hst) hs hw h1) fun D σ H ⟨ρ, f, E, s⟩ => ⟨ρ, E.p, ?_⟩
  unfold mUnp4 at s
  refine (SatS.toS s E).imp fun d e8 ⟨e9, q⟩ v H1 F sm o => ?_
  clear e8 e9 s
  split at q
  · split at q
    · rename_i him
      obtain ⟨t, vs, F1, rfl, n, ol, _⟩ := own_node.mp o
      obtain ⟨v1, r1, A1, A2, rfl, o1, l1, _⟩ := ownL_cons.mp ol
      obtain ⟨v2, r2, B1, B2, rfl, o2, l2, _⟩ := ownL_cons.mp l1
      obtain ⟨v3, r3, C1, C2, rfl, o3, l3, _⟩ := ownL_cons.mp l2
      obtain ⟨v4, r4, D1, D2, rfl, o4, l4, _⟩ := ownL_cons.mp l3
      obtain ⟨rfl, _⟩ := ownL_nil.mp l4
      have ea := own_imm _ v1 A1 him.1 o1
      have eb := own_imm _ v2 B1 him.2.1 o2
      have ec := own_imm _ v3 C1 him.2.2.1 o3
      have ed := own_imm _ v4 D1 him.2.2.2 o4
      subst ea; subst eb; subst ec; subst ed
      obtain ⟨f1, E1, k1⟩ := E.setOw sm (i := i) o1 List.nodup_nil fun z hz => by cases hz
      obtain ⟨f2, E2, k2⟩ := E1.setOw (Same.refl H1) (i := j) o2 List.nodup_nil fun z hz => by cases hz
      obtain ⟨f3, E3, k3⟩ := E2.setOw (Same.refl H1) (i := k) o3 List.nodup_nil fun z hz => by cases hz
      obtain ⟨f4, E4, k4⟩ := E3.setOw (Same.refl H1) (i := l) o4 List.nodup_nil fun z hz => by cases hz
      exact ⟨t, [v1, v2, v3, v4], rfl, .inl (.inl n), rfl, v1, [v2, v3, v4], rfl, v2, [v3, v4], rfl, v3, [v4], rfl, v4, [], rfl, rfl, q _ _ _ E4 (k1.trans (k2.trans (k3.trans k4)))⟩
    · exact q.elim
  · exact q.elim
theorem unp4_run {i j k l : Nat} {ρ : Evn} {a b c d : D} (h : m ρ = .ok (.node .tup [a, b, c, d])) (ha : a.imm = true) (hb : b.imm = true) (hc : c.imm = true) (hd : d.imm = true) : mUnp4 i j k l m ρ = .nx ((((ρ.set i (.ow a)).set j (.ow b)).set k (.ow c)).set l (.ow d)) := by
  unfold mUnp4
  rw [h]
  show (if _ then _ else _) = _
  rw [if_pos ⟨ha, hb, hc, hd⟩]
end
end Rs

set_option maxRecDepth 100000
/-! RsQ6: rules moved; values of a moved block. -/
namespace Rs
open PySem PySem.Spec PyProof.Rows L2
/-- a place put into a dict of the same values -/
theorem put_v {L : List Pl} {v : Pl → D} {p : Pl} (hl : L.length < 100000) (hi : (v p).imm = true) : putItem (dF L v) (pairD p) (v p) = some (dF (if p ∈ L then L else L ++ [p]) v) := by
  by_cases h : p ∈ L
  · rw [if_pos h, put_dF hl hi, insK_in h]
    congr 1
    refine dF_congr fun q _ => ?_
    by_cases e : q = p
    · rw [if_pos e, e]
    · rw [if_neg e]
  · rw [if_neg h, put_new hl h]
/-- no reference stays -/
def Ref.Fr (a : Ref) : Prop := a.sr = false ∧ a.sc = false
def Ru.Fr : Ru → Prop
  | .num _ => True
  | .cell a => a.Fr
  | .sum a b => a.Fr ∧ b.Fr
  | .most a b => a.Fr ∧ b.Fr
  | .op _ x y => x.Fr ∧ y.Fr
  | .pick x y z => x.Fr ∧ y.Fr ∧ z.Fr
  | .look k a b o => k.Fr ∧ a.Fr ∧ b.Fr ∧ o.Fr
theorem Ref.sh_mv {d c : Int} {a : Ref} (h : a.Fr) : a.sh d c = a.mv d c := by
  unfold Ref.sh Ref.mv
  rw [h.1, h.2]
  simp
theorem Ru.sh_mv {d c : Int} : ∀ {x : Ru}, x.Fr → x.sh d c = x.mv d c
  | .num _, _ => rfl
  | .cell _, h => by simp only [Ru.sh, Ru.mv, Ref.sh_mv h]
  | .sum _ _, h => by simp only [Ru.sh, Ru.mv, Ref.sh_mv h.1, Ref.sh_mv h.2]
  | .most _ _, h => by simp only [Ru.sh, Ru.mv, Ref.sh_mv h.1, Ref.sh_mv h.2]
  | .op _ _ _, h => by simp only [Ru.sh, Ru.mv, Ru.sh_mv h.1, Ru.sh_mv h.2]
  | .pick _ _ _, h => by simp only [Ru.sh, Ru.mv, Ru.sh_mv h.1, Ru.sh_mv h.2.1, Ru.sh_mv h.2.2]
  | .look _ _ _ _, h => by simp only [Ru.sh, Ru.mv, Ru.sh_mv h.1, Ref.sh_mv h.2.1, Ref.sh_mv h.2.2.1, Ru.sh_mv h.2.2.2]
theorem Ru.lst_mv {d c : Int} : ∀ x : Ru, (x.mv d c).lst = x.lst.map (mvP d c)
  | .num _ => rfl
  | .cell _ => rfl
  | .sum _ _ => by simp only [Ru.mv, Ru.lst, Ref.mv, areaP_mv]
  | .most _ _ => by simp only [Ru.mv, Ru.lst, Ref.mv, areaP_mv]
  | .op _ x y => by simp only [Ru.mv, Ru.lst, Ru.lst_mv x, Ru.lst_mv y, List.map_append]
  | .pick x y z => by simp only [Ru.mv, Ru.lst, Ru.lst_mv x, Ru.lst_mv y, Ru.lst_mv z, List.map_append]
  | .look k _ _ o => by simp only [Ru.mv, Ru.lst, Ref.mv, areaP_mv, Ru.lst_mv k, Ru.lst_mv o, List.map_append]
theorem mvP_inj {d c : Int} {p q : Pl} (h : mvP d c p = mvP d c q) : p = q := by
  unfold mvP at h
  simp only [Prod.mk.injEq] at h
  exact Prod.ext (by omega) (by omega)
theorem block_val {h w : Nat} {d c : Int} {rb rf : Pl → Ru} (k : ShOk h w rb) (e : ∀ p ∈ boxP 0 h 0 w, rf (mvP d c p) = (rb p).mv d c) : ∀ p ∈ boxP 0 h 0 w, valD rf (mvP d c p) = valD rb p := by
  have fw : ∀ p, Acc (Nd rb) p → p ∈ boxP 0 h 0 w → Good rf (mvP d c p) ∧ Sv rf (mvP d c p) = Sv rb p := fun p g => by
    induction g with
    | intro p hp ih =>
      intro hB
      have nx : ∀ q ∈ (rb p).lst, Good rf (mvP d c q) ∧ Sv rf (mvP d c q) = Sv rb q := fun q hq => ih q hq (k.nd hB hq)
      have g2 : Good rf (mvP d c p) := Good.mk fun q n => by
        have n' : q ∈ (rf (mvP d c p)).lst := n
        rw [e p hB, Ru.lst_mv] at n'
        obtain ⟨q', hq', rfl⟩ := List.mem_map.mp n'
        exact (nx q' hq').1
      refine ⟨g2, ?_⟩
      rw [Sv_eq g2, Sv_eq (Good.mk fun q n => hp q n), e p hB, Ru.ev_mv]
      exact Ru.ev_congr _ fun q hq => (nx q hq).2
  have bw : ∀ x, Acc (Nd rf) x → ∀ p, x = mvP d c p → p ∈ boxP 0 h 0 w → Good rb p := fun x g => by
    induction g with
    | intro x hx ih =>
      rintro p rfl hB
      exact Good.mk fun q n => ih (mvP d c q) (by
        show mvP d c q ∈ (rf (mvP d c p)).lst
        rw [e p hB, Ru.lst_mv]
        exact List.mem_map.mpr ⟨q, n, rfl⟩) q rfl (k.nd hB n)
  intro p hB
  unfold valD
  by_cases g : Good rb p
  · obtain ⟨g2, e2⟩ := fw p g hB
    rw [if_pos g, if_pos g2, e2]
  · rw [if_neg g, if_neg (fun g2 : Good rf (mvP d c p) => g (bw _ g2 p rfl hB))]
end Rs

set_option maxRecDepth 100000
/-! Rs34: xs[::-1]; {number: value}. -/
namespace Rs
open PySem PySem.Spec PyProof.Rows L2
section
variable {G : Gx} {X : Cx} {W : WX} {pos p1 p2 p3 : Pos} {e k v : Expr} {m mk mv : Evn → R D} {kk : Nat}
def gRev (d : D) : R D := match d with
  | .node .lst xs => if D.imms xs = true then .ok (.node .lst xs.reverse) else .no
  | _ => .no
def mRev (m : Evn → R D) : Evn → R D := fun ρ => (m ρ).bind gRev
@[simp] theorem ap_rev {ρ : Evn} : mRev m ρ = (m ρ).bind gRev := rfl
theorem ownL_rev {H : Hp} : ∀ {xs : List D} {vs : List V}, D.imms xs = true → OwnL G H xs vs [] → OwnL G H xs.reverse vs.reverse []
  | [], vs, _, o => by
    obtain ⟨rfl, _⟩ := ownL_nil.mp o
    exact ownL_nil.mpr ⟨rfl, rfl⟩
  | x :: xs, vs, hi, o => by
    obtain ⟨v, vr, F1, F2, rfl, o1, o2, e⟩ := ownL_cons.mp o
    have hi' := imms_iff.mp hi
    have i1 := own_imm x v F1 (hi' x (by simp)) o1
    subst i1
    have i2 := ownL_imm xs vr F2 (imms_iff.mpr fun d hd => hi' d (by simp [hd])) o2
    subst i2
    rw [List.reverse_cons, List.reverse_cons]
    exact ownL_append (F := []) (F' := []) (ownL_rev (imms_iff.mpr fun d hd => hi' d (by simp [hd])) o2) (ownL_one o1)
theorem sf_rev (ha : SE G X W m e) : SF G X W (mRev m) (.Subscript e (.Slice none none (some (.UnaryOp .USub (.Constant (.int 1) kk p1) p2)) p3) pos) :=
  PE.imp (pe_revL ha) fun σ H Q ⟨ρ, E, s⟩ => ⟨ρ, E, by
    refine (SatG.bind s).imp fun d e8 ⟨e9, q⟩ v H1 F sm o => ?_
    clear e8 e9 s
    unfold gRev at q
    split at q
    · rename_i xs hcj
      split at q
      · rename_i hi
        obtain ⟨a, vs, F1, rfl, n, ol, _⟩ := own_lst o
        have e := ownL_imm xs vs F1 hi ol
        subst e
        refine ⟨a, vs, rfl, .of n, fun p hp => ?_⟩
        refine q (.ref p) _ [p] (sm.trans (upd_new hp)) (own_new (h := .lst) hp (ownL_rev hi ol) upd_same) (by simp) fun a ha => ?_
        have : a = p := by simpa using ha
        subst this
        exact ⟨sm.free hp, _, upd_same, trivial⟩
      · exact q.elim
    · exact q.elim⟩
def mD1K (mk mv : Evn → R D) : Evn → R D := fun ρ => (mk ρ).bind fun k => (mv ρ).bind fun x => match k with
  | .int i => if x.imm = true then .ok (.node (.dK [i]) [x]) else .no
  | _ => .no
theorem sf_disp1K (hk : SE G X W mk k) (hv : SE G X W mv v) : SF G X W (mD1K mk mv) (.Dict [some k] [v] pos) :=
  PE.imp (pe_disp (pps_cons hk hv pps_nil) rfl rfl (by simp) (by simp)) fun σ H Q ⟨ρ, E, s⟩ p hp => by
    have sm := upd_new (o := .dK []) hp
    refine ⟨ρ, E.same sm, ((SatG.bind s).imp fun d e8 ⟨e9, q⟩ v1 H1 F1 sm1 o1 => ⟨ρ, E.same (sm.trans sm1), ((SatG.bind q).imp fun x e6 ⟨e7, q2⟩ v2 H2 F2 sm2 o2 => ?_).later (sm.trans sm1)⟩).later sm⟩
    clear e6 e7 e8 e9 q s
    split at q2
    · rename_i i hcj hcj2
      split at q2
      · rename_i hi
        obtain ⟨rfl, _⟩ := own_int.mp o1
        have hp2 : H2 p = some (.dK []) := sm2 _ _ (sm1 _ _ upd_same)
        have eF := own_imm x v2 F2 hi o2
        subst eF
        refine ⟨hp2, [(.inl i, v2)], rfl, by simp, ?_⟩
        refine q2 (.ref p) _ [p] (fun c u hc => ?_) (own_node.mpr ⟨p, [v2], [], rfl, ⟨[(.inl i, v2)], .inl upd_same, rfl, rfl⟩, ownL_one (own_updv ⟨_, hp2, trivial⟩ (by simp) o2), rfl⟩) (by simp) fun a ha => ?_
        · rw [upd_ne fun z => by rw [z, hp] at hc; cases hc]
          exact (sm.trans (sm1.trans sm2)) _ _ hc
        · have : a = p := by simpa using ha
          subst this
          exact ⟨hp, _, upd_same, trivial⟩
      · exact q2.elim
    · exact q2.elim
@[simp] theorem ap_d1K {ρ : Evn} : mD1K mk mv ρ = (mk ρ).bind fun k => (mv ρ).bind fun x => match k with
  | .int i => if x.imm = true then .ok (.node (.dK [i]) [x]) else .no
  | _ => .no := rfl
end
end Rs

set_option maxRecDepth 100000
/-! RsQ7: places in a row, each with the one ahead of it. -/
namespace Rs
open PySem PySem.Spec PyProof.Rows L2
/-- the one ahead; ahead of the first one the b-th -/
def prv (b k : Nat) : Nat := match k with
  | 0 => b
  | k + 1 => k
structure Chn (rl : Pl → Ru) (row : List Pl) (hd : Nat → Option Int) (b : Nat) (st : Int) : Prop where
  nd : row.Nodup
  lt : b < row.length
  head : ∀ k p v, row[k]? = some p → hd k = some v → rl p = .num v ∧ 0 ≤ v ∧ v < 1000
  step : ∀ k p, row[k]? = some p → hd k = none → ∃ q, row[prv b k]? = some q ∧ (rl p).lst = [q] ∧ ∀ f : Pl → Int, (rl p).ev f = (f q + st) % 1000000000
  st0 : 0 ≤ st ∧ st ≤ 10
  len : row.length ≤ 144
section
variable {rl : Pl → Ru} {row : List Pl} {hd : Nat → Option Int} {b : Nat} {st : Int}
/-- counted on from the last number alone -/
def fwd (hd : Nat → Option Int) (st : Int) : Nat → Option Int
  | 0 => hd 0
  | k + 1 => match hd (k + 1) with
    | some v => some v
    | none => (fwd hd st k).map (· + st)
theorem Chn.good_head (C : Chn rl row hd b st) {k : Nat} {p : Pl} {v : Int} (hp : row[k]? = some p) (hv : hd k = some v) : Good rl p ∧ Sv rl p = v := by
  obtain ⟨e, v0, v1⟩ := C.head k p v hp hv
  have g : Good rl p := Good.mk fun q n => by
    have n' : q ∈ (rl p).lst := n
    rw [e] at n'
    cases n'
  refine ⟨g, ?_⟩
  rw [Sv_eq g, e]
  show v % 1000000000 = v
  omega
theorem Chn.good_step (C : Chn rl row hd b st) {k : Nat} {p q : Pl} (hp : row[k]? = some p) (hk : hd k = none) (hq : row[prv b k]? = some q) : (Good rl p ↔ Good rl q) ∧ (Good rl p → Sv rl p = (Sv rl q + st) % 1000000000) := by
  obtain ⟨q', e1, e2, e3⟩ := C.step k p hp hk
  rw [hq] at e1
  cases e1
  refine ⟨⟨fun g => Good.inv g (show q ∈ (rl p).lst by rw [e2]; simp), fun g => Good.mk fun x n => ?_⟩, fun g => by rw [Sv_eq g, e3]⟩
  have n' : x ∈ (rl p).lst := n
  rw [e2] at n'
  rw [List.mem_singleton.mp n']
  exact g
theorem Chn.fwd_ok (C : Chn rl row hd b st) : ∀ (k : Nat) (p : Pl) (v : Int), row[k]? = some p → fwd hd st k = some v → (Good rl p ∧ Sv rl p = v) ∧ 0 ≤ v ∧ v ≤ 1000 + 10 * k := by
  intro k
  induction k with
  | zero =>
    intro p v hp hv
    have := C.head 0 p v hp hv
    exact ⟨C.good_head hp hv, by omega, by omega⟩
  | succ k ih =>
    intro p v hp hv
    cases h : hd (k + 1) with
    | some u =>
      have e : u = v := by
        unfold fwd at hv
        rw [h] at hv
        exact Option.some.inj hv
      subst e
      have := C.head (k + 1) p u hp h
      exact ⟨C.good_head hp h, by omega, by omega⟩
    | none =>
      unfold fwd at hv
      rw [h] at hv
      cases hf : fwd hd st k with
      | none => rw [hf] at hv; cases hv
      | some u =>
        rw [hf] at hv
        have ev : u + st = v := Option.some.inj hv
        obtain ⟨q, hq⟩ : ∃ q, row[k]? = some q := ⟨_, List.getElem?_eq_getElem (by have := (List.getElem?_eq_some_iff.mp hp).1; omega)⟩
        obtain ⟨⟨g, e⟩, v0, v1⟩ := ih q u hq hf
        obtain ⟨g1, g2⟩ := C.good_step hp h (q := q) hq
        have gp := g1.mpr g
        have hl := (List.getElem?_eq_some_iff.mp hp).1
        have := C.len
        have := C.st0
        refine ⟨⟨gp, ?_⟩, by omega, by omega⟩
        rw [g2 gp, e]
        omega
theorem fwd_none {k : Nat} : fwd hd st k = none ↔ ∀ j, j ≤ k → hd j = none := by
  induction k with
  | zero =>
    show hd 0 = none ↔ _
    exact ⟨fun h j hj => by rw [show j = 0 by omega]; exact h, fun h => h 0 (Nat.le_refl _)⟩
  | succ k ih =>
    constructor
    · intro h
      have hk : hd (k + 1) = none := by
        cases e : hd (k + 1) with
        | none => rfl
        | some v => unfold fwd at h; rw [e] at h; cases h
      have hf : fwd hd st k = none := by
        unfold fwd at h
        rw [hk] at h
        cases e : fwd hd st k with
        | none => rfl
        | some v => rw [e] at h; cases h
      intro j hj
      by_cases e : j = k + 1
      · rw [e]; exact hk
      · exact ih.mp hf j (by omega)
    · intro h
      unfold fwd
      rw [h (k + 1) (Nat.le_refl _), ih.mpr fun j hj => h j (by omega)]
      rfl
/-- where the round is come to -/
theorem Chn.bad (C : Chn rl row hd b st) (hb : ∀ j, j ≤ b → hd j = none) : ∀ (k : Nat) (p : Pl), row[k]? = some p → (∀ j, j ≤ k → hd j = none) → ¬ Good rl p := by
  have key : ∀ p, Acc (Nd rl) p → ∀ k, row[k]? = some p → (∀ j, j ≤ k → hd j = none) → False := fun p g => by
    induction g with
    | intro p _ ih =>
      intro k hp hk
      obtain ⟨q, hq, e2, _⟩ := C.step k p hp (hk k (Nat.le_refl _))
      refine ih q (show q ∈ (rl p).lst by rw [e2]; simp) (prv b k) hq ?_
      cases k with
      | zero => exact hb
      | succ k => exact fun j hj => hk j (Nat.le_trans (show j ≤ k from hj) (Nat.le_succ k))
  exact fun k p hp hk g => key p g k hp hk
/-- where a number alone stands in the round -/
theorem Chn.back (C : Chn rl row hd b st) {e : Int} (h0 : hd 0 = none) (he : fwd hd st b = some e) : ∀ (k : Nat) (p : Pl), row[k]? = some p → (∀ j, j ≤ k → hd j = none) → Good rl p ∧ Sv rl p = e + st * (k + 1) := by
  obtain ⟨qb, hqb⟩ : ∃ q, row[b]? = some q := ⟨_, List.getElem?_eq_getElem C.lt⟩
  obtain ⟨⟨gb, eb⟩, b0, b1⟩ := C.fwd_ok b qb e hqb he
  have hl := C.lt
  have hn := C.len
  have hs := C.st0
  intro k
  induction k with
  | zero =>
    intro p hp _
    obtain ⟨g1, g2⟩ := C.good_step hp h0 (q := qb) hqb
    have g := g1.mpr gb
    refine ⟨g, ?_⟩
    rw [g2 g, eb]
    have : e + st * ((0 : Nat) + 1 : Int) = e + st := by simp
    rw [this]
    omega
  | succ k ih =>
    intro p hp hk
    have hlk := (List.getElem?_eq_some_iff.mp hp).1
    obtain ⟨q, hq⟩ : ∃ q, row[k]? = some q := ⟨_, List.getElem?_eq_getElem (by omega)⟩
    obtain ⟨g, eq⟩ := ih q hq fun j hj => hk j (by omega)
    obtain ⟨g1, g2⟩ := C.good_step hp (hk (k + 1) (Nat.le_refl _)) (q := q) hq
    have gp := g1.mpr g
    refine ⟨gp, ?_⟩
    rw [g2 gp, eq]
    have m1 : st * ((k : Int) + 1) ≤ 10 * 200 := Int.mul_le_mul (by omega) (by omega) (by omega) (by omega)
    have m0 : 0 ≤ st * ((k : Int) + 1) := Int.mul_nonneg (by omega) (by omega)
    have m2 : st * (((k + 1 : Nat) : Int) + 1) = st * ((k : Int) + 1) + st := by
      rw [show (((k + 1 : Nat) : Int) + 1) = ((k : Int) + 1) + 1 by omega, Int.mul_add, Int.mul_one]
    rw [m2]
    omega
theorem row_uniq (nd : row.Nodup) {i j : Nat} {p : Pl} (hi : row[i]? = some p) (hj : row[j]? = some p) : i = j := by
  have li := (List.getElem?_eq_some_iff.mp hi).1
  exact (List.getElem?_inj li nd).mp (hi.trans hj.symm)
/-- the ring is the round -/
theorem Chn.round (C : Chn rl row hd b st) {B RL : List Pl} (RR : Ring rl B RL) (hB : ∀ p ∈ B, p ∈ row) : ∀ p, p ∈ RL ↔ ∃ k, k ≤ b ∧ row[k]? = some p := by
  have at1 : ∀ p ∈ RL, ∃ k, row[k]? = some p ∧ hd k = none := fun p hp => by
    obtain ⟨hpB, hg⟩ := RR.sub p hp
    obtain ⟨k, hk⟩ := List.mem_iff_getElem?.mp (hB p hpB)
    refine ⟨k, hk, ?_⟩
    cases e : hd k with
    | none => rfl
    | some v => exact absurd (C.good_head hk e).1 hg
  have hn : 0 < RL.length := List.length_pos_iff.mpr RR.ne
  -- the next one
  have nx : ∀ p ∈ RL, ∀ k, row[k]? = some p → ∃ q ∈ RL, row[prv b k]? = some q := fun p hp k hk => by
    obtain ⟨k', hk', hh⟩ := at1 p hp
    have ek := row_uniq C.nd hk hk'
    subst ek
    obtain ⟨i, hi⟩ := List.mem_iff_getElem?.mp hp
    have hlt : (i + 1) % RL.length < RL.length := Nat.mod_lt _ hn
    obtain ⟨q, hq⟩ : ∃ q, RL[(i + 1) % RL.length]? = some q := ⟨_, List.getElem?_eq_getElem hlt⟩
    have n := RR.nxt i p q hi hq
    obtain ⟨q', e1, e2, _⟩ := C.step k p hk hh
    have n' : q ∈ (rl p).lst := n
    rw [e2] at n'
    rw [List.mem_singleton.mp n'] at hq
    exact ⟨q', List.mem_of_getElem? hq, e1⟩
  -- the one behind
  have pv : ∀ p ∈ RL, ∀ k, row[k]? = some p → ∃ q ∈ RL, ∃ k', row[k']? = some q ∧ prv b k' = k := fun p hp k hk => by
    obtain ⟨i, hi⟩ := List.mem_iff_getElem?.mp hp
    have il := (List.getElem?_eq_some_iff.mp hi).1
    obtain ⟨j, jl, hj⟩ : ∃ j, j < RL.length ∧ (j + 1) % RL.length = i := by
      cases i with
      | zero => exact ⟨RL.length - 1, by omega, by rw [show RL.length - 1 + 1 = RL.length by omega, Nat.mod_self]⟩
      | succ i => exact ⟨i, by omega, Nat.mod_eq_of_lt il⟩
    obtain ⟨q, hq⟩ : ∃ q, RL[j]? = some q := ⟨_, List.getElem?_eq_getElem jl⟩
    have n := RR.nxt j q p hq (by rw [hj]; exact hi)
    obtain ⟨k', hk', hh⟩ := at1 q (List.mem_of_getElem? hq)
    obtain ⟨p', e1, e2, _⟩ := C.step k' q hk' hh
    have n' : p ∈ (rl q).lst := n
    rw [e2] at n'
    rw [← List.mem_singleton.mp n'] at e1
    exact ⟨q, List.mem_of_getElem? hq, k', hk', row_uniq C.nd e1 hk⟩
  have up : ∀ (j : Nat) (p : Pl), p ∈ RL → ∀ k : Nat, row[k]? = some p → b < k → ∃ q ∈ RL, row[k + j]? = some q := fun j => by
    induction j with
    | zero => exact fun p hp k hk _ => ⟨p, hp, hk⟩
    | succ j ih =>
      intro p hp k hk hbk
      obtain ⟨q, hq, hqk⟩ := ih p hp k hk hbk
      obtain ⟨q2, hq2, k2, e1, e2⟩ := pv q hq (k + j) hqk
      cases k2 with
      | zero => have : b = k + j := e2; omega
      | succ k2 =>
        have : k2 = k + j := e2
        rw [this] at e1
        exact ⟨q2, hq2, e1⟩
  have small : ∀ p ∈ RL, ∀ k, row[k]? = some p → k ≤ b := fun p hp k hk => Classical.byContradiction fun z => by
    obtain ⟨q, _, hq⟩ := up row.length p hp k hk (by omega)
    have := (List.getElem?_eq_some_iff.mp hq).1
    omega
  have down : ∀ (k : Nat) (p : Pl), p ∈ RL → row[k]? = some p → ∀ j : Nat, j ≤ k → ∃ q ∈ RL, row[j]? = some q := fun k => by
    induction k with
    | zero => exact fun p hp hk j hj => ⟨p, hp, by rw [show j = 0 by omega]; exact hk⟩
    | succ k ih =>
      intro p hp hk j hj
      by_cases e : j = k + 1
      · exact ⟨p, hp, by rw [e]; exact hk⟩
      · obtain ⟨q, hq, e1⟩ := nx p hp (k + 1) hk
        exact ih q hq e1 j (by omega)
  obtain ⟨p0, r0, hR⟩ : ∃ p0 r0, RL = p0 :: r0 := by
    cases e : RL with
    | nil => exact absurd e RR.ne
    | cons p0 r0 => exact ⟨p0, r0, rfl⟩
  have hp0 : p0 ∈ RL := by rw [hR]; simp
  obtain ⟨k0, hk0, _⟩ := at1 p0 hp0
  obtain ⟨z, hz, ez⟩ := down k0 p0 hp0 hk0 0 (Nat.zero_le _)
  obtain ⟨y, hy, ey⟩ := nx z hz 0 ez
  intro p
  constructor
  · intro hp
    obtain ⟨k, hk, _⟩ := at1 p hp
    exact ⟨k, small p hp k hk, hk⟩
  · rintro ⟨k, hkb, hk⟩
    obtain ⟨q, hq, e⟩ := down b y hy ey k hkb
    rw [hk] at e
    rw [Option.some.inj e]
    exact hq
/-- what the first one touches -/
theorem Chn.touch (C : Chn rl row hd b st) {B : List Pl} (hB : ∀ p, p ∈ B ↔ p ∈ row) {s : Pl} (h0 : row[0]? = some s) : ∀ p, Tch rl B s p ↔ ∃ k, row[k]? = some p ∧ ∀ j, 0 < j → j ≤ k → hd j = none := by
  intro p
  constructor
  · intro t
    induction t with
    | base => exact ⟨0, h0, fun j h1 h2 => by omega⟩
    | @step p q t n hp ih =>
      obtain ⟨k, hk, hh⟩ := ih
      obtain ⟨k', hk'⟩ := List.mem_iff_getElem?.mp ((hB p).mp hp)
      cases e : hd k' with
      | some v =>
        obtain ⟨e1, _⟩ := C.head k' p v hk' e
        have n' : q ∈ (rl p).lst := n
        rw [e1] at n'
        cases n'
      | none =>
        obtain ⟨q', e1, e2, _⟩ := C.step k' p hk' e
        have n' : q ∈ (rl p).lst := n
        rw [e2] at n'
        rw [← List.mem_singleton.mp n'] at e1
        have ek := row_uniq C.nd e1 hk
        cases k' with
        | zero => exact ⟨0, hk', fun j h1 h2 => by omega⟩
        | succ k' =>
          have ek' : k' = k := ek
          refine ⟨k' + 1, hk', fun j h1 h2 => ?_⟩
          by_cases ej : j = k' + 1
          · rw [ej]; exact e
          · exact hh j h1 (by omega)
  · rintro ⟨k, hk, hh⟩
    induction k generalizing p with
    | zero =>
      rw [h0] at hk
      rw [← Option.some.inj hk]
      exact .base
    | succ k ih =>
      obtain ⟨q, e1, e2, _⟩ := C.step (k + 1) p hk (hh (k + 1) (by omega) (Nat.le_refl _))
      exact .step (ih q e1 fun j h1 h2 => hh j h1 (by omega)) (show q ∈ (rl p).lst by rw [e2]; simp) ((hB p).mpr (List.mem_of_getElem? hk))
end
end Rs

set_option maxRecDepth 100000
/-! RsQ8: dicts by numbers. -/
namespace Rs
open PySem PySem.Spec PyProof.Rows L2
abbrev dKF (ks : List Int) (v : Int → D) : D := .node (.dK ks) (ks.map v)
theorem look_mapK {ks : List Int} {v : Int → D} {p : Int} : look ks (ks.map v) p = if p ∈ ks then some (v p) else none := by
  induction ks with
  | nil => simp [look_nil]
  | cons k ks ih =>
    rw [List.map_cons]
    by_cases e : k = p
    · subst e
      rw [look_pos, if_pos (by simp)]
    · rw [look_neg e, ih]
      have : p ∈ k :: ks ↔ p ∈ ks := by simp [Ne.symm e]
      simp only [this]
theorem gInB_dK {ks : List Int} {v : Int → D} {p : Int} : gInB (.int p) (dKF ks v) = some (decide (p ∈ ks)) := by
  have e : dlook (dKF ks v) (.int p) = some (look ks (ks.map v) p) := rfl
  unfold gInB
  rw [e, look_mapK]
  by_cases h : p ∈ ks
  · rw [if_pos h]; simp [h]
  · rw [if_neg h]; simp [h]
theorem in_dK {ks : List Int} {v : Int → D} {p : Int} : gIn (.int p) (dKF ks v) = .ok (.bl (decide (p ∈ ks))) := by
  unfold gIn
  rw [gInB_dK]
theorem notIn_dK {ks : List Int} {v : Int → D} {p : Int} : gNotIn (.int p) (dKF ks v) = .ok (.bl (!decide (p ∈ ks))) := by
  unfold gNotIn
  rw [gInB_dK]
theorem ix_dK {ks : List Int} {v : Int → D} {p : Int} (h : p ∈ ks) : gIx (dKF ks v) (.int p) = .ok (v p) := by
  show (match dlook (dKF ks v) (.int p) with
    | some (some x) => R.ok x
    | _ => .no) = _
  have : dlook (dKF ks v) (.int p) = some (some (v p)) := by
    show some (look ks (ks.map v) p) = _
    rw [look_mapK, if_pos h]
  rw [this]
theorem put_dK {ks : List Int} {v : Int → D} {p : Int} {x : D} (hl : ks.length < 100000) (hx : x.imm = true) : putItem (dKF ks v) (.int p) x = some (dKF (if p ∈ ks then ks else ks ++ [p]) fun j => if j = p then x else v j) := by
  show (if ks.length < 100000 ∧ (x.imm = true ∨ p ∉ ks) then some (D.node (.dK (putD ks (ks.map v) p x).1) (putD ks (ks.map v) p x).2) else none) = _
  rw [if_pos ⟨hl, .inl hx⟩]
  unfold putD
  split
  · have : ∀ L : List Int, List.zipWith (fun j y => if j = p then x else y) L (L.map v) = L.map fun j => if j = p then x else v j := fun L => by
      induction L with
      | nil => rfl
      | cons k L ih => simp only [List.map_cons, List.zipWith_cons_cons, ih]
    simp only [this]
  · rename_i hp
    have : ks.map v = ks.map fun j => if j = p then x else v j := List.map_congr_left fun j hj => by
      rw [if_neg (fun e : j = p => hp (e ▸ hj))]
    show some (D.node (.dK (ks ++ [p])) (ks.map v ++ [x])) = some (D.node (.dK (ks ++ [p])) ((ks ++ [p]).map _))
    rw [List.map_append, this]
    simp only [List.map_cons, List.map_nil, if_true]
end Rs

set_option maxRecDepth 100000
/-! RsQ9: loops that may return. -/
namespace Rs
open PySem PySem.Spec PyProof.Rows L2
theorem forL_ret {i : Nat} {body : Evn → RS} {xs : List D} {P : D → Prop} (I : Nat → Evn → Prop) (hs : ∀ (k : Nat) (x : D) (ρ : Evn), xs[k]? = some x → I k ρ → (∃ ρ', body (ρ.set i (.ro x)) = .nx ρ' ∧ I (k + 1) ρ') ∨ ∃ d ρ', body (ρ.set i (.ro x)) = .rt d ρ' ∧ P d) :
    ∀ (j k : Nat) (ρ : Evn), xs.length - k = j → k ≤ xs.length → I k ρ → (∃ ρ', forL i body (xs.drop k) ρ = .nx ρ' ∧ I xs.length ρ') ∨ ∃ d ρ', forL i body (xs.drop k) ρ = .rt d ρ' ∧ P d := by
  intro j
  induction j with
  | zero =>
    intro k ρ h1 h2 p
    have : k = xs.length := by omega
    subst this
    rw [List.drop_length]
    exact .inl ⟨ρ, rfl, p⟩
  | succ j ih =>
    intro k ρ h1 h2 p
    have hk : k < xs.length := by omega
    rw [List.drop_eq_getElem_cons hk]
    rcases hs k xs[k] ρ (List.getElem?_eq_getElem hk) p with ⟨ρ', e, q⟩ | ⟨d, ρ', e, q⟩
    · have := ih (k + 1) ρ' (by omega) hk q
      unfold forL
      rw [e]
      exact this
    · refine .inr ⟨d, ρ', ?_, q⟩
      unfold forL
      rw [e]
theorem forR_ret {i n : Nat} {lo : Int} {body : Evn → RS} {itR : Evn → R (List D)} {ds : List D} {ρ : Evn} {P : D → Prop} (I : Nat → Evn → Prop) (hit : itR ρ = .ok ds) (hx : rngOf ds = some (lo, n)) (h0 : I 0 ρ)
    (hs : ∀ (k : Nat) (ρ : Evn), k < n → I k ρ → (∃ ρ', body (ρ.set i (.ro (.int (lo + (k : Nat))))) = .nx ρ' ∧ I (k + 1) ρ') ∨ ∃ d ρ', body (ρ.set i (.ro (.int (lo + (k : Nat))))) = .rt d ρ' ∧ P d) :
    (∃ ρ', mForR i itR body ρ = .nx ρ' ∧ I n ρ') ∨ ∃ d ρ', mForR i itR body ρ = .rt d ρ' ∧ P d := by
  have key := forL_ret (i := i) (body := body) (xs := rangeD lo n) (P := P) I (fun k x ρ hk p => by
    obtain ⟨rfl, hl⟩ := rangeD_get hk
    exact hs k ρ hl p) (rangeD lo n).length 0 ρ (by omega) (Nat.zero_le _) h0
  rw [List.drop_zero, rangeD_len] at key
  have e : mForR i itR body ρ = forL i body (rangeD lo n) ρ := by
    rw [ap_forR, hit, R.toS_ok, hx]
    rfl
  rw [e]
  exact key
end Rs

set_option maxRecDepth 100000
/-! law_k14_whole_long_chains: the walk (printed by gen.py). -/
namespace K14
open PySem PySem.Spec PyProof.Rows L2 Rs
def top (i : Nat) : Stmt := PySem.Challenge.pw_rulesheet_k14_whole_long_chains.main.body.getD i (.Pass ⟨0, 0, 0, 0⟩)
structure Txt (K : PySem.W.Frag) (mg : Str → Option Value) (C cB cO cT cS : Addr) : Prop where
  cls : ClsG (sheetG K C cB cO cT)
  n_Sheet : mg "Sheet" = some (.ref C)
  m_BadSize : mg "BadSize" = some (.ref cB)
  m_OffSheet : mg "OffSheet" = some (.ref cO)
  m_TooDeep : mg "TooDeep" = some (.ref cT)
  x_BadSize : PySem.W.excIn K cB [.type "ValueError", .type "Exception", .type "BaseException", .type "object"] "ValueError.__new__" = true
  k_BadSize : PySem.W.keepIn K (.ref cB) = true
  r_BadSize : PySem.W.subIn K (.ref cB) (.type "BaseException") = some true
  t_BadSize : PySem.W.typeIn K (.ref cB) = some (.type "type")
  x_OffSheet : PySem.W.excIn K cO [.type "ValueError", .type "Exception", .type "BaseException", .type "object"] "ValueError.__new__" = true
  k_OffSheet : PySem.W.keepIn K (.ref cO) = true
  r_OffSheet : PySem.W.subIn K (.ref cO) (.type "BaseException") = some true
  t_OffSheet : PySem.W.typeIn K (.ref cO) = some (.type "type")
  x_TooDeep : PySem.W.excIn K cT [.type "ValueError", .type "Exception", .type "BaseException", .type "object"] "ValueError.__new__" = true
  k_TooDeep : PySem.W.keepIn K (.ref cT) = true
  r_TooDeep : PySem.W.subIn K (.ref cT) (.type "BaseException") = some true
  t_TooDeep : PySem.W.typeIn K (.ref cT) = some (.type "type")
  b_bool : mg "bool" = none
  b_isinstance : mg "isinstance" = none
  b_len : mg "len" = none
  b_list : mg "list" = none
  b_max : mg "max" = none
  b_min : mg "min" = none
  b_range : mg "range" = none
  b_sorted : mg "sorted" = none
  b_sum : mg "sum" = none
  g_DEEPEST : ∃ t, mg "DEEPEST" = some (.int 8 t)
  g_MOST : ∃ t, mg "MOST" = some (.int 12 t)
  g_ROUND : ∃ t, mg "ROUND" = some (.int 1000000000 t)
section
variable {P : Program} {w : World} {K : PySem.W.Frag} {mg : Str → Option Value} {base : Heap} {C cB cO cT cS : Addr}
/-! #### _law_sizes -/
abbrev s_l_sizes : Stmt := top 33
def m_l_sizes : Evn → RS :=
    (mSeq (mIf (mTest (mBin gEq (mBin gMod (mBin gDiv (mVar 0) (mC (.int 36))) (mC (.int 16))) (mC (.int 1)))) (mRet (mTup (mCons (mBin gAdd (mC (.int 7)) (mBin gMod (mBin gDiv (mVar 0) (mC (.int 576))) (mC (.int 6)))) (mCons (mBin gAdd (mC (.int 7)) (mBin gMod (mBin gDiv (mVar 0) (mC (.int 3456))) (mC (.int 6)))) mNil)))) mNx)
    (mRet (mTup (mCons (mBin gAdd (mC (.int 1)) (mBin gMod (mVar 0) (mC (.int 6)))) (mCons (mBin gAdd (mC (.int 1)) (mBin gMod (mBin gDiv (mVar 0) (mC (.int 6))) (mC (.int 6)))) mNil)))))
def f_l_sizes : List D → R D := runP 1 1 m_l_sizes
theorem sc_l_sizes : FnScope ["_law_cell"] ["_law_cell"] (defScope s_l_sizes) := ⟨rfl, rfl, rfl, by decide +kernel, rfl, by decide +kernel, by decide +kernel⟩
set_option maxHeartbeats 4000000 in
theorem ok_l_sizes {f : Addr} {fd : FuncData} (F : Fun K "_law_sizes" "_law_sizes" s_l_sizes f fd) (T : Txt K mg C cB cO cT cS) : FnOk P w K mg base (L2.CX P w) 1 f fd ["_law_cell"] (spP (sheetG K C cB cO cT) 1 f_l_sizes) :=
  fnP F sc_l_sizes rfl (by decide) rfl fun cdv A outer s H E hr => by
    have hu := hu100 hr
    have hu64 := hu64 hr
    have S := sc_l_sizes
    exact (ss_cons (ss_if (st_cmp (op_eqD hu64) opd_eq (se_sf (sf_bin op_mod opd_mod (se_sf (sf_bin op_fdiv opd_div (se_var 0) (se_sf sf_int))) (se_sf sf_int))) (se_sf sf_int) (by with_unfolding_all rfl)) (ss_one (ss_ret (sf_tup (saf_cons (sf_bin op_addA opd_add (se_sf sf_int) (se_sf (sf_bin op_mod opd_mod (se_sf (sf_bin op_fdiv opd_div (se_var 0) (se_sf sf_int))) (se_sf sf_int)))) (saf_cons (sf_bin op_addA opd_add (se_sf sf_int) (se_sf (sf_bin op_mod opd_mod (se_sf (sf_bin op_fdiv opd_div (se_var 0) (se_sf sf_int))) (se_sf sf_int)))) saf_nil))))) ss_nil)
      (ss_one (ss_ret (sf_tup (saf_cons (sf_bin op_addA opd_add (se_sf sf_int) (se_sf (sf_bin op_mod opd_mod (se_var 0) (se_sf sf_int)))) (saf_cons (sf_bin op_addA opd_add (se_sf sf_int) (se_sf (sf_bin op_mod opd_mod (se_sf (sf_bin op_fdiv opd_div (se_var 0) (se_sf sf_int))) (se_sf sf_int)))) saf_nil))))))
/-! #### _law_cell_at -/
abbrev s_l_cell_at : Stmt := top 32
theorem sc_l_cell_at : FnScope ["_law_script", "_law_k"] ["_law_script", "_law_k"] (defScope s_l_cell_at) := ⟨rfl, rfl, rfl, by decide +kernel, rfl, by decide +kernel, by decide +kernel⟩
set_option maxHeartbeats 4000000 in
theorem ok_l_cell_at {f : Addr} {fd : FuncData} (F : Fun K "_law_cell_at" "_law_cell_at" s_l_cell_at f fd) (T : Txt K mg C cB cO cT cS) : FnOk P w K mg base (L2.CX P w) 1 f fd ["_law_script", "_law_k"] (spP (sheetG K C cB cO cT) 2 f_l_cell_at) :=
  fnP F sc_l_cell_at rfl (by decide) rfl fun cdv A outer s H E hr => by
    have hu := hu100 hr
    have hu64 := hu64 hr
    have S := sc_l_cell_at
    exact (ss_cons (ss_if (st_cmp op_lt opd_bool0 (se_var 1) (se_sf (sf_callB call_lenA opl_len rfl T.b_len (by decide +kernel) (sa_cons (se_var 0) sa_nil))) (by with_unfolding_all rfl)) (ss_one (ss_ret (sf_bin op_addA opd_add (se_ix rfl hu (se_var 0) (se_var 1)) (se_sf (sf_bin op_mul opd_mul (se_sf (sf_bin op_mod opd_mod (se_ix rfl hu (se_var 0) (se_var 1)) (se_sf sf_int))) (se_sf sf_int)))))) ss_nil)
      (ss_one (ss_ret sf_int)))
/-! #### _law_row -/
abbrev s_l_row : Stmt := top 34
def m_l_row : Evn → RS :=
    (mSeq (mIf (mTest (mBin gEq (mBin gMod (mVar 2) (mC (.int 2))) (mC (.int 0)))) (mSet 3 (mLcR 4 (mCons (mBin gMul (mVar 0) (mVar 1)) mNil) mYes (mTup (mCons (mBin gDiv (mVar 4) (mVar 1)) (mCons (mBin gMod (mVar 4) (mVar 1)) mNil))))) (mSet 3 (mLcR 4 (mCons (mBin gMul (mVar 0) (mVar 1)) mNil) mYes (mTup (mCons (mBin gMod (mVar 4) (mVar 0)) (mCons (mBin gDiv (mVar 4) (mVar 0)) mNil))))))
    (mSeq (mIf (mTest (mBin gEq (mBin gMod (mBin gDiv (mVar 2) (mC (.int 2))) (mC (.int 2))) (mC (.int 1)))) (mSet 3 (mRev (mVar 3))) mNx)
    (mRetV 3)))
def f_l_row : List D → R D := runP 3 5 m_l_row
theorem sc_l_row : FnScope ["_law_high", "_law_wide", "_law_cell", "_law_row_here", "_law_k"] ["_law_high", "_law_wide", "_law_cell"] (defScope s_l_row) := ⟨rfl, rfl, rfl, by decide +kernel, rfl, by decide +kernel, by decide +kernel⟩
set_option maxHeartbeats 4000000 in
theorem ok_l_row {f : Addr} {fd : FuncData} (F : Fun K "_law_row" "_law_row" s_l_row f fd) (T : Txt K mg C cB cO cT cS) : FnOk P w K mg base (L2.CX P w) 1 f fd ["_law_high", "_law_wide", "_law_cell"] (spP (sheetG K C cB cO cT) 3 f_l_row) :=
  fnP F sc_l_row rfl (by decide) rfl fun cdv A outer s H E hr => by
    have hu := hu100 hr
    have hu64 := hu64 hr
    have S := sc_l_row
    exact (ss_cons (ss_if (st_cmp (op_eqD hu64) opd_eq (se_sf (sf_bin op_mod opd_mod (se_var 2) (se_sf sf_int))) (se_sf sf_int) (by with_unfolding_all rfl)) (ss_one (ss_setLcR 3 4 rfl S.nd rfl rfl (by rfl) (sr_1 rfl T.b_range (sa_cons (se_sf (sf_bin op_mul opd_mul (se_var 0) (se_var 1))) sa_nil) (h1 := len_cons1)) (by exact (show BlkOk ["_law_high", "_law_wide", "_law_cell", "_law_row_here", "_law_k"] (defScope s_l_row) _ [("_law_k", 4)] from ⟨rfl, by decide +kernel, by decide +kernel, by decide +kernel, by decide +kernel⟩)) (fun _ _ _ _ _ => pg_name S.nd rfl (by first | exact Or.inl rfl | exact Or.inr rfl)) (fun _ _ _ _ _ => sts_nil) (fun _ _ _ _ _ => (sf_tup (saf_cons (sf_bin op_fdiv opd_div (se_var 4) (se_var 1)) (saf_cons (sf_bin op_mod opd_mod (se_var 4) (se_var 1)) saf_nil)))))) (ss_one (ss_setLcR 3 4 rfl S.nd rfl rfl (by rfl) (sr_1 rfl T.b_range (sa_cons (se_sf (sf_bin op_mul opd_mul (se_var 0) (se_var 1))) sa_nil) (h1 := len_cons1)) (by exact (show BlkOk ["_law_high", "_law_wide", "_law_cell", "_law_row_here", "_law_k"] (defScope s_l_row) _ [("_law_k", 4)] from ⟨rfl, by decide +kernel, by decide +kernel, by decide +kernel, by decide +kernel⟩)) (fun _ _ _ _ _ => pg_name S.nd rfl (by first | exact Or.inl rfl | exact Or.inr rfl)) (fun _ _ _ _ _ => sts_nil) (fun _ _ _ _ _ => (sf_tup (saf_cons (sf_bin op_mod opd_mod (se_var 4) (se_var 0)) (saf_cons (sf_bin op_fdiv opd_div (se_var 4) (se_var 0)) saf_nil)))))))
      (ss_cons (ss_if (st_cmp (op_eqD hu64) opd_eq (se_sf (sf_bin op_mod opd_mod (se_sf (sf_bin op_fdiv opd_div (se_var 2) (se_sf sf_int))) (se_sf sf_int))) (se_sf sf_int) (by with_unfolding_all rfl)) (ss_one (ss_set 3 S.nd (sf_rev (se_var 3)))) ss_nil)
      (ss_one (ss_retV 3))))
/-! #### area -/
abbrev s_area : Stmt := top 2
theorem sc_area : FnScope ["one", "two", "found", "row", "column"] ["one", "two"] (defScope s_area) := ⟨rfl, rfl, rfl, by decide +kernel, rfl, by decide +kernel, by decide +kernel⟩
set_option maxHeartbeats 4000000 in
theorem ok_area {f : Addr} {fd : FuncData} (F : Fun K "area" "area" s_area f fd) (T : Txt K mg C cB cO cT cS) : FnOk P w K mg base (L2.CX P w) 1 f fd ["one", "two"] (spP (sheetG K C cB cO cT) 2 f_area) :=
  fnP F sc_area rfl (by decide) rfl fun cdv A outer s H E hr => by
    have hu := hu100 hr
    have hu64 := hu64 hr
    have S := sc_area
    exact (ss_cons (ss_set 2 S.nd (sf_lst saf_nil))
      (ss_cons (ss_forR 3 S.nd (passes_of rfl) rfl (sr_2 rfl T.b_range (sa_cons (se_sf (sf_callB (call_min2 rfl) opl_min2 rfl T.b_min (by decide +kernel) (sa_cons (se_ix rfl hu (se_var 0) (se_sf sf_int)) (sa_cons (se_ix rfl hu (se_var 1) (se_sf sf_int)) sa_nil)))) (sa_cons (se_sf (sf_bin op_addA opd_add (se_sf (sf_callB (call_max2 rfl) opl_max2 rfl T.b_max (by decide +kernel) (sa_cons (se_ix rfl hu (se_var 0) (se_sf sf_int)) (sa_cons (se_ix rfl hu (se_var 1) (se_sf sf_int)) sa_nil)))) (se_sf sf_int))) sa_nil)) (h1 := len_cons2)) (ss_one (ss_forR 4 S.nd (passes_of rfl) rfl (sr_2 rfl T.b_range (sa_cons (se_sf (sf_callB (call_min2 rfl) opl_min2 rfl T.b_min (by decide +kernel) (sa_cons (se_ix rfl hu (se_var 0) (se_sf sf_int)) (sa_cons (se_ix rfl hu (se_var 1) (se_sf sf_int)) sa_nil)))) (sa_cons (se_sf (sf_bin op_addA opd_add (se_sf (sf_callB (call_max2 rfl) opl_max2 rfl T.b_max (by decide +kernel) (sa_cons (se_ix rfl hu (se_var 0) (se_sf sf_int)) (sa_cons (se_ix rfl hu (se_var 1) (se_sf sf_int)) sa_nil)))) (se_sf sf_int))) sa_nil)) (h1 := len_cons2)) (ss_one (ss_mut 2 rfl PySem.F.plainAttrs_list PySem.F.slot_list_append rfl mt_append mud_append (pl_var 2) (saf_cons (sf_tup (saf_cons (sf_imm (se_var 3)) (saf_cons (sf_imm (se_var 4)) saf_nil))) saf_nil))))))
      (ss_one (ss_retV 2))))
/-! #### Sheet.places -/
abbrev s_Sh_places : Stmt := inClass (top 28) 1
theorem sc_Sh_places : FnScope ["self"] ["self"] (defScope s_Sh_places) := ⟨rfl, rfl, rfl, by decide +kernel, rfl, by decide +kernel, by decide +kernel⟩
set_option maxHeartbeats 4000000 in
theorem ok_Sh_places {f : Addr} {fd : FuncData} (F : Fun K "places" "Sheet.places" s_Sh_places f fd) (T : Txt K mg C cB cO cT cS) (c_area : CalP P w K mg base (sheetG K C cB cO cT) "area" 1 2 f_area) : FnOk P w K mg base (L2.CX P w) 2 f fd ["self"] (spP (sheetG K C cB cO cT) 1 f_Sh_places) :=
  fnP F sc_Sh_places rfl (by decide) rfl fun cdv A outer s H E hr => by
    have hu := hu100 hr
    have hu64 := hu64 hr
    have S := sc_Sh_places
    exact (ss_one (ss_ret (sf_call c_area (takes_of rfl rfl rfl rfl) (hr.mono (by omega)) rfl (sa_cons (se_sf (sf_tup (saf_cons sf_int (saf_cons sf_int saf_nil)))) (sa_cons (se_sf (sf_tup (saf_cons (sf_bin op_sub opd_int0 (se_fld 0 rfl T.cls rfl (se_var 0)) (se_sf sf_int)) (saf_cons (sf_bin op_sub opd_int0 (se_fld 1 rfl T.cls rfl (se_var 0)) (se_sf sf_int)) saf_nil)))) sa_nil)))))
/-! #### Sheet.__init__ -/
abbrev s_Sheet_init : Stmt := inClass (top 28) 0
theorem sc_Sheet_init : FnScope ["self", "high", "wide", "place"] ["self", "high", "wide"] (defScope s_Sheet_init) := ⟨rfl, rfl, rfl, by decide +kernel, rfl, by decide +kernel, by decide +kernel⟩
set_option maxHeartbeats 4000000 in
theorem ok_Sheet_init {f : Addr} {fd : FuncData} (F : Fun K "__init__" "Sheet.__init__" s_Sheet_init f fd) (T : Txt K mg C cB cO cT cS) (c_Sh_places : MetP P w K mg base (sheetG K C cB cO cT) "places" 2 1 f_Sh_places) : FnOk P w K mg base (L2.CX P w) 3 f fd ["self", "high", "wide"] (spM (sheetG K C cB cO cT) 3 f_Sheet_init) :=
  fnM2 F sc_Sheet_init rfl (by decide) rfl (fun cdv A outer s H E hr => by
    have hu := hu100 hr
    have hu64 := hu64 hr
    have S := sc_Sheet_init
    exact (ss_cons (ss_if (st_w (sw_or (st_not (st_chain op_le op_le opd_bool0 opd_bool0 (se_sf sf_int) (se_var 1) (se_sf (sf_gint rfl T.g_MOST.choose_spec)))) (sw_or1 (st_not (st_chain op_le op_le opd_bool0 opd_bool0 (se_sf sf_int) (se_var 2) (se_sf (sf_gint rfl T.g_MOST.choose_spec))))))) (ss_one (ss_raise 1 PySem.F.excBase_ValueError T.x_BadSize T.m_BadSize T.k_BadSize (raises_own T.r_BadSize T.t_BadSize) rfl rfl (takes_of rfl rfl rfl rfl))) ss_nil)
      (ss_cons (ss_fld 0 0 rfl T.cls rfl nlG (sf_imm (se_var 1)))
      (ss_cons (ss_fld 1 0 rfl T.cls rfl nlG (sf_imm (se_var 2)))
      (ss_cons (ss_fld 2 0 rfl T.cls rfl nlG sf_dT)
      (ss_one (ss_for 3 rfl S.nd (passes_of rfl) rfl (sn_sf (sf_meth0 c_Sh_places rfl T.cls (nmG (by decide +kernel)) (takes_of rfl rfl rfl rfl) (hr.mono (by omega)) (se_var 0))) (ss_one (ss_put 0 hu (pl_fld 0 2 rfl T.cls rfl) (se_var 3) (sf_tup (saf_cons sf_str (saf_cons sf_int saf_nil)))))))))))) (by decide)
/-! #### Sheet.has -/
abbrev s_Sh_has : Stmt := inClass (top 28) 2
theorem sc_Sh_has : FnScope ["self", "place"] ["self", "place"] (defScope s_Sh_has) := ⟨rfl, rfl, rfl, by decide +kernel, rfl, by decide +kernel, by decide +kernel⟩
set_option maxHeartbeats 4000000 in
theorem ok_Sh_has {f : Addr} {fd : FuncData} (F : Fun K "has" "Sheet.has" s_Sh_has f fd) (T : Txt K mg C cB cO cT cS) : FnOk P w K mg base (L2.CX P w) 1 f fd ["self", "place"] (spP (sheetG K C cB cO cT) 2 f_Sh_has) :=
  fnP F sc_Sh_has rfl (by decide) rfl fun cdv A outer s H E hr => by
    have hu := hu100 hr
    have hu64 := hu64 hr
    have S := sc_Sh_has
    exact (ss_one (ss_ret (sf_imm (se_and (se_sf (sf_chain op_le op_lt opd_bool0 opd_bool0 (se_sf sf_int) (se_ix rfl hu (se_var 1) (se_sf sf_int)) (se_fld 0 rfl T.cls rfl (se_var 0)))) (se_one (se_sf (sf_chain op_le op_lt opd_bool0 opd_bool0 (se_sf sf_int) (se_ix rfl hu (se_var 1) (se_sf sf_int)) (se_fld 1 rfl T.cls rfl (se_var 0)))))))))
/-! #### Sheet.need -/
abbrev s_Sh_need : Stmt := inClass (top 28) 3
theorem sc_Sh_need : FnScope ["self", "places", "place"] ["self", "places"] (defScope s_Sh_need) := ⟨rfl, rfl, rfl, by decide +kernel, rfl, by decide +kernel, by decide +kernel⟩
set_option maxHeartbeats 4000000 in
theorem ok_Sh_need {f : Addr} {fd : FuncData} (F : Fun K "need" "Sheet.need" s_Sh_need f fd) (T : Txt K mg C cB cO cT cS) (c_Sh_has : MetP P w K mg base (sheetG K C cB cO cT) "has" 1 2 f_Sh_has) : FnOk P w K mg base (L2.CX P w) 2 f fd ["self", "places"] (spP (sheetG K C cB cO cT) 2 f_Sh_need) :=
  fnP F sc_Sh_need rfl (by decide) rfl fun cdv A outer s H E hr => by
    have hu := hu100 hr
    have hu64 := hu64 hr
    have S := sc_Sh_need
    exact (ss_one (ss_for 2 rfl S.nd (passes_of rfl) rfl (sn_var 1) (ss_one (ss_if (st_not (st_val (se_sf (sf_meth c_Sh_has rfl T.cls (nmG (by decide +kernel)) (takes_of rfl rfl rfl rfl) (hr.mono (by omega)) (se_var 0) (sa_cons (se_var 2) sa_nil))))) (ss_one (ss_raise 2 PySem.F.excBase_ValueError T.x_OffSheet T.m_OffSheet T.k_OffSheet (raises_own T.r_OffSheet T.t_OffSheet) rfl rfl (takes_of rfl rfl rfl rfl))) ss_nil))))
/-! #### inner -/
abbrev s_inner : Stmt := top 3
theorem sc_inner : FnScope ["rule"] ["rule"] (defScope s_inner) := ⟨rfl, rfl, rfl, by decide +kernel, rfl, by decide +kernel, by decide +kernel⟩
set_option maxHeartbeats 4000000 in
theorem ok_inner {f : Addr} {fd : FuncData} (F : Fun K "inner" "inner" s_inner f fd) (T : Txt K mg C cB cO cT cS) : FnOk P w K mg base (L2.CX P w) 1 f fd ["rule"] (spP (sheetG K C cB cO cT) 1 f_inner) :=
  fnP F sc_inner rfl (by decide) rfl fun cdv A outer s H E hr => by
    have hu := hu100 hr
    have hu64 := hu64 hr
    have S := sc_inner
    exact (ss_cons (ss_if (st_cmp (op_eqD hu64) opd_eq (se_ix rfl hu (se_var 0) (se_sf sf_int)) (se_sf sf_str) (by with_unfolding_all rfl)) (ss_one (ss_ret (sf_lst (saf_cons (sf_imm (se_ix rfl hu (se_var 0) (se_sf sf_int))) (saf_cons (sf_imm (se_ix rfl hu (se_var 0) (se_sf sf_int))) saf_nil))))) ss_nil)
      (ss_cons (ss_if (st_cmp (op_inA hu) opd_in (se_ix rfl hu (se_var 0) (se_sf sf_int)) (se_sf (sf_tup (saf_cons sf_str (saf_cons sf_str (saf_cons sf_str (saf_cons sf_str saf_nil)))))) (by with_unfolding_all rfl)) (ss_one (ss_ret (sf_callTy (call_listA rfl) opl_list rfl T.b_list (by decide +kernel) (sa_cons (se_sf (sf_slice rfl (se_var 0) (so_some (se_sf sf_int)) so_none)) sa_nil)))) ss_nil)
      (ss_one (ss_ret (sf_lst saf_nil)))))
/-! #### deep -/
abbrev s_deep : Stmt := top 6
theorem sc_deep : FnScope ["rule", "part"] ["rule"] (defScope s_deep) := ⟨rfl, rfl, rfl, by decide +kernel, rfl, by decide +kernel, by decide +kernel⟩
set_option maxHeartbeats 4000000 in
theorem ok_deep {f : Addr} {fd : FuncData} (F : Fun K "deep" "deep" s_deep f fd) (T : Txt K mg C cB cO cT cS) (hm : mg "deep" = some (.ref f)) (hk : PySem.W.keepIn K (.ref f) = true) (hb : Binds K fd ["rule"] []) (c_inner : CalP P w K mg base (sheetG K C cB cO cT) "inner" 1 1 f_inner) : ∀ n : Nat, FnOk P w K mg base (L2.CX P w) (1 + 1 * n) f fd ["rule"] (spP (sheetG K C cB cO cT) 1 (f_deep_ n))
  | 0 => fn_no rfl
  | n + 1 => by
    have c_deep : CalP P w K mg base (sheetG K C cB cO cT) "deep" (1 + 1 * n) 1 (f_deep_ n) := ⟨f, fd, _, hm, hk, hb, ok_deep F T hm hk hb c_inner n⟩
    exact fnP (k := 1 + 1 * n + 0) F sc_deep rfl (by decide) rfl fun cdv A outer s H E hr => by
      have hu := hu100 hr
      have hu64 := hu64 hr
      have S := sc_deep
      exact (ss_one (ss_ret (sf_bin op_addA opd_add (se_sf sf_int) (se_sf (sf_maxd rfl rfl T.b_max (se_sf (sf_lc 1 rfl rfl S.nd (se_sf (sf_call c_inner (takes_of rfl rfl rfl rfl) (hr.mono (by omega)) rfl (sa_cons (se_var 0) sa_nil))) (by exact (show BlkOk ["rule", "part"] (defScope s_deep) _ [("part", 1)] from ⟨rfl, by decide +kernel, by decide +kernel, by decide +kernel, by decide +kernel⟩)) (fun _ _ _ _ _ => pg_name S.nd rfl (by first | exact Or.inl rfl | exact Or.inr rfl)) (fun _ _ _ _ _ => sts_nil) (fun _ _ _ _ _ => (sf_call c_deep tk0 (hr.mono (by omega)) rfl (sa_cons (se_var 1) sa_nil))))) (se_sf sf_int))))))
/-! #### references -/
abbrev s_references : Stmt := top 4
theorem sc_references : FnScope ["rule"] ["rule"] (defScope s_references) := ⟨rfl, rfl, rfl, by decide +kernel, rfl, by decide +kernel, by decide +kernel⟩
set_option maxHeartbeats 4000000 in
theorem ok_references {f : Addr} {fd : FuncData} (F : Fun K "references" "references" s_references f fd) (T : Txt K mg C cB cO cT cS) : FnOk P w K mg base (L2.CX P w) 1 f fd ["rule"] (spP (sheetG K C cB cO cT) 1 f_references) :=
  fnP F sc_references rfl (by decide) rfl fun cdv A outer s H E hr => by
    have hu := hu100 hr
    have hu64 := hu64 hr
    have S := sc_references
    exact (ss_cons (ss_if (st_cmp (op_eqD hu64) opd_eq (se_ix rfl hu (se_var 0) (se_sf sf_int)) (se_sf sf_str) (by with_unfolding_all rfl)) (ss_one (ss_ret (sf_lst (saf_cons (sf_imm (se_ix rfl hu (se_var 0) (se_sf sf_int))) saf_nil)))) ss_nil)
      (ss_cons (ss_if (st_w (sw_or (st_cmp (op_eqD hu64) opd_eq (se_ix rfl hu (se_var 0) (se_sf sf_int)) (se_sf sf_str) (by with_unfolding_all rfl)) (sw_or1 (st_cmp (op_eqD hu64) opd_eq (se_ix rfl hu (se_var 0) (se_sf sf_int)) (se_sf sf_str) (by with_unfolding_all rfl))))) (ss_one (ss_ret (sf_lst (saf_cons (sf_imm (se_ix rfl hu (se_var 0) (se_sf sf_int))) (saf_cons (sf_imm (se_ix rfl hu (se_var 0) (se_sf sf_int))) saf_nil))))) ss_nil)
      (ss_cons (ss_if (st_cmp (op_eqD hu64) opd_eq (se_ix rfl hu (se_var 0) (se_sf sf_int)) (se_sf sf_str) (by with_unfolding_all rfl)) (ss_one (ss_ret (sf_lst (saf_cons (sf_imm (se_ix rfl hu (se_var 0) (se_sf sf_int))) (saf_cons (sf_imm (se_ix rfl hu (se_var 0) (se_sf sf_int))) saf_nil))))) ss_nil)
      (ss_one (ss_ret (sf_lst saf_nil))))))
/-! #### all_references -/
abbrev s_all_references : Stmt := top 5
theorem sc_all_references : FnScope ["rule", "found", "part"] ["rule"] (defScope s_all_references) := ⟨rfl, rfl, rfl, by decide +kernel, rfl, by decide +kernel, by decide +kernel⟩
set_option maxHeartbeats 4000000 in
theorem ok_all_references {f : Addr} {fd : FuncData} (F : Fun K "all_references" "all_references" s_all_references f fd) (T : Txt K mg C cB cO cT cS) (hm : mg "all_references" = some (.ref f)) (hk : PySem.W.keepIn K (.ref f) = true) (hb : Binds K fd ["rule"] []) (c_inner : CalP P w K mg base (sheetG K C cB cO cT) "inner" 1 1 f_inner) (c_references : CalP P w K mg base (sheetG K C cB cO cT) "references" 1 1 f_references) : ∀ n : Nat, FnOk P w K mg base (L2.CX P w) (1 + 1 * n) f fd ["rule"] (spP (sheetG K C cB cO cT) 1 (f_all_references_ n))
  | 0 => fn_no rfl
  | n + 1 => by
    have c_all_references : CalP P w K mg base (sheetG K C cB cO cT) "all_references" (1 + 1 * n) 1 (f_all_references_ n) := ⟨f, fd, _, hm, hk, hb, ok_all_references F T hm hk hb c_inner c_references n⟩
    exact fnP (k := 1 + 1 * n + 0) F sc_all_references rfl (by decide) rfl fun cdv A outer s H E hr => by
      have hu := hu100 hr
      have hu64 := hu64 hr
      have S := sc_all_references
      exact (ss_cons (ss_set 1 S.nd (sf_call c_references (takes_of rfl rfl rfl rfl) (hr.mono (by omega)) rfl (sa_cons (se_var 0) sa_nil)))
        (ss_cons (ss_for 2 rfl S.nd (passes_of rfl) rfl (sn_sf (sf_call c_inner (takes_of rfl rfl rfl rfl) (hr.mono (by omega)) rfl (sa_cons (se_var 0) sa_nil))) (ss_one (ss_set 1 S.nd (sf_bin op_addA opd_add (se_var 1) (se_sf (sf_call c_all_references (takes_of rfl rfl rfl rfl) (hr.mono (by omega)) rfl (sa_cons (se_var 2) sa_nil)))))))
        (ss_one (ss_retV 1))))
/-! #### Sheet.put -/
abbrev s_Sh_put : Stmt := inClass (top 28) 5
theorem sc_Sh_put : FnScope ["self", "place", "rule"] ["self", "place", "rule"] (defScope s_Sh_put) := ⟨rfl, rfl, rfl, by decide +kernel, rfl, by decide +kernel, by decide +kernel⟩
set_option maxHeartbeats 4000000 in
theorem ok_Sh_put {f : Addr} {fd : FuncData} (F : Fun K "put" "Sheet.put" s_Sh_put f fd) (T : Txt K mg C cB cO cT cS) (c_Sh_need : MetP P w K mg base (sheetG K C cB cO cT) "need" 2 2 f_Sh_need) (c_all_references : CalP P w K mg base (sheetG K C cB cO cT) "all_references" 41 1 (f_all_references_ 40)) (c_deep : CalP P w K mg base (sheetG K C cB cO cT) "deep" 41 1 (f_deep_ 40)) : FnOk P w K mg base (L2.CX P w) 42 f fd ["self", "place", "rule"] (spM (sheetG K C cB cO cT) 3 f_Sh_put) :=
  fnM2 F sc_Sh_put rfl (by decide) rfl (fun cdv A outer s H E hr => by
    have hu := hu100 hr
    have hu64 := hu64 hr
    have S := sc_Sh_put
    exact (ss_cons (ss_expr (se_sf (sf_meth c_Sh_need rfl T.cls (nmG (by decide +kernel)) (takes_of rfl rfl rfl rfl) (hr.mono (by omega)) (se_var 0) (sa_cons (se_sf (sf_lst (saf_cons (sf_imm (se_var 1)) saf_nil))) sa_nil))))
      (ss_cons (ss_if (st_cmp op_gt opd_bool0 (se_sf (sf_call c_deep (takes_of rfl rfl rfl rfl) (hr.mono (by omega)) rfl (sa_cons (se_var 2) sa_nil))) (se_sf (sf_gint rfl T.g_DEEPEST.choose_spec)) (by with_unfolding_all rfl)) (ss_one (ss_raise 3 PySem.F.excBase_ValueError T.x_TooDeep T.m_TooDeep T.k_TooDeep (raises_own T.r_TooDeep T.t_TooDeep) rfl rfl (takes_of rfl rfl rfl rfl))) ss_nil)
      (ss_cons (ss_expr (se_sf (sf_meth c_Sh_need rfl T.cls (nmG (by decide +kernel)) (takes_of rfl rfl rfl rfl) (hr.mono (by omega)) (se_var 0) (sa_cons (se_sf (sf_call c_all_references (takes_of rfl rfl rfl rfl) (hr.mono (by omega)) rfl (sa_cons (se_var 2) sa_nil))) sa_nil))))
      (ss_one (ss_put 0 hu (pl_fld 0 2 rfl T.cls rfl) (se_sf (sf_tup (saf_cons (sf_imm (se_ix rfl hu (se_var 1) (se_sf sf_int))) (saf_cons (sf_imm (se_ix rfl hu (se_var 1) (se_sf sf_int))) saf_nil)))) (sf_imm (se_var 2)))))))) (by decide)
/-! #### Sheet.rule -/
abbrev s_Sh_rule : Stmt := inClass (top 28) 4
theorem sc_Sh_rule : FnScope ["self", "place"] ["self", "place"] (defScope s_Sh_rule) := ⟨rfl, rfl, rfl, by decide +kernel, rfl, by decide +kernel, by decide +kernel⟩
set_option maxHeartbeats 4000000 in
theorem ok_Sh_rule {f : Addr} {fd : FuncData} (F : Fun K "rule" "Sheet.rule" s_Sh_rule f fd) (T : Txt K mg C cB cO cT cS) (c_Sh_need : MetP P w K mg base (sheetG K C cB cO cT) "need" 2 2 f_Sh_need) : FnOk P w K mg base (L2.CX P w) 3 f fd ["self", "place"] (spP (sheetG K C cB cO cT) 2 f_Sh_rule) :=
  fnP F sc_Sh_rule rfl (by decide) rfl fun cdv A outer s H E hr => by
    have hu := hu100 hr
    have hu64 := hu64 hr
    have S := sc_Sh_rule
    exact (ss_cons (ss_expr (se_sf (sf_meth c_Sh_need rfl T.cls (nmG (by decide +kernel)) (takes_of rfl rfl rfl rfl) (hr.mono (by omega)) (se_var 0) (sa_cons (se_sf (sf_lst (saf_cons (sf_imm (se_var 1)) saf_nil))) sa_nil))))
      (ss_one (ss_ret (sf_imm (se_ix rfl hu (se_fld 2 rfl T.cls rfl (se_var 0)) (se_sf (sf_tup (saf_cons (sf_imm (se_ix rfl hu (se_var 1) (se_sf sf_int))) (saf_cons (sf_imm (se_ix rfl hu (se_var 1) (se_sf sf_int))) saf_nil)))))))))
/-! #### named -/
abbrev s_named : Stmt := top 7
theorem sc_named : FnScope ["rule", "found"] ["rule"] (defScope s_named) := ⟨rfl, rfl, rfl, by decide +kernel, rfl, by decide +kernel, by decide +kernel⟩
set_option maxHeartbeats 4000000 in
theorem ok_named {f : Addr} {fd : FuncData} (F : Fun K "named" "named" s_named f fd) (T : Txt K mg C cB cO cT cS) (c_area : CalP P w K mg base (sheetG K C cB cO cT) "area" 1 2 f_area) (c_references : CalP P w K mg base (sheetG K C cB cO cT) "references" 1 1 f_references) : FnOk P w K mg base (L2.CX P w) 2 f fd ["rule"] (spP (sheetG K C cB cO cT) 1 f_named) :=
  fnP F sc_named rfl (by decide) rfl fun cdv A outer s H E hr => by
    have hu := hu100 hr
    have hu64 := hu64 hr
    have S := sc_named
    exact (ss_cons (ss_set 1 S.nd (sf_call c_references (takes_of rfl rfl rfl rfl) (hr.mono (by omega)) rfl (sa_cons (se_var 0) sa_nil)))
      (ss_cons (ss_if (st_cmp (op_eqD hu64) opd_eq (se_var 1) (se_sf (sf_lst saf_nil)) (by with_unfolding_all rfl)) (ss_one (ss_ret (sf_lst saf_nil))) ss_nil)
      (ss_one (ss_ret (sf_call c_area (takes_of rfl rfl rfl rfl) (hr.mono (by omega)) rfl (sa_cons (se_ix rfl hu (se_var 1) (se_sf sf_int)) (sa_cons (se_ix rfl hu (se_var 1) (se_sf (sf_un un_neg und_neg (se_sf sf_int)))) sa_nil)))))))
/-! #### needed -/
abbrev s_needed : Stmt := top 8
theorem sc_needed : FnScope ["rule", "found", "place", "part"] ["rule"] (defScope s_needed) := ⟨rfl, rfl, rfl, by decide +kernel, rfl, by decide +kernel, by decide +kernel⟩
set_option maxHeartbeats 4000000 in
theorem ok_needed {f : Addr} {fd : FuncData} (F : Fun K "needed" "needed" s_needed f fd) (T : Txt K mg C cB cO cT cS) (hm : mg "needed" = some (.ref f)) (hk : PySem.W.keepIn K (.ref f) = true) (hb : Binds K fd ["rule"] []) (c_inner : CalP P w K mg base (sheetG K C cB cO cT) "inner" 1 1 f_inner) (c_named : CalP P w K mg base (sheetG K C cB cO cT) "named" 2 1 f_named) : ∀ n : Nat, FnOk P w K mg base (L2.CX P w) (2 + 1 * n) f fd ["rule"] (spP (sheetG K C cB cO cT) 1 (f_needed_ n))
  | 0 => fn_no rfl
  | n + 1 => by
    have c_needed : CalP P w K mg base (sheetG K C cB cO cT) "needed" (2 + 1 * n) 1 (f_needed_ n) := ⟨f, fd, _, hm, hk, hb, ok_needed F T hm hk hb c_inner c_named n⟩
    exact fnP (k := 2 + 1 * n + 0) F sc_needed rfl (by decide) rfl fun cdv A outer s H E hr => by
      have hu := hu100 hr
      have hu64 := hu64 hr
      have S := sc_needed
      exact (ss_cons (ss_set 1 S.nd sf_dT)
        (ss_cons (ss_for 2 rfl S.nd (passes_of rfl) rfl (sn_sf (sf_call c_named (takes_of rfl rfl rfl rfl) (hr.mono (by omega)) rfl (sa_cons (se_var 0) sa_nil))) (ss_one (ss_put 1 hu (pl_var 1) (se_var 2) sf_bl)))
        (ss_cons (ss_for 3 rfl S.nd (passes_of rfl) rfl (sn_sf (sf_call c_inner (takes_of rfl rfl rfl rfl) (hr.mono (by omega)) rfl (sa_cons (se_var 0) sa_nil))) (ss_one (ss_for 2 rfl S.nd (passes_of rfl) rfl (sn_sf (sf_call c_needed (takes_of rfl rfl rfl rfl) (hr.mono (by omega)) rfl (sa_cons (se_var 3) sa_nil))) (ss_one (ss_put 1 hu (pl_var 1) (se_var 2) sf_bl)))))
        (ss_one (ss_ret (sf_callB cr_sortedPO opl_sorted rfl T.b_sorted (by decide +kernel) (sa_cons (se_sf (sf_callTy (call_listA rfl) opl_list rfl T.b_list (by decide +kernel) (sa_cons (se_var 1) sa_nil))) sa_nil)))))))
/-! #### users_of -/
abbrev s_users_of : Stmt := top 11
theorem sc_users_of : FnScope ["sheet", "found", "place", "other"] ["sheet"] (defScope s_users_of) := ⟨rfl, rfl, rfl, by decide +kernel, rfl, by decide +kernel, by decide +kernel⟩
set_option maxHeartbeats 4000000 in
theorem ok_users_of {f : Addr} {fd : FuncData} (F : Fun K "users_of" "users_of" s_users_of f fd) (T : Txt K mg C cB cO cT cS) (c_Sh_rule : MetP P w K mg base (sheetG K C cB cO cT) "rule" 3 2 f_Sh_rule) (c_needed : CalP P w K mg base (sheetG K C cB cO cT) "needed" 42 1 (f_needed_ 40)) (c_Sh_places : MetP P w K mg base (sheetG K C cB cO cT) "places" 2 1 f_Sh_places) : FnOk P w K mg base (L2.CX P w) 43 f fd ["sheet"] (spP (sheetG K C cB cO cT) 1 f_users_of) :=
  fnP F sc_users_of rfl (by decide) rfl fun cdv A outer s H E hr => by
    have hu := hu100 hr
    have hu64 := hu64 hr
    have S := sc_users_of
    exact (ss_cons (ss_set 1 S.nd sf_dT)
      (ss_cons (ss_for 2 rfl S.nd (passes_of rfl) rfl (sn_sf (sf_meth0 c_Sh_places rfl T.cls (nmG (by decide +kernel)) (takes_of rfl rfl rfl rfl) (hr.mono (by omega)) (se_var 0))) (ss_one (ss_put 1 hu (pl_var 1) (se_var 2) (sf_lst saf_nil))))
      (ss_cons (ss_for 2 rfl S.nd (passes_of rfl) rfl (sn_sf (sf_meth0 c_Sh_places rfl T.cls (nmG (by decide +kernel)) (takes_of rfl rfl rfl rfl) (hr.mono (by omega)) (se_var 0))) (ss_one (ss_for 3 rfl S.nd (passes_of rfl) rfl (sn_sf (sf_call c_needed (takes_of rfl rfl rfl rfl) (hr.mono (by omega)) rfl (sa_cons (se_sf (sf_meth c_Sh_rule rfl T.cls (nmG (by decide +kernel)) (takes_of rfl rfl rfl rfl) (hr.mono (by omega)) (se_var 0) (sa_cons (se_var 2) sa_nil))) sa_nil))) (ss_one (ss_mut 1 rfl PySem.F.plainAttrs_list PySem.F.slot_list_append rfl mt_append mud_append (pl_ix 1 rfl hu (se_var 3)) (saf_cons (sf_imm (se_var 2)) saf_nil))))))
      (ss_one (ss_retV 1)))))
/-! #### touched -/
abbrev s_touched : Stmt := top 30
theorem sc_touched : FnScope ["sheet", "place", "users", "found", "at", "user"] ["sheet", "place"] (defScope s_touched) := ⟨rfl, rfl, rfl, by decide +kernel, rfl, by decide +kernel, by decide +kernel⟩
set_option maxHeartbeats 4000000 in
theorem ok_touched {f : Addr} {fd : FuncData} (F : Fun K "touched" "touched" s_touched f fd) (T : Txt K mg C cB cO cT cS) (c_users_of : CalP P w K mg base (sheetG K C cB cO cT) "users_of" 43 1 f_users_of) (c_Sh_rule : MetP P w K mg base (sheetG K C cB cO cT) "rule" 3 2 f_Sh_rule) : FnOk P w K mg base (L2.CX P w) 44 f fd ["sheet", "place"] (spP (sheetG K C cB cO cT) 2 f_touched) :=
  fnP F sc_touched rfl (by decide) rfl fun cdv A outer s H E hr => by
    have hu := hu100 hr
    have hu64 := hu64 hr
    have S := sc_touched
    exact (ss_cons (ss_expr (se_sf (sf_meth c_Sh_rule rfl T.cls (nmG (by decide +kernel)) (takes_of rfl rfl rfl rfl) (hr.mono (by omega)) (se_var 0) (sa_cons (se_var 1) sa_nil))))
      (ss_cons (ss_set 2 S.nd (sf_call c_users_of (takes_of rfl rfl rfl rfl) (hr.mono (by omega)) rfl (sa_cons (se_var 0) sa_nil)))
      (ss_cons (ss_set 3 S.nd (sf_lst (saf_cons (sf_tup (saf_cons (sf_imm (se_ix rfl hu (se_var 1) (se_sf sf_int))) (saf_cons (sf_imm (se_ix rfl hu (se_var 1) (se_sf sf_int))) saf_nil))) saf_nil)))
      (ss_cons (ss_set 4 S.nd sf_int)
      (ss_cons (by refine ss_frz 2 ?h2 ?d2; (case h2 => exact (ss_while 1000000 (passes_of rfl) (st_cmp op_lt opd_bool0 (se_var 4) (se_sf (sf_callB call_lenA opl_len rfl T.b_len (by decide +kernel) (sa_cons (se_var 3) sa_nil))) (by with_unfolding_all rfl)) (ss_cons (ss_for 5 rfl S.nd (passes_of rfl) rfl (sn_ix rfl hu (sn_var 2) (se_ix rfl hu (se_var 3) (se_var 4))) (ss_one (ss_if (st_cmp (op_notInA hu) opd_notIn (se_var 5) (se_var 3) (by with_unfolding_all rfl)) (ss_one (ss_mut 3 rfl PySem.F.plainAttrs_list PySem.F.slot_list_append rfl mt_append mud_append (pl_var 3) (saf_cons (sf_imm (se_var 5)) saf_nil))) ss_nil)))
      (ss_one (ss_set 4 S.nd (sf_bin op_addA opd_add (se_var 4) (se_sf sf_int))))))); (case d2 => decide))
      (ss_one (ss_ret (sf_callB cr_sortedPO opl_sorted rfl T.b_sorted (by decide +kernel) (sa_cons (se_var 3) sa_nil)))))))))
/-! #### _law_touches -/
abbrev s_l_touches : Stmt := top 39
def m_l_touches : Evn → RS :=
    (mSeq (mSet 3 (mCall gMin1 (mCons (mBin gAdd (mLcK 4 2 (mTest (mBin gGt (mVar 4) (mC (.int 0)))) (mImm (mVar 4))) (mLst (mCons (mCall gLen (mCons (mVar 1) mNil)) mNil))) mNil)))
    (mRet (mBin gEq (mApp 2 f_touched (mCons (mVar 0) (mCons (mBinE gIx (mVar 1) (mC (.int 0))) mNil))) (mCall gSorted (mCons (mSl (mVar 1) mNoPart (mPart (mVar 3))) mNil)))))
def f_l_touches : List D → R D := runP 3 5 m_l_touches
theorem sc_l_touches : FnScope ["_law_sheet", "_law_row_here", "_law_heads", "_law_end", "_law_k"] ["_law_sheet", "_law_row_here", "_law_heads"] (defScope s_l_touches) := ⟨rfl, rfl, rfl, by decide +kernel, rfl, by decide +kernel, by decide +kernel⟩
set_option maxHeartbeats 4000000 in
theorem ok_l_touches {f : Addr} {fd : FuncData} (F : Fun K "_law_touches" "_law_touches" s_l_touches f fd) (T : Txt K mg C cB cO cT cS) (c_touched : CalP P w K mg base (sheetG K C cB cO cT) "touched" 44 2 f_touched) : FnOk P w K mg base (L2.CX P w) 45 f fd ["_law_sheet", "_law_row_here", "_law_heads"] (spP (sheetG K C cB cO cT) 3 f_l_touches) :=
  fnP F sc_l_touches rfl (by decide) rfl fun cdv A outer s H E hr => by
    have hu := hu100 hr
    have hu64 := hu64 hr
    have S := sc_l_touches
    exact (ss_cons (ss_set 3 S.nd (sf_callB (cr_min rfl) opl_min1 rfl T.b_min (by decide +kernel) (sa_cons (se_sf (sf_bin op_addA opd_add (se_sf (sf_lcK 4 2 rfl S.nd (by exact (show BlkOk ["_law_sheet", "_law_row_here", "_law_heads", "_law_end", "_law_k"] (defScope s_l_touches) _ [("_law_k", 4)] from ⟨rfl, by decide +kernel, by decide +kernel, by decide +kernel, by decide +kernel⟩)) (fun _ _ _ _ _ => pg_name S.nd rfl (by first | exact Or.inl rfl | exact Or.inr rfl)) (fun _ _ _ _ _ => (sts_one (st_cmp op_gt opd_bool0 (se_var 4) (se_sf sf_int) (by with_unfolding_all rfl)))) (fun _ _ _ _ _ => (sf_imm (se_var 4))))) (se_sf (sf_lst (saf_cons (sf_callB call_lenA opl_len rfl T.b_len (by decide +kernel) (sa_cons (se_var 1) sa_nil)) saf_nil))))) sa_nil)))
      (ss_one (ss_ret (sf_cmp (op_eqD hu64) opd_eq (se_sf (sf_call c_touched (takes_of rfl rfl rfl rfl) (hr.mono (by omega)) rfl (sa_cons (se_var 0) (sa_cons (se_ix rfl hu (se_var 1) (se_sf sf_int)) sa_nil)))) (se_sf (sf_callB cr_sortedPO opl_sorted rfl T.b_sorted (by decide +kernel) (sa_cons (se_sf (sf_slice rfl (se_var 1) so_none (so_some (se_var 3)))) sa_nil))) (by with_unfolding_all rfl)))))
/-! #### needs_of -/
abbrev s_needs_of : Stmt := top 10
theorem sc_needs_of : FnScope ["sheet", "found", "place"] ["sheet"] (defScope s_needs_of) := ⟨rfl, rfl, rfl, by decide +kernel, rfl, by decide +kernel, by decide +kernel⟩
set_option maxHeartbeats 4000000 in
theorem ok_needs_of {f : Addr} {fd : FuncData} (F : Fun K "needs_of" "needs_of" s_needs_of f fd) (T : Txt K mg C cB cO cT cS) (c_Sh_rule : MetP P w K mg base (sheetG K C cB cO cT) "rule" 3 2 f_Sh_rule) (c_needed : CalP P w K mg base (sheetG K C cB cO cT) "needed" 42 1 (f_needed_ 40)) (c_Sh_places : MetP P w K mg base (sheetG K C cB cO cT) "places" 2 1 f_Sh_places) : FnOk P w K mg base (L2.CX P w) 43 f fd ["sheet"] (spP (sheetG K C cB cO cT) 1 f_needs_of) :=
  fnP F sc_needs_of rfl (by decide) rfl fun cdv A outer s H E hr => by
    have hu := hu100 hr
    have hu64 := hu64 hr
    have S := sc_needs_of
    exact (ss_cons (ss_set 1 S.nd sf_dT)
      (ss_cons (ss_for 2 rfl S.nd (passes_of rfl) rfl (sn_sf (sf_meth0 c_Sh_places rfl T.cls (nmG (by decide +kernel)) (takes_of rfl rfl rfl rfl) (hr.mono (by omega)) (se_var 0))) (ss_one (ss_put 1 hu (pl_var 1) (se_var 2) (sf_call c_needed (takes_of rfl rfl rfl rfl) (hr.mono (by omega)) rfl (sa_cons (se_sf (sf_meth c_Sh_rule rfl T.cls (nmG (by decide +kernel)) (takes_of rfl rfl rfl rfl) (hr.mono (by omega)) (se_var 0) (sa_cons (se_var 2) sa_nil))) sa_nil)))))
      (ss_one (ss_retV 1))))
/-! #### settled -/
abbrev s_settled : Stmt := top 17
theorem sc_settled : FnScope ["sheet", "needs", "users", "left", "done", "place", "at", "user"] ["sheet"] (defScope s_settled) := ⟨rfl, rfl, rfl, by decide +kernel, rfl, by decide +kernel, by decide +kernel⟩
set_option maxHeartbeats 4000000 in
theorem ok_settled {f : Addr} {fd : FuncData} (F : Fun K "settled" "settled" s_settled f fd) (T : Txt K mg C cB cO cT cS) (c_Sh_places : MetP P w K mg base (sheetG K C cB cO cT) "places" 2 1 f_Sh_places) (c_users_of : CalP P w K mg base (sheetG K C cB cO cT) "users_of" 43 1 f_users_of) (c_needs_of : CalP P w K mg base (sheetG K C cB cO cT) "needs_of" 43 1 f_needs_of) : FnOk P w K mg base (L2.CX P w) 44 f fd ["sheet"] (spP (sheetG K C cB cO cT) 1 f_settled) :=
  fnP F sc_settled rfl (by decide) rfl fun cdv A outer s H E hr => by
    have hu := hu100 hr
    have hu64 := hu64 hr
    have S := sc_settled
    exact (ss_cons (ss_set 1 S.nd (sf_call c_needs_of (takes_of rfl rfl rfl rfl) (hr.mono (by omega)) rfl (sa_cons (se_var 0) sa_nil)))
      (ss_cons (ss_set 2 S.nd (sf_call c_users_of (takes_of rfl rfl rfl rfl) (hr.mono (by omega)) rfl (sa_cons (se_var 0) sa_nil)))
      (ss_cons (ss_set 3 S.nd sf_dT)
      (ss_cons (ss_set 4 S.nd (sf_lst saf_nil))
      (ss_cons (ss_for 5 rfl S.nd (passes_of rfl) rfl (sn_sf (sf_meth0 c_Sh_places rfl T.cls (nmG (by decide +kernel)) (takes_of rfl rfl rfl rfl) (hr.mono (by omega)) (se_var 0))) (ss_cons (ss_put 3 hu (pl_var 3) (se_var 5) (sf_callB call_lenA opl_len rfl T.b_len (by decide +kernel) (sa_cons (se_ix rfl hu (se_var 1) (se_var 5)) sa_nil)))
      (ss_one (ss_if (st_cmp (op_eqD hu64) opd_eq (se_ix rfl hu (se_var 3) (se_var 5)) (se_sf sf_int) (by with_unfolding_all rfl)) (ss_one (ss_mut 4 rfl PySem.F.plainAttrs_list PySem.F.slot_list_append rfl mt_append mud_append (pl_var 4) (saf_cons (sf_imm (se_var 5)) saf_nil))) ss_nil))))
      (ss_cons (ss_set 6 S.nd sf_int)
      (ss_cons (by refine ss_frz 2 ?h2 ?d2; (case h2 => exact (ss_while 1000000 (passes_of rfl) (st_cmp op_lt opd_bool0 (se_var 6) (se_sf (sf_callB call_lenA opl_len rfl T.b_len (by decide +kernel) (sa_cons (se_var 4) sa_nil))) (by with_unfolding_all rfl)) (ss_cons (ss_for 7 rfl S.nd (passes_of rfl) rfl (sn_ix rfl hu (sn_var 2) (se_ix rfl hu (se_var 4) (se_var 6))) (ss_cons (ss_put 3 hu (pl_var 3) (se_var 7) (sf_bin op_sub opd_int0 (se_ix rfl hu (se_var 3) (se_var 7)) (se_sf sf_int)))
      (ss_one (ss_if (st_cmp (op_eqD hu64) opd_eq (se_ix rfl hu (se_var 3) (se_var 7)) (se_sf sf_int) (by with_unfolding_all rfl)) (ss_one (ss_mut 4 rfl PySem.F.plainAttrs_list PySem.F.slot_list_append rfl mt_append mud_append (pl_var 4) (saf_cons (sf_imm (se_var 7)) saf_nil))) ss_nil))))
      (ss_one (ss_set 6 S.nd (sf_bin op_addA opd_add (se_var 6) (se_sf sf_int))))))); (case d2 => decide))
      (ss_one (ss_retV 4)))))))))
/-! #### joined -/
abbrev s_joined : Stmt := top 15
theorem sc_joined : FnScope ["word", "one", "two"] ["word", "one", "two"] (defScope s_joined) := ⟨rfl, rfl, rfl, by decide +kernel, rfl, by decide +kernel, by decide +kernel⟩
set_option maxHeartbeats 4000000 in
theorem ok_joined {f : Addr} {fd : FuncData} (F : Fun K "joined" "joined" s_joined f fd) (T : Txt K mg C cB cO cT cS) : FnOk P w K mg base (L2.CX P w) 1 f fd ["word", "one", "two"] (spP (sheetG K C cB cO cT) 3 f_joined) :=
  fnP F sc_joined rfl (by decide) rfl fun cdv A outer s H E hr => by
    have hu := hu100 hr
    have hu64 := hu64 hr
    have S := sc_joined
    exact (ss_cons (ss_if (st_cmp (op_eqD hu64) opd_eq (se_var 0) (se_sf sf_str) (by with_unfolding_all rfl)) (ss_one (ss_ret (sf_bin op_mod opd_mod (se_sf (sf_bin op_addA opd_add (se_var 1) (se_var 2))) (se_sf (sf_gint rfl T.g_ROUND.choose_spec))))) ss_nil)
      (ss_cons (ss_if (st_cmp (op_eqD hu64) opd_eq (se_var 0) (se_sf sf_str) (by with_unfolding_all rfl)) (ss_one (ss_ret (sf_bin op_mod opd_mod (se_sf (sf_bin op_sub opd_int0 (se_var 1) (se_var 2))) (se_sf (sf_gint rfl T.g_ROUND.choose_spec))))) ss_nil)
      (ss_one (ss_ret (sf_bin op_mod opd_mod (se_sf (sf_bin op_mul opd_mul (se_var 1) (se_var 2))) (se_sf (sf_gint rfl T.g_ROUND.choose_spec)))))))
/-! #### looked -/
abbrev s_looked : Stmt := top 14
theorem sc_looked : FnScope ["rule", "known", "key", "left", "right", "row"] ["rule", "known"] (defScope s_looked) := ⟨rfl, rfl, rfl, by decide +kernel, rfl, by decide +kernel, by decide +kernel⟩
set_option maxHeartbeats 4000000 in
theorem ok_looked {f : Addr} {fd : FuncData} (F : Fun K "looked" "looked" s_looked f fd) (T : Txt K mg C cB cO cT cS) {g : List D → R D} {j : Nat} (hj : 0 ≤ j) (c_told : CalP P w K mg base (sheetG K C cB cO cT) "told" j 2 g) : FnOk P w K mg base (L2.CX P w) (j + 1) f fd ["rule", "known"] (spP (sheetG K C cB cO cT) 2 (f_looked g)) :=
  fnP F sc_looked rfl (by decide) rfl fun cdv A outer s H E hr => by
    have hu := hu100 hr
    have hu64 := hu64 hr
    have S := sc_looked
    exact (ss_cons (ss_set 2 S.nd (sf_call c_told (takes_of rfl rfl rfl rfl) (hr.mono (by omega)) rfl (sa_cons (se_ix rfl hu (se_var 0) (se_sf sf_int)) (sa_cons (se_var 1) sa_nil))))
      (ss_cons (ss_set 3 S.nd (sf_callB (call_min2 rfl) opl_min2 rfl T.b_min (by decide +kernel) (sa_cons (se_ix rfl hu (se_ix rfl hu (se_var 0) (se_sf sf_int)) (se_sf sf_int)) (sa_cons (se_ix rfl hu (se_ix rfl hu (se_var 0) (se_sf sf_int)) (se_sf sf_int)) sa_nil))))
      (ss_cons (ss_set 4 S.nd (sf_callB (call_max2 rfl) opl_max2 rfl T.b_max (by decide +kernel) (sa_cons (se_ix rfl hu (se_ix rfl hu (se_var 0) (se_sf sf_int)) (se_sf sf_int)) (sa_cons (se_ix rfl hu (se_ix rfl hu (se_var 0) (se_sf sf_int)) (se_sf sf_int)) sa_nil))))
      (ss_cons (ss_forR 5 S.nd (passes_of rfl) rfl (sr_2 rfl T.b_range (sa_cons (se_sf (sf_callB (call_min2 rfl) opl_min2 rfl T.b_min (by decide +kernel) (sa_cons (se_ix rfl hu (se_ix rfl hu (se_var 0) (se_sf sf_int)) (se_sf sf_int)) (sa_cons (se_ix rfl hu (se_ix rfl hu (se_var 0) (se_sf sf_int)) (se_sf sf_int)) sa_nil)))) (sa_cons (se_sf (sf_bin op_addA opd_add (se_sf (sf_callB (call_max2 rfl) opl_max2 rfl T.b_max (by decide +kernel) (sa_cons (se_ix rfl hu (se_ix rfl hu (se_var 0) (se_sf sf_int)) (se_sf sf_int)) (sa_cons (se_ix rfl hu (se_ix rfl hu (se_var 0) (se_sf sf_int)) (se_sf sf_int)) sa_nil)))) (se_sf sf_int))) sa_nil)) (h1 := len_cons2)) (ss_one (ss_if (st_cmp (op_eqD hu64) opd_eq (se_ix rfl hu (se_var 1) (se_sf (sf_tup (saf_cons (sf_imm (se_var 5)) (saf_cons (sf_imm (se_var 3)) saf_nil))))) (se_var 2) (by with_unfolding_all rfl)) (ss_one (ss_ret (sf_imm (se_ix rfl hu (se_var 1) (se_sf (sf_tup (saf_cons (sf_imm (se_var 5)) (saf_cons (sf_imm (se_var 4)) saf_nil)))))))) ss_nil)))
      (ss_one (ss_ret (sf_call c_told (takes_of rfl rfl rfl rfl) (hr.mono (by omega)) rfl (sa_cons (se_ix rfl hu (se_var 0) (se_sf sf_int)) (sa_cons (se_var 1) sa_nil)))))))))
/-! #### told -/
abbrev s_told : Stmt := top 16
theorem sc_told : FnScope ["rule", "known", "word", "place"] ["rule", "known"] (defScope s_told) := ⟨rfl, rfl, rfl, by decide +kernel, rfl, by decide +kernel, by decide +kernel⟩
set_option maxHeartbeats 4000000 in
theorem ok_told {f : Addr} {fd : FuncData} (F : Fun K "told" "told" s_told f fd) (T : Txt K mg C cB cO cT cS) (hm : mg "told" = some (.ref f)) (hk : PySem.W.keepIn K (.ref f) = true) (hb : Binds K fd ["rule", "known"] []) {f2 : Addr} {fd2 : FuncData} (F2 : Fun K "looked" "looked" s_looked f2 fd2) (hm2 : mg "looked" = some (.ref f2)) (hk2 : PySem.W.keepIn K (.ref f2) = true) (hb2 : Binds K fd2 ["rule", "known"] []) (c_joined : CalP P w K mg base (sheetG K C cB cO cT) "joined" 1 3 f_joined) (c_area : CalP P w K mg base (sheetG K C cB cO cT) "area" 1 2 f_area) : ∀ n : Nat, FnOk P w K mg base (L2.CX P w) (1 + 2 * n) f fd ["rule", "known"] (spP (sheetG K C cB cO cT) 2 (f_told_ n))
  | 0 => fn_no rfl
  | n + 1 => by
    have c_told : CalP P w K mg base (sheetG K C cB cO cT) "told" (1 + 2 * n) 2 (f_told_ n) := ⟨f, fd, _, hm, hk, hb, ok_told F T hm hk hb F2 hm2 hk2 hb2 c_joined c_area n⟩
    have c_looked : CalP P w K mg base (sheetG K C cB cO cT) "looked" (1 + 2 * n + 1) 2 (f_looked (f_told_ n)) := ⟨f2, fd2, _, hm2, hk2, hb2, ok_looked F2 T (by omega) c_told⟩
    exact fnP (k := 1 + 2 * n + 1) F sc_told rfl (by decide) rfl fun cdv A outer s H E hr => by
      have hu := hu100 hr
      have hu64 := hu64 hr
      have S := sc_told
      exact (ss_cons (ss_set 2 S.nd (sf_imm (se_ix rfl hu (se_var 0) (se_sf sf_int))))
        (ss_cons (ss_if (st_cmp (op_eqD hu64) opd_eq (se_var 2) (se_sf sf_str) (by with_unfolding_all rfl)) (ss_one (ss_ret (sf_bin op_mod opd_mod (se_ix rfl hu (se_var 0) (se_sf sf_int)) (se_sf (sf_gint rfl T.g_ROUND.choose_spec))))) ss_nil)
        (ss_cons (ss_if (st_cmp (op_eqD hu64) opd_eq (se_var 2) (se_sf sf_str) (by with_unfolding_all rfl)) (ss_one (ss_ret (sf_imm (se_ix rfl hu (se_var 1) (se_sf (sf_tup (saf_cons (sf_imm (se_ix rfl hu (se_ix rfl hu (se_var 0) (se_sf sf_int)) (se_sf sf_int))) (saf_cons (sf_imm (se_ix rfl hu (se_ix rfl hu (se_var 0) (se_sf sf_int)) (se_sf sf_int))) saf_nil)))))))) ss_nil)
        (ss_cons (ss_if (st_cmp (op_eqD hu64) opd_eq (se_var 2) (se_sf sf_str) (by with_unfolding_all rfl)) (ss_one (ss_ret (sf_bin op_mod opd_mod (se_sf (sf_callB (cr_sum rfl) opl_sum rfl T.b_sum (by decide +kernel) (sa_cons (se_sf (sf_lc 3 rfl rfl S.nd (se_sf (sf_call c_area (takes_of rfl rfl rfl rfl) (hr.mono (by omega)) rfl (sa_cons (se_ix rfl hu (se_var 0) (se_sf sf_int)) (sa_cons (se_ix rfl hu (se_var 0) (se_sf sf_int)) sa_nil)))) (by exact (show BlkOk ["rule", "known", "word", "place"] (defScope s_told) _ [("place", 3)] from ⟨rfl, by decide +kernel, by decide +kernel, by decide +kernel, by decide +kernel⟩)) (fun _ _ _ _ _ => pg_name S.nd rfl (by first | exact Or.inl rfl | exact Or.inr rfl)) (fun _ _ _ _ _ => sts_nil) (fun _ _ _ _ _ => (sf_imm (se_ix rfl hu (se_var 1) (se_var 3)))))) sa_nil))) (se_sf (sf_gint rfl T.g_ROUND.choose_spec))))) ss_nil)
        (ss_cons (ss_if (st_cmp (op_eqD hu64) opd_eq (se_var 2) (se_sf sf_str) (by with_unfolding_all rfl)) (ss_one (ss_ret (sf_callB (cr_max rfl) opl_max1 rfl T.b_max (by decide +kernel) (sa_cons (se_sf (sf_lc 3 rfl rfl S.nd (se_sf (sf_call c_area (takes_of rfl rfl rfl rfl) (hr.mono (by omega)) rfl (sa_cons (se_ix rfl hu (se_var 0) (se_sf sf_int)) (sa_cons (se_ix rfl hu (se_var 0) (se_sf sf_int)) sa_nil)))) (by exact (show BlkOk ["rule", "known", "word", "place"] (defScope s_told) _ [("place", 3)] from ⟨rfl, by decide +kernel, by decide +kernel, by decide +kernel, by decide +kernel⟩)) (fun _ _ _ _ _ => pg_name S.nd rfl (by first | exact Or.inl rfl | exact Or.inr rfl)) (fun _ _ _ _ _ => sts_nil) (fun _ _ _ _ _ => (sf_imm (se_ix rfl hu (se_var 1) (se_var 3)))))) sa_nil)))) ss_nil)
        (ss_cons (ss_if (st_cmp (op_eqD hu64) opd_eq (se_var 2) (se_sf sf_str) (by with_unfolding_all rfl)) (ss_one (ss_ret (sf_call c_looked (takes_of rfl rfl rfl rfl) (hr.mono (by omega)) rfl (sa_cons (se_var 0) (sa_cons (se_var 1) sa_nil))))) ss_nil)
        (ss_cons (ss_if (st_cmp (op_eqD hu64) opd_eq (se_var 2) (se_sf sf_str) (by with_unfolding_all rfl)) (ss_cons (ss_if (st_cmp (op_neD hu64) opd_ne (se_sf (sf_call c_told (takes_of rfl rfl rfl rfl) (hr.mono (by omega)) rfl (sa_cons (se_ix rfl hu (se_var 0) (se_sf sf_int)) (sa_cons (se_var 1) sa_nil)))) (se_sf sf_int) (by with_unfolding_all rfl)) (ss_one (ss_ret (sf_call c_told (takes_of rfl rfl rfl rfl) (hr.mono (by omega)) rfl (sa_cons (se_ix rfl hu (se_var 0) (se_sf sf_int)) (sa_cons (se_var 1) sa_nil))))) ss_nil)
        (ss_one (ss_ret (sf_call c_told (takes_of rfl rfl rfl rfl) (hr.mono (by omega)) rfl (sa_cons (se_ix rfl hu (se_var 0) (se_sf sf_int)) (sa_cons (se_var 1) sa_nil)))))) ss_nil)
        (ss_one (ss_ret (sf_call c_joined (takes_of rfl rfl rfl rfl) (hr.mono (by omega)) rfl (sa_cons (se_var 2) (sa_cons (se_sf (sf_call c_told (takes_of rfl rfl rfl rfl) (hr.mono (by omega)) rfl (sa_cons (se_ix rfl hu (se_var 0) (se_sf sf_int)) (sa_cons (se_var 1) sa_nil)))) (sa_cons (se_sf (sf_call c_told (takes_of rfl rfl rfl rfl) (hr.mono (by omega)) rfl (sa_cons (se_ix rfl hu (se_var 0) (se_sf sf_int)) (sa_cons (se_var 1) sa_nil)))) sa_nil)))))))))))))
/-! #### reckoned -/
abbrev s_reckoned : Stmt := top 18
theorem sc_reckoned : FnScope ["sheet", "known", "place", "found", "row", "column"] ["sheet"] (defScope s_reckoned) := ⟨rfl, rfl, rfl, by decide +kernel, rfl, by decide +kernel, by decide +kernel⟩
set_option maxHeartbeats 4000000 in
theorem ok_reckoned {f : Addr} {fd : FuncData} (F : Fun K "reckoned" "reckoned" s_reckoned f fd) (T : Txt K mg C cB cO cT cS) (c_Sh_rule : MetP P w K mg base (sheetG K C cB cO cT) "rule" 3 2 f_Sh_rule) (c_told : CalP P w K mg base (sheetG K C cB cO cT) "told" 81 2 (f_told_ 40)) (c_settled : CalP P w K mg base (sheetG K C cB cO cT) "settled" 44 1 f_settled) : FnOk P w K mg base (L2.CX P w) 82 f fd ["sheet"] (spP (sheetG K C cB cO cT) 1 f_reckoned) :=
  fnP F sc_reckoned rfl (by decide) rfl fun cdv A outer s H E hr => by
    have hu := hu100 hr
    have hu64 := hu64 hr
    have S := sc_reckoned
    exact (ss_cons (ss_set 1 S.nd sf_dT)
      (ss_cons (ss_for 2 rfl S.nd (passes_of rfl) rfl (sn_sf (sf_call c_settled (takes_of rfl rfl rfl rfl) (hr.mono (by omega)) rfl (sa_cons (se_var 0) sa_nil))) (ss_one (ss_put 1 hu (pl_var 1) (se_var 2) (sf_call c_told (takes_of rfl rfl rfl rfl) (hr.mono (by omega)) rfl (sa_cons (se_sf (sf_meth c_Sh_rule rfl T.cls (nmG (by decide +kernel)) (takes_of rfl rfl rfl rfl) (hr.mono (by omega)) (se_var 0) (sa_cons (se_var 2) sa_nil))) (sa_cons (se_var 1) sa_nil))))))
      (ss_cons (ss_set 3 S.nd (sf_lst saf_nil))
      (ss_cons (ss_forR 4 S.nd (passes_of rfl) rfl (sr_1 rfl T.b_range (sa_cons (se_fld 0 rfl T.cls rfl (se_var 0)) sa_nil) (h1 := len_cons1)) (ss_one (ss_mut 3 rfl PySem.F.plainAttrs_list PySem.F.slot_list_append rfl mt_append mud_append (pl_var 3) (saf_cons (sf_lcR 5 rfl S.nd (sr_1 rfl T.b_range (sa_cons (se_fld 1 rfl T.cls rfl (se_var 0)) sa_nil) (h1 := len_cons1)) (by exact (show BlkOk ["sheet", "known", "place", "found", "row", "column"] (defScope s_reckoned) _ [("column", 5)] from ⟨rfl, by decide +kernel, by decide +kernel, by decide +kernel, by decide +kernel⟩)) (fun _ _ _ _ _ => pg_name S.nd rfl (by first | exact Or.inl rfl | exact Or.inr rfl)) (fun _ _ _ _ _ => sts_nil) (fun _ _ _ _ _ => (sf_imm (se_get hu (se_var 1) (se_sf (sf_tup (saf_cons (sf_imm (se_var 4)) (saf_cons (sf_imm (se_var 5)) saf_nil)))))))) saf_nil))))
      (ss_one (ss_retV 3))))))
/-! #### _law_values -/
abbrev s_l_values : Stmt := top 37
def m_l_values : Evn → RS :=
    (mSeq (mSet 2 (mApp 1 f_reckoned (mCons (mVar 0) mNil)))
    (mSeq (mForK 3 1 (mIf (cOr (mTest (mBin gNe (mBinE gIx (mBinE gIx (mVar 2) (mBinE gIx (mVar 3) (mC (.int 0)))) (mBinE gIx (mVar 3) (mC (.int 1)))) (mBinE gIx (mVar 1) (mVar 3)))) (mTest (mIsi .bool (mBinE gIx (mBinE gIx (mVar 2) (mBinE gIx (mVar 3) (mC (.int 0)))) (mBinE gIx (mVar 3) (mC (.int 1))))))) (mRet (mC (.bl false))) mNx))
    (mRet (mBin gEq (mCall gLen (mCons (mVar 2) mNil)) (mFld 0 (mVar 0))))))
def f_l_values : List D → R D := runP 2 4 m_l_values
theorem sc_l_values : FnScope ["_law_sheet", "_law_due_here", "_law_found", "_law_place"] ["_law_sheet", "_law_due_here"] (defScope s_l_values) := ⟨rfl, rfl, rfl, by decide +kernel, rfl, by decide +kernel, by decide +kernel⟩
set_option maxHeartbeats 4000000 in
theorem ok_l_values {f : Addr} {fd : FuncData} (F : Fun K "_law_values" "_law_values" s_l_values f fd) (T : Txt K mg C cB cO cT cS) (c_reckoned : CalP P w K mg base (sheetG K C cB cO cT) "reckoned" 82 1 f_reckoned) : FnOk P w K mg base (L2.CX P w) 83 f fd ["_law_sheet", "_law_due_here"] (spP (sheetG K C cB cO cT) 2 f_l_values) :=
  fnP F sc_l_values rfl (by decide) rfl fun cdv A outer s H E hr => by
    have hu := hu100 hr
    have hu64 := hu64 hr
    have S := sc_l_values
    exact (ss_cons (ss_set 2 S.nd (sf_call c_reckoned (takes_of rfl rfl rfl rfl) (hr.mono (by omega)) rfl (sa_cons (se_var 0) sa_nil)))
      (ss_cons (ss_forK 3 1 S.nd (passes_of rfl) rfl (ss_one (ss_if (st_w (sw_or (st_cmp (op_neD hu64) opd_ne (se_ix rfl hu (se_ix rfl hu (se_var 2) (se_ix rfl hu (se_var 3) (se_sf sf_int))) (se_ix rfl hu (se_var 3) (se_sf sf_int))) (se_ix rfl hu (se_var 1) (se_var 3)) (by with_unfolding_all rfl)) (sw_or1 (st_val (se_sf (sf_isi .bool rfl rfl T.b_isinstance rfl T.b_bool (by decide +kernel) (se_ix rfl hu (se_ix rfl hu (se_var 2) (se_ix rfl hu (se_var 3) (se_sf sf_int))) (se_ix rfl hu (se_var 3) (se_sf sf_int))))))))) (ss_one (ss_ret sf_bl)) ss_nil)))
      (ss_one (ss_ret (sf_cmp (op_eqD hu64) opd_eq (se_sf (sf_callB call_lenA opl_len rfl T.b_len (by decide +kernel) (sa_cons (se_var 2) sa_nil))) (se_fld 0 rfl T.cls rfl (se_var 0)) (by with_unfolding_all rfl))))))
/-! #### ring -/
abbrev s_ring : Stmt := top 19
theorem sc_ring : FnScope ["sheet", "needs", "done", "place", "stuck", "way", "after"] ["sheet"] (defScope s_ring) := ⟨rfl, rfl, rfl, by decide +kernel, rfl, by decide +kernel, by decide +kernel⟩
set_option maxHeartbeats 4000000 in
theorem ok_ring {f : Addr} {fd : FuncData} (F : Fun K "ring" "ring" s_ring f fd) (T : Txt K mg C cB cO cT cS) (c_Sh_places : MetP P w K mg base (sheetG K C cB cO cT) "places" 2 1 f_Sh_places) (c_settled : CalP P w K mg base (sheetG K C cB cO cT) "settled" 44 1 f_settled) (c_needs_of : CalP P w K mg base (sheetG K C cB cO cT) "needs_of" 43 1 f_needs_of) : FnOk P w K mg base (L2.CX P w) 45 f fd ["sheet"] (spP (sheetG K C cB cO cT) 1 f_ring) :=
  fnP F sc_ring rfl (by decide) rfl fun cdv A outer s H E hr => by
    have hu := hu100 hr
    have hu64 := hu64 hr
    have S := sc_ring
    exact (ss_cons (ss_set 1 S.nd (sf_call c_needs_of (takes_of rfl rfl rfl rfl) (hr.mono (by omega)) rfl (sa_cons (se_var 0) sa_nil)))
      (ss_cons (ss_set 2 S.nd sf_dT)
      (ss_cons (ss_for 3 rfl S.nd (passes_of rfl) rfl (sn_sf (sf_call c_settled (takes_of rfl rfl rfl rfl) (hr.mono (by omega)) rfl (sa_cons (se_var 0) sa_nil))) (ss_one (ss_put 2 hu (pl_var 2) (se_var 3) sf_bl)))
      (ss_cons (ss_setLc 4 3 rfl rfl S.nd rfl rfl (by rfl) (se_sf (sf_meth0 c_Sh_places rfl T.cls (nmG (by decide +kernel)) (takes_of rfl rfl rfl rfl) (hr.mono (by omega)) (se_var 0))) (by exact (show BlkOk ["sheet", "needs", "done", "place", "stuck", "way", "after"] (defScope s_ring) _ [("place", 3)] from ⟨rfl, by decide +kernel, by decide +kernel, by decide +kernel, by decide +kernel⟩)) (fun _ _ _ _ _ => pg_name S.nd rfl (by first | exact Or.inl rfl | exact Or.inr rfl)) (fun _ _ _ _ _ => (sts_one (st_cmp (op_notInA hu) opd_notIn (se_var 3) (se_var 2) (by with_unfolding_all rfl)))) (fun _ _ _ _ _ => (sf_imm (se_var 3))))
      (ss_cons (ss_if (st_cmp (op_eqD hu64) opd_eq (se_var 4) (se_sf (sf_lst saf_nil)) (by with_unfolding_all rfl)) (ss_one (ss_ret sf_non)) ss_nil)
      (ss_cons (ss_set 5 S.nd (sf_lst (saf_cons (sf_imm (se_ix rfl hu (se_var 4) (se_sf sf_int))) saf_nil)))
      (ss_one (ss_while 1000000 (passes_of rfl) (st_val (se_sf sf_bl)) (ss_cons (ss_set 6 S.nd (sf_imm (se_ix rfl hu (se_sf (sf_lc 3 rfl rfl S.nd (se_ix rfl hu (se_var 1) (se_ix rfl hu (se_var 5) (se_sf (sf_un un_neg und_neg (se_sf sf_int))))) (by exact (show BlkOk ["sheet", "needs", "done", "place", "stuck", "way", "after"] (defScope s_ring) _ [("place", 3)] from ⟨rfl, by decide +kernel, by decide +kernel, by decide +kernel, by decide +kernel⟩)) (fun _ _ _ _ _ => pg_name S.nd rfl (by first | exact Or.inl rfl | exact Or.inr rfl)) (fun _ _ _ _ _ => (sts_one (st_cmp (op_notInA hu) opd_notIn (se_var 3) (se_var 2) (by with_unfolding_all rfl)))) (fun _ _ _ _ _ => (sf_imm (se_var 3))))) (se_sf sf_int))))
      (ss_cons (ss_if (st_cmp (op_inA hu) opd_in (se_var 6) (se_var 5) (by with_unfolding_all rfl)) (ss_one (ss_ret (sf_slice rfl (se_var 5) (so_some (se_sf (sf_index rfl hu (se_var 5) (se_var 6)))) so_none))) ss_nil)
      (ss_one (ss_mut 5 rfl PySem.F.plainAttrs_list PySem.F.slot_list_append rfl mt_append mud_append (pl_var 5) (saf_cons (sf_imm (se_var 6)) saf_nil)))))))))))))
/-! #### _law_round -/
abbrev s_l_round : Stmt := top 38
def m_l_round : Evn → RS :=
    (mSeq (mSet 4 (mApp 1 f_ring (mCons (mVar 0) mNil)))
    (mSeq (mIf (cOr (mTest (mBin gLt (mVar 3) (mC (.int 0)))) (mTest (mBin gNe (mLcR 5 (mCons (mBin gAdd (mVar 3) (mC (.int 1))) mNil) (mTest (mBin gIn (mVar 5) (mVar 2))) (mImm (mVar 5))) (mLst mNil)))) (mRet (mBin gIsN (mVar 4) (mC .non))) mNx)
    (mSeq (mIf (cOr (cNot (mTest (mIsi .list (mVar 4)))) (mTest (mBin gNe (mCall gSorted (mCons (mVar 4) mNil)) (mCall gSorted (mCons (mSl (mVar 1) mNoPart (mPart (mBin gAdd (mVar 3) (mC (.int 1))))) mNil))))) (mRet (mC (.bl false))) mNx)
    (mSeq (mSet 6 mDT)
    (mSeq (mForR 5 (mCons (mC (.int 1)) (mCons (mBin gAdd (mVar 3) (mC (.int 1))) mNil)) (mPut 6 pRoot (mBinE gIx (mVar 1) (mVar 5)) (mImm (mBinE gIx (mVar 1) (mBin gSub (mVar 5) (mC (.int 1)))))))
    (mSeq (mPut 6 pRoot (mBinE gIx (mVar 1) (mC (.int 0))) (mImm (mBinE gIx (mVar 1) (mVar 3))))
    (mRet (mBin gEq (mLcR 5 (mCons (mCall gLen (mCons (mVar 4) mNil)) mNil) (mTest (mBin gNe (mBinE gIx (mVar 6) (mBinE gIx (mVar 4) (mBin gSub (mVar 5) (mC (.int 1))))) (mBinE gIx (mVar 4) (mVar 5)))) (mImm (mVar 5))) (mLst mNil)))))))))
def f_l_round : List D → R D := runP 4 7 m_l_round
theorem sc_l_round : FnScope ["_law_sheet", "_law_row_here", "_law_heads", "_law_back", "_law_found", "_law_k", "_law_ahead"] ["_law_sheet", "_law_row_here", "_law_heads", "_law_back"] (defScope s_l_round) := ⟨rfl, rfl, rfl, by decide +kernel, rfl, by decide +kernel, by decide +kernel⟩
set_option maxHeartbeats 4000000 in
theorem ok_l_round {f : Addr} {fd : FuncData} (F : Fun K "_law_round" "_law_round" s_l_round f fd) (T : Txt K mg C cB cO cT cS) (c_ring : CalP P w K mg base (sheetG K C cB cO cT) "ring" 45 1 f_ring) : FnOk P w K mg base (L2.CX P w) 46 f fd ["_law_sheet", "_law_row_here", "_law_heads", "_law_back"] (spP (sheetG K C cB cO cT) 4 f_l_round) :=
  fnP F sc_l_round rfl (by decide) rfl fun cdv A outer s H E hr => by
    have hu := hu100 hr
    have hu64 := hu64 hr
    have S := sc_l_round
    exact (ss_cons (ss_set 4 S.nd (sf_call c_ring (takes_of rfl rfl rfl rfl) (hr.mono (by omega)) rfl (sa_cons (se_var 0) sa_nil)))
      (ss_cons (ss_if (st_w (sw_or (st_cmp op_lt opd_bool0 (se_var 3) (se_sf sf_int) (by with_unfolding_all rfl)) (sw_or1 (st_cmp (op_neD hu64) opd_ne (se_sf (sf_lcR 5 rfl S.nd (sr_1 rfl T.b_range (sa_cons (se_sf (sf_bin op_addA opd_add (se_var 3) (se_sf sf_int))) sa_nil) (h1 := len_cons1)) (by exact (show BlkOk ["_law_sheet", "_law_row_here", "_law_heads", "_law_back", "_law_found", "_law_k", "_law_ahead"] (defScope s_l_round) _ [("_law_k", 5)] from ⟨rfl, by decide +kernel, by decide +kernel, by decide +kernel, by decide +kernel⟩)) (fun _ _ _ _ _ => pg_name S.nd rfl (by first | exact Or.inl rfl | exact Or.inr rfl)) (fun _ _ _ _ _ => (sts_one (st_cmp (op_inA hu) opd_in (se_var 5) (se_var 2) (by with_unfolding_all rfl)))) (fun _ _ _ _ _ => (sf_imm (se_var 5))))) (se_sf (sf_lst saf_nil)) (by with_unfolding_all rfl))))) (ss_one (ss_ret (sf_cmp op_isN opd_isN (se_var 4) (se_sf sf_non) (by with_unfolding_all rfl)))) ss_nil)
      (ss_cons (ss_if (st_w (sw_or (st_not (st_val (se_sf (sf_isi .list rfl rfl T.b_isinstance rfl T.b_list (by decide +kernel) (se_var 4))))) (sw_or1 (st_cmp (op_neD hu64) opd_ne (se_sf (sf_callB cr_sortedPO opl_sorted rfl T.b_sorted (by decide +kernel) (sa_cons (se_var 4) sa_nil))) (se_sf (sf_callB cr_sortedPO opl_sorted rfl T.b_sorted (by decide +kernel) (sa_cons (se_sf (sf_slice rfl (se_var 1) so_none (so_some (se_sf (sf_bin op_addA opd_add (se_var 3) (se_sf sf_int)))))) sa_nil))) (by with_unfolding_all rfl))))) (ss_one (ss_ret sf_bl)) ss_nil)
      (ss_cons (ss_set 6 S.nd sf_dT)
      (ss_cons (ss_forR 5 S.nd (passes_of rfl) rfl (sr_2 rfl T.b_range (sa_cons (se_sf sf_int) (sa_cons (se_sf (sf_bin op_addA opd_add (se_var 3) (se_sf sf_int))) sa_nil)) (h1 := len_cons2)) (ss_one (ss_put 6 hu (pl_var 6) (se_ix rfl hu (se_var 1) (se_var 5)) (sf_imm (se_ix rfl hu (se_var 1) (se_sf (sf_bin op_sub opd_int0 (se_var 5) (se_sf sf_int))))))))
      (ss_cons (ss_put 6 hu (pl_var 6) (se_ix rfl hu (se_var 1) (se_sf sf_int)) (sf_imm (se_ix rfl hu (se_var 1) (se_var 3))))
      (ss_one (ss_ret (sf_cmp (op_eqD hu64) opd_eq (se_sf (sf_lcR 5 rfl S.nd (sr_1 rfl T.b_range (sa_cons (se_sf (sf_callB call_lenA opl_len rfl T.b_len (by decide +kernel) (sa_cons (se_var 4) sa_nil))) sa_nil) (h1 := len_cons1)) (by exact (show BlkOk ["_law_sheet", "_law_row_here", "_law_heads", "_law_back", "_law_found", "_law_k", "_law_ahead"] (defScope s_l_round) _ [("_law_k", 5)] from ⟨rfl, by decide +kernel, by decide +kernel, by decide +kernel, by decide +kernel⟩)) (fun _ _ _ _ _ => pg_name S.nd rfl (by first | exact Or.inl rfl | exact Or.inr rfl)) (fun _ _ _ _ _ => (sts_one (st_cmp (op_neD hu64) opd_ne (se_ix rfl hu (se_var 6) (se_ix rfl hu (se_var 4) (se_sf (sf_bin op_sub opd_int0 (se_var 5) (se_sf sf_int))))) (se_ix rfl hu (se_var 4) (se_var 5)) (by with_unfolding_all rfl)))) (fun _ _ _ _ _ => (sf_imm (se_var 5))))) (se_sf (sf_lst saf_nil)) (by with_unfolding_all rfl))))))))))
/-! #### _law_due -/
abbrev s_l_due : Stmt := top 36
def m_l_due : Evn → RS :=
    (mSeq (mSet 4 mDT)
    (mSeq (mSet 5 (mC .non))
    (mSeq (mForR 6 (mCons (mCall gLen (mCons (mVar 0) mNil)) mNil) (mSeq (mIf (mTest (mBin gIn (mVar 6) (mVar 2))) (mSet 5 (mImm (mBinE gIx (mVar 2) (mVar 6)))) (mIf (mTest (mBin gEq (mVar 6) (mC (.int 0)))) (mSet 5 (mC .non)) (mIf (mTest (mBin gIsNn (mVar 5) (mC .non))) (mSet 5 (mBin gAdd (mVar 5) (mVar 1))) mNx)))
    (mPut 4 pRoot (mBinE gIx (mVar 0) (mVar 6)) (mImm (mVar 5)))))
    (mSeq (mIf (cAnd (mTest (mBin gGe (mVar 3) (mC (.int 0)))) (mTest (mBin gNotIn (mC (.int 0)) (mVar 2)))) (mSeq (mSet 7 (mImm (mBinE gIx (mVar 4) (mBinE gIx (mVar 0) (mVar 3)))))
    (mForR 6 (mCons (mCall gLen (mCons (mVar 0) mNil)) mNil) (mSeq (mIf (cOr (mTest (mBin gIn (mVar 6) (mVar 2))) (mTest (mBin gIsN (mVar 7) (mC .non)))) (mRetV 4) mNx)
    (mPut 4 pRoot (mBinE gIx (mVar 0) (mVar 6)) (mBin gAdd (mVar 7) (mBin gMul (mVar 1) (mBin gAdd (mVar 6) (mC (.int 1))))))))) mNx)
    (mRetV 4)))))
def f_l_due : List D → R D := runP 4 8 m_l_due
theorem sc_l_due : FnScope ["_law_row_here", "_law_step", "_law_heads", "_law_back", "_law_found", "_law_value", "_law_k", "_law_end"] ["_law_row_here", "_law_step", "_law_heads", "_law_back"] (defScope s_l_due) := ⟨rfl, rfl, rfl, by decide +kernel, rfl, by decide +kernel, by decide +kernel⟩
set_option maxHeartbeats 4000000 in
theorem ok_l_due {f : Addr} {fd : FuncData} (F : Fun K "_law_due" "_law_due" s_l_due f fd) (T : Txt K mg C cB cO cT cS) : FnOk P w K mg base (L2.CX P w) 1 f fd ["_law_row_here", "_law_step", "_law_heads", "_law_back"] (spP (sheetG K C cB cO cT) 4 f_l_due) :=
  fnP F sc_l_due rfl (by decide) rfl fun cdv A outer s H E hr => by
    have hu := hu100 hr
    have hu64 := hu64 hr
    have S := sc_l_due
    exact (ss_cons (ss_set 4 S.nd sf_dT)
      (ss_cons (ss_set 5 S.nd sf_non)
      (ss_cons (ss_forR 6 S.nd (passes_of rfl) rfl (sr_1 rfl T.b_range (sa_cons (se_sf (sf_callB call_lenA opl_len rfl T.b_len (by decide +kernel) (sa_cons (se_var 0) sa_nil))) sa_nil) (h1 := len_cons1)) (ss_cons (ss_if (st_cmp (op_inA hu) opd_in (se_var 6) (se_var 2) (by with_unfolding_all rfl)) (ss_one (ss_set 5 S.nd (sf_imm (se_ix rfl hu (se_var 2) (se_var 6))))) (ss_one (ss_if (st_cmp (op_eqD hu64) opd_eq (se_var 6) (se_sf sf_int) (by with_unfolding_all rfl)) (ss_one (ss_set 5 S.nd sf_non)) (ss_one (ss_if (st_cmp op_notN opd_isNn (se_var 5) (se_sf sf_non) (by with_unfolding_all rfl)) (ss_one (ss_set 5 S.nd (sf_bin op_addA opd_add (se_var 5) (se_var 1)))) ss_nil)))))
      (ss_one (ss_put 4 hu (pl_var 4) (se_ix rfl hu (se_var 0) (se_var 6)) (sf_imm (se_var 5))))))
      (ss_cons (ss_if (st_w (sw_and (st_cmp op_ge opd_bool0 (se_var 3) (se_sf sf_int) (by with_unfolding_all rfl)) (sw_and1 (st_cmp (op_notInA hu) opd_notIn (se_sf sf_int) (se_var 2) (by with_unfolding_all rfl))))) (ss_cons (ss_set 7 S.nd (sf_imm (se_ix rfl hu (se_var 4) (se_ix rfl hu (se_var 0) (se_var 3)))))
      (ss_one (ss_forR 6 S.nd (passes_of rfl) rfl (sr_1 rfl T.b_range (sa_cons (se_sf (sf_callB call_lenA opl_len rfl T.b_len (by decide +kernel) (sa_cons (se_var 0) sa_nil))) sa_nil) (h1 := len_cons1)) (ss_cons (ss_if (st_w (sw_or (st_cmp (op_inA hu) opd_in (se_var 6) (se_var 2) (by with_unfolding_all rfl)) (sw_or1 (st_cmp op_isN opd_isN (se_var 7) (se_sf sf_non) (by with_unfolding_all rfl))))) (ss_one (ss_retV 4)) ss_nil)
      (ss_one (ss_put 4 hu (pl_var 4) (se_ix rfl hu (se_var 0) (se_var 6)) (sf_bin op_addA opd_add (se_var 7) (se_sf (sf_bin op_mul opd_mul (se_var 1) (se_sf (sf_bin op_addA opd_add (se_var 6) (se_sf sf_int)))))))))))) ss_nil)
      (ss_one (ss_retV 4))))))
/-! #### _law_right -/
abbrev s_l_right : Stmt := top 40
def m_l_right : Evn → RS :=
    (mSeq (mIf (mTest (mBin gEq (mVar 5) (mC (.int 0)))) (mRet (mApp 2 f_l_values (mCons (mVar 0) (mCons (mApp 4 f_l_due (mCons (mVar 1) (mCons (mVar 2) (mCons (mVar 3) (mCons (mVar 4) mNil))))) mNil)))) mNx)
    (mSeq (mIf (mTest (mBin gEq (mVar 5) (mC (.int 1)))) (mRet (mApp 4 f_l_round (mCons (mVar 0) (mCons (mVar 1) (mCons (mVar 3) (mCons (mVar 4) mNil)))))) mNx)
    (mRet (mApp 3 f_l_touches (mCons (mVar 0) (mCons (mVar 1) (mCons (mVar 3) mNil)))))))
def f_l_right : List D → R D := runP 6 6 m_l_right
theorem sc_l_right : FnScope ["_law_sheet", "_law_row_here", "_law_step", "_law_heads", "_law_back", "_law_way"] ["_law_sheet", "_law_row_here", "_law_step", "_law_heads", "_law_back", "_law_way"] (defScope s_l_right) := ⟨rfl, rfl, rfl, by decide +kernel, rfl, by decide +kernel, by decide +kernel⟩
set_option maxHeartbeats 4000000 in
theorem ok_l_right {f : Addr} {fd : FuncData} (F : Fun K "_law_right" "_law_right" s_l_right f fd) (T : Txt K mg C cB cO cT cS) (c_l_touches : CalP P w K mg base (sheetG K C cB cO cT) "_law_touches" 45 3 f_l_touches) (c_l_round : CalP P w K mg base (sheetG K C cB cO cT) "_law_round" 46 4 f_l_round) (c_l_due : CalP P w K mg base (sheetG K C cB cO cT) "_law_due" 1 4 f_l_due) (c_l_values : CalP P w K mg base (sheetG K C cB cO cT) "_law_values" 83 2 f_l_values) : FnOk P w K mg base (L2.CX P w) 84 f fd ["_law_sheet", "_law_row_here", "_law_step", "_law_heads", "_law_back", "_law_way"] (spP (sheetG K C cB cO cT) 6 f_l_right) :=
  fnP F sc_l_right rfl (by decide) rfl fun cdv A outer s H E hr => by
    have hu := hu100 hr
    have hu64 := hu64 hr
    have S := sc_l_right
    exact (ss_cons (ss_if (st_cmp (op_eqD hu64) opd_eq (se_var 5) (se_sf sf_int) (by with_unfolding_all rfl)) (ss_one (ss_ret (sf_call c_l_values (takes_of rfl rfl rfl rfl) (hr.mono (by omega)) rfl (sa_cons (se_var 0) (sa_cons (se_sf (sf_call c_l_due (takes_of rfl rfl rfl rfl) (hr.mono (by omega)) rfl (sa_cons (se_var 1) (sa_cons (se_var 2) (sa_cons (se_var 3) (sa_cons (se_var 4) sa_nil)))))) sa_nil))))) ss_nil)
      (ss_cons (ss_if (st_cmp (op_eqD hu64) opd_eq (se_var 5) (se_sf sf_int) (by with_unfolding_all rfl)) (ss_one (ss_ret (sf_call c_l_round (takes_of rfl rfl rfl rfl) (hr.mono (by omega)) rfl (sa_cons (se_var 0) (sa_cons (se_var 1) (sa_cons (se_var 3) (sa_cons (se_var 4) sa_nil))))))) ss_nil)
      (ss_one (ss_ret (sf_call c_l_touches (takes_of rfl rfl rfl rfl) (hr.mono (by omega)) rfl (sa_cons (se_var 0) (sa_cons (se_var 1) (sa_cons (se_var 3) sa_nil))))))))
/-! #### _law_rule -/
abbrev s_l_rule : Stmt := top 35
def m_l_rule : Evn → RS :=
    (mSeq (mSet 3 (mTup (mCons (mC (.str "add")) (mCons (mTup (mCons (mC (.str "cell")) (mCons (mTup (mCons (mImm (mBinE gIx (mVar 0) (mC (.int 0)))) (mCons (mImm (mBinE gIx (mVar 0) (mC (.int 1)))) (mCons (mC (.bl false)) (mCons (mC (.bl true)) mNil))))) mNil))) (mCons (mTup (mCons (mC (.str "num")) (mCons (mImm (mVar 1)) mNil))) mNil)))))
    (mSeq (mForR 4 (mCons (mVar 2) mNil) (mSet 3 (mImm (mBinE gIx (mLst (mCons (mTup (mCons (mC (.str "add")) (mCons (mImm (mVar 3)) (mCons (mTup (mCons (mC (.str "num")) (mCons (mC (.int 0)) mNil))) mNil)))) (mCons (mTup (mCons (mC (.str "add")) (mCons (mTup (mCons (mC (.str "num")) (mCons (mC (.int 0)) mNil))) (mCons (mImm (mVar 3)) mNil)))) mNil))) (mBin gMod (mVar 4) (mC (.int 2)))))))
    (mRetV 3)))
def f_l_rule : List D → R D := runP 3 5 m_l_rule
theorem sc_l_rule : FnScope ["_law_place", "_law_step", "_law_many", "_law_rule_here", "_law_k"] ["_law_place", "_law_step", "_law_many"] (defScope s_l_rule) := ⟨rfl, rfl, rfl, by decide +kernel, rfl, by decide +kernel, by decide +kernel⟩
set_option maxHeartbeats 4000000 in
theorem ok_l_rule {f : Addr} {fd : FuncData} (F : Fun K "_law_rule" "_law_rule" s_l_rule f fd) (T : Txt K mg C cB cO cT cS) : FnOk P w K mg base (L2.CX P w) 1 f fd ["_law_place", "_law_step", "_law_many"] (spP (sheetG K C cB cO cT) 3 f_l_rule) :=
  fnP F sc_l_rule rfl (by decide) rfl fun cdv A outer s H E hr => by
    have hu := hu100 hr
    have hu64 := hu64 hr
    have S := sc_l_rule
    exact (ss_cons (ss_set 3 S.nd (sf_tup (saf_cons sf_str (saf_cons (sf_tup (saf_cons sf_str (saf_cons (sf_tup (saf_cons (sf_imm (se_ix rfl hu (se_var 0) (se_sf sf_int))) (saf_cons (sf_imm (se_ix rfl hu (se_var 0) (se_sf sf_int))) (saf_cons sf_bl (saf_cons sf_bl saf_nil))))) saf_nil))) (saf_cons (sf_tup (saf_cons sf_str (saf_cons (sf_imm (se_var 1)) saf_nil))) saf_nil)))))
      (ss_cons (ss_forR 4 S.nd (passes_of rfl) rfl (sr_1 rfl T.b_range (sa_cons (se_var 2) sa_nil) (h1 := len_cons1)) (ss_one (ss_set 3 S.nd (sf_imm (se_ix rfl hu (se_sf (sf_lst (saf_cons (sf_tup (saf_cons sf_str (saf_cons (sf_imm (se_var 3)) (saf_cons (sf_tup (saf_cons sf_str (saf_cons sf_int saf_nil))) saf_nil)))) (saf_cons (sf_tup (saf_cons sf_str (saf_cons (sf_tup (saf_cons sf_str (saf_cons sf_int saf_nil))) (saf_cons (sf_imm (se_var 3)) saf_nil)))) saf_nil)))) (se_sf (sf_bin op_mod opd_mod (se_var 4) (se_sf sf_int))))))))
      (ss_one (ss_retV 3))))
/-! #### law -/
abbrev s_law : Stmt := top 41
def m_law : Evn → RS :=
    (mSeq (mUnp 1 2 (mApp 1 f_l_sizes (mCons (mApp 2 f_l_cell_at (mCons (mVar 0) (mCons (mC (.int 0)) mNil))) mNil)))
    (mSeq (mSet 3 (mApp 2 f_l_cell_at (mCons (mVar 0) (mCons (mC (.int 1)) mNil))))
    (mSeq (mSet 4 (mApp 3 f_l_row (mCons (mVar 1) (mCons (mVar 2) (mCons (mVar 3) mNil)))))
    (mSeq (mSet 5 (mBin gAdd (mC (.int 1)) (mBin gMod (mBin gDiv (mVar 3) (mC (.int 4))) (mC (.int 9)))))
    (mSeq (mSet 6 (mBin gMod (mBin gDiv (mVar 3) (mC (.int 36))) (mC (.int 5))))
    (mSeq (mSet 7 (mBin gMod (mBin gDiv (mVar 3) (mC (.int 180))) (mC (.int 3))))
    (mSeq (mSet 8 (mMake 3 f_Sheet_init (mCons (mVar 1) (mCons (mVar 2) mNil))))
    (mSeq (mForR 9 (mCons (mC (.int 1)) (mCons (mCall gLen (mCons (mVar 4) mNil)) mNil)) (xDrop 8 (xMeth 3 f_Sh_put 8 (mCons (mBinE gIx (mVar 4) (mVar 9)) (mCons (mApp 3 f_l_rule (mCons (mBinE gIx (mVar 4) (mBin gSub (mVar 9) (mC (.int 1)))) (mCons (mVar 5) (mCons (mVar 6) mNil)))) mNil)))))
    (mSeq (mSet 10 (mUn gNeg (mC (.int 1))))
    (mSeq (mSet 11 (mD1K (mC (.int 0)) (mBin gMod (mApp 2 f_l_cell_at (mCons (mVar 0) (mCons (mC (.int 2)) mNil))) (mC (.int 1000)))))
    (mSeq (mIf (mTest (mBin gEq (mBin gMod (mBin gDiv (mVar 3) (mC (.int 540))) (mC (.int 3))) (mC (.int 1)))) (mSeq (mSet 10 (mBin gSub (mBin gSub (mCall gLen (mCons (mVar 4) mNil)) (mC (.int 1))) (mBin gMod (mApp 2 f_l_cell_at (mCons (mVar 0) (mCons (mC (.int 2)) mNil))) (mCall gLen (mCons (mVar 4) mNil)))))
    (mSeq (mSet 11 mDK)
    (xDrop 8 (xMeth 3 f_Sh_put 8 (mCons (mBinE gIx (mVar 4) (mC (.int 0))) (mCons (mApp 3 f_l_rule (mCons (mBinE gIx (mVar 4) (mVar 10)) (mCons (mVar 5) (mCons (mVar 6) mNil)))) mNil)))))) (xDrop 8 (xMeth 3 f_Sh_put 8 (mCons (mBinE gIx (mVar 4) (mC (.int 0))) (mCons (mTup (mCons (mC (.str "num")) (mCons (mImm (mBinE gIx (mVar 11) (mC (.int 0)))) mNil))) mNil)))))
    (mSeq (mIf (cNot (mTest (mApp 6 f_l_right (mCons (mVar 8) (mCons (mVar 4) (mCons (mVar 5) (mCons (mVar 11) (mCons (mVar 10) (mCons (mVar 7) mNil))))))))) (mRet (mC (.bl false))) mNx)
    (mSeq (mSet 12 (mBin gMod (mApp 2 f_l_cell_at (mCons (mVar 0) (mCons (mC (.int 3)) mNil))) (mCall gLen (mCons (mVar 4) mNil))))
    (mSeq (mPut 11 pRoot (mVar 12) (mBin gMod (mBin gDiv (mApp 2 f_l_cell_at (mCons (mVar 0) (mCons (mC (.int 3)) mNil))) (mCall gLen (mCons (mVar 4) mNil))) (mC (.int 1000))))
    (mSeq (xDrop 8 (xMeth 3 f_Sh_put 8 (mCons (mBinE gIx (mVar 4) (mVar 12)) (mCons (mTup (mCons (mC (.str "num")) (mCons (mImm (mBinE gIx (mVar 11) (mVar 12))) mNil))) mNil))))
    (mRet (mApp 6 f_l_right (mCons (mVar 8) (mCons (mVar 4) (mCons (mVar 5) (mCons (mVar 11) (mCons (mVar 10) (mCons (mVar 7) mNil)))))))))))))))))))))))
def f_law : List D → R D := runP 1 13 m_law
theorem sc_law : FnScope ["_law_script", "_law_high", "_law_wide", "_law_cell", "_law_row_here", "_law_step", "_law_many", "_law_way", "_law_sheet", "_law_k", "_law_back", "_law_heads", "_law_at"] ["_law_script"] (defScope s_law) := ⟨rfl, rfl, rfl, by decide +kernel, rfl, by decide +kernel, by decide +kernel⟩
set_option maxHeartbeats 4000000 in
theorem ok_law {f : Addr} {fd : FuncData} (F : Fun K "law" "law" s_law f fd) (T : Txt K mg C cB cO cT cS) (c_l_right : CalP P w K mg base (sheetG K C cB cO cT) "_law_right" 84 6 f_l_right) (c_Sh_put : MetM P w K mg base (sheetG K C cB cO cT) "put" 42 3 f_Sh_put) (c_l_cell_at : CalP P w K mg base (sheetG K C cB cO cT) "_law_cell_at" 1 2 f_l_cell_at) (c_l_rule : CalP P w K mg base (sheetG K C cB cO cT) "_law_rule" 1 3 f_l_rule) (c_Sheet_init : ∃ (f : Addr) (fd : FuncData) (ps : List Str), Mk K C f ∧ Binds K fd ps [] ∧ FnOk P w K mg base (L2.CX P w) 3 f fd ps (spM (sheetG K C cB cO cT) 3 f_Sheet_init)) (c_l_row : CalP P w K mg base (sheetG K C cB cO cT) "_law_row" 1 3 f_l_row) (c_l_sizes : CalP P w K mg base (sheetG K C cB cO cT) "_law_sizes" 1 1 f_l_sizes) : FnOk P w K mg base (L2.CX P w) 85 f fd ["_law_script"] (spP (sheetG K C cB cO cT) 1 f_law) :=
  fnP F sc_law rfl (by decide) rfl fun cdv A outer s H E hr => by
    have hu := hu100 hr
    have hu64 := hu64 hr
    have S := sc_law
    exact (ss_cons (ss_unp 1 2 rfl rfl S.nd (se_sf (sf_call c_l_sizes (takes_of rfl rfl rfl rfl) (hr.mono (by omega)) rfl (sa_cons (se_sf (sf_call c_l_cell_at (takes_of rfl rfl rfl rfl) (hr.mono (by omega)) rfl (sa_cons (se_var 0) (sa_cons (se_sf sf_int) sa_nil)))) sa_nil))))
      (ss_cons (ss_set 3 S.nd (sf_call c_l_cell_at (takes_of rfl rfl rfl rfl) (hr.mono (by omega)) rfl (sa_cons (se_var 0) (sa_cons (se_sf sf_int) sa_nil))))
      (ss_cons (ss_set 4 S.nd (sf_call c_l_row (takes_of rfl rfl rfl rfl) (hr.mono (by omega)) rfl (sa_cons (se_var 1) (sa_cons (se_var 2) (sa_cons (se_var 3) sa_nil)))))
      (ss_cons (ss_set 5 S.nd (sf_bin op_addA opd_add (se_sf sf_int) (se_sf (sf_bin op_mod opd_mod (se_sf (sf_bin op_fdiv opd_div (se_var 3) (se_sf sf_int))) (se_sf sf_int)))))
      (ss_cons (ss_set 6 S.nd (sf_bin op_mod opd_mod (se_sf (sf_bin op_fdiv opd_div (se_var 3) (se_sf sf_int))) (se_sf sf_int)))
      (ss_cons (ss_set 7 S.nd (sf_bin op_mod opd_mod (se_sf (sf_bin op_fdiv opd_div (se_var 3) (se_sf sf_int))) (se_sf sf_int)))
      (ss_cons (ss_set 8 S.nd (let ⟨_, _, _, hM, hb, hF⟩ := c_Sheet_init; sf_make rfl hM hF hb (takes_of rfl rfl rfl rfl) (hr.mono (by omega)) rfl T.n_Sheet (sa_cons (se_var 1) (sa_cons (se_var 2) sa_nil))))
      (ss_cons (ss_forR 9 S.nd (passes_of rfl) rfl (sr_2 rfl T.b_range (sa_cons (se_sf sf_int) (sa_cons (se_sf (sf_callB call_lenA opl_len rfl T.b_len (by decide +kernel) (sa_cons (se_var 4) sa_nil))) sa_nil)) (h1 := len_cons2)) (ss_one (ss_exprX 8 (sx_meth 8 c_Sh_put rfl T.cls (nmG (by decide +kernel)) (takes_of rfl rfl rfl rfl) (hr.mono (by omega)) (sa_cons (se_ix rfl hu (se_var 4) (se_var 9)) (sa_cons (se_sf (sf_call c_l_rule (takes_of rfl rfl rfl rfl) (hr.mono (by omega)) rfl (sa_cons (se_ix rfl hu (se_var 4) (se_sf (sf_bin op_sub opd_int0 (se_var 9) (se_sf sf_int)))) (sa_cons (se_var 5) (sa_cons (se_var 6) sa_nil))))) sa_nil))))))
      (ss_cons (ss_set 10 S.nd (sf_un un_neg und_neg (se_sf sf_int)))
      (ss_cons (ss_set 11 S.nd (sf_disp1K (se_sf sf_int) (se_sf (sf_bin op_mod opd_mod (se_sf (sf_call c_l_cell_at (takes_of rfl rfl rfl rfl) (hr.mono (by omega)) rfl (sa_cons (se_var 0) (sa_cons (se_sf sf_int) sa_nil)))) (se_sf sf_int)))))
      (ss_cons (ss_if (st_cmp (op_eqD hu64) opd_eq (se_sf (sf_bin op_mod opd_mod (se_sf (sf_bin op_fdiv opd_div (se_var 3) (se_sf sf_int))) (se_sf sf_int))) (se_sf sf_int) (by with_unfolding_all rfl)) (ss_cons (ss_set 10 S.nd (sf_bin op_sub opd_int0 (se_sf (sf_bin op_sub opd_int0 (se_sf (sf_callB call_lenA opl_len rfl T.b_len (by decide +kernel) (sa_cons (se_var 4) sa_nil))) (se_sf sf_int))) (se_sf (sf_bin op_mod opd_mod (se_sf (sf_call c_l_cell_at (takes_of rfl rfl rfl rfl) (hr.mono (by omega)) rfl (sa_cons (se_var 0) (sa_cons (se_sf sf_int) sa_nil)))) (se_sf (sf_callB call_lenA opl_len rfl T.b_len (by decide +kernel) (sa_cons (se_var 4) sa_nil)))))))
      (ss_cons (ss_set 11 S.nd sf_dK)
      (ss_one (ss_exprX 8 (sx_meth 8 c_Sh_put rfl T.cls (nmG (by decide +kernel)) (takes_of rfl rfl rfl rfl) (hr.mono (by omega)) (sa_cons (se_ix rfl hu (se_var 4) (se_sf sf_int)) (sa_cons (se_sf (sf_call c_l_rule (takes_of rfl rfl rfl rfl) (hr.mono (by omega)) rfl (sa_cons (se_ix rfl hu (se_var 4) (se_var 10)) (sa_cons (se_var 5) (sa_cons (se_var 6) sa_nil))))) sa_nil))))))) (ss_one (ss_exprX 8 (sx_meth 8 c_Sh_put rfl T.cls (nmG (by decide +kernel)) (takes_of rfl rfl rfl rfl) (hr.mono (by omega)) (sa_cons (se_ix rfl hu (se_var 4) (se_sf sf_int)) (sa_cons (se_sf (sf_tup (saf_cons sf_str (saf_cons (sf_imm (se_ix rfl hu (se_var 11) (se_sf sf_int))) saf_nil)))) sa_nil))))))
      (ss_cons (ss_if (st_not (st_val (se_sf (sf_call c_l_right (takes_of rfl rfl rfl rfl) (hr.mono (by omega)) rfl (sa_cons (se_var 8) (sa_cons (se_var 4) (sa_cons (se_var 5) (sa_cons (se_var 11) (sa_cons (se_var 10) (sa_cons (se_var 7) sa_nil)))))))))) (ss_one (ss_ret sf_bl)) ss_nil)
      (ss_cons (ss_set 12 S.nd (sf_bin op_mod opd_mod (se_sf (sf_call c_l_cell_at (takes_of rfl rfl rfl rfl) (hr.mono (by omega)) rfl (sa_cons (se_var 0) (sa_cons (se_sf sf_int) sa_nil)))) (se_sf (sf_callB call_lenA opl_len rfl T.b_len (by decide +kernel) (sa_cons (se_var 4) sa_nil)))))
      (ss_cons (ss_put 11 hu (pl_var 11) (se_var 12) (sf_bin op_mod opd_mod (se_sf (sf_bin op_fdiv opd_div (se_sf (sf_call c_l_cell_at (takes_of rfl rfl rfl rfl) (hr.mono (by omega)) rfl (sa_cons (se_var 0) (sa_cons (se_sf sf_int) sa_nil)))) (se_sf (sf_callB call_lenA opl_len rfl T.b_len (by decide +kernel) (sa_cons (se_var 4) sa_nil))))) (se_sf sf_int)))
      (ss_cons (ss_exprX 8 (sx_meth 8 c_Sh_put rfl T.cls (nmG (by decide +kernel)) (takes_of rfl rfl rfl rfl) (hr.mono (by omega)) (sa_cons (se_ix rfl hu (se_var 4) (se_var 12)) (sa_cons (se_sf (sf_tup (saf_cons sf_str (saf_cons (sf_imm (se_ix rfl hu (se_var 11) (se_var 12))) saf_nil)))) sa_nil))))
      (ss_one (ss_ret (sf_call c_l_right (takes_of rfl rfl rfl rfl) (hr.mono (by omega)) rfl (sa_cons (se_var 8) (sa_cons (se_var 4) (sa_cons (se_var 5) (sa_cons (se_var 11) (sa_cons (se_var 10) (sa_cons (se_var 7) sa_nil))))))))))))))))))))))))
set_option maxHeartbeats 4000000 in
theorem all_mk {l : PySem.W.OpenLaw} {w : World} {K : PySem.W.Frag} {h : Heap} {mg : Str → Option Value} {fa f1 f2 f3 f4 f5 f6 f7 f8 f9 f10 f11 f12 f13 f14 f15 f16 f17 f18 f19 f20 f21 f22 f23 f24 f25 f26 f27 f28 f29 f30 f31 f32 C cB cO cT cS : Addr} (X : K.In h) (G : h.Ns mainGlobals mg) (hfa : mg "law" = some (.ref fa))
    {od1 an1 od2 an2 od3 an3 od4 an4 od5 an5 od6 an6 od7 an7 od8 an8 od9 an9 od10 an10 od11 an11 od12 an12 od13 an13 od14 an14 od15 an15 od16 an16 od17 an17 od18 an18 od19 an19 od20 an20 od21 an21 od22 an22 od23 an23 od24 an24 od25 an25 od26 an26 od27 an27 od28 an28 od29 an29 od30 an30 od31 an31 od32 an32 : Option Addr} {sl1 sl2 sl3 sl4 sl5 sl6 sl7 sl8 sl9 sl10 sl11 sl12 sl13 sl14 sl15 sl16 sl17 sl18 sl19 sl20 sl21 sl22 sl23 sl24 sl25 sl26 sl27 sl28 sl29 sl30 sl31 sl32 : Array (Option Value)}
    {oc1 kV1 dc1 pm1 cd1 ct1 oc2 kV2 dc2 pm2 cd2 ct2 oc3 kV3 dc3 pm3 cd3 ct3 oc4 kV4 dc4 pm4 cd4 ct4 oc5 kV5 dc5 pm5 cd5 ct5 oc6 kV6 dc6 pm6 cd6 ct6 oc7 kV7 dc7 pm7 cd7 ct7 oc8 kV8 dc8 pm8 cd8 ct8 oc9 kV9 dc9 pm9 cd9 ct9 oc10 kV10 dc10 pm10 cd10 ct10 oc11 kV11 dc11 pm11 cd11 ct11 oc12 kV12 dc12 pm12 cd12 ct12 oc13 kV13 dc13 pm13 cd13 ct13 oc14 kV14 dc14 pm14 cd14 ct14 oc15 kV15 dc15 pm15 cd15 ct15 oc16 kV16 dc16 pm16 cd16 ct16 oc17 kV17 dc17 pm17 cd17 ct17 oc18 kV18 dc18 pm18 cd18 ct18 oc19 kV19 dc19 pm19 cd19 ct19 oc20 kV20 dc20 pm20 cd20 ct20 oc21 kV21 dc21 pm21 cd21 ct21 oc22 kV22 dc22 pm22 cd22 ct22 oc23 kV23 dc23 pm23 cd23 ct23 oc24 kV24 dc24 pm24 cd24 ct24 oc25 kV25 dc25 pm25 cd25 ct25 oc26 kV26 dc26 pm26 cd26 ct26 oc27 kV27 dc27 pm27 cd27 ct27 oc28 kV28 dc28 pm28 cd28 ct28 oc29 kV29 dc29 pm29 cd29 ct29 oc30 kV30 dc30 pm30 cd30 ct30 oc31 kV31 dc31 pm31 cd31 ct31 oc32 kV32 dc32 pm32 cd32 ct32 : Value} {t_DEEPEST t_MOST t_ROUND : Tok}
    (aC : PySem.W.nsIn K mainGlobals "Sheet" = some (some (.ref C)))
    (pg : PySem.W.plainGet K C Str.empty = true)
    (hd : PySem.W.hasDictIn K C = true)
    (po : PySem.W.plainOver K C = true)
    (sa : PySem.W.findIn K (.ref C) "__setattr__" = some (some (.builtin "object.__setattr__")))
    (mk : PySem.W.makesIn K C = true)
    (kc : PySem.W.keepIn K (.ref C) = true)
    (n_high : PySem.W.findIn K (.ref C) "high" = some none)
    (n_wide : PySem.W.findIn K (.ref C) "wide" = some none)
    (n_kept : PySem.W.findIn K (.ref C) "kept" = some none)
    (g_BadSize : PySem.W.nsIn K mainGlobals "BadSize" = some (some (.ref cB)))
    (g_OffSheet : PySem.W.nsIn K mainGlobals "OffSheet" = some (some (.ref cO)))
    (g_TooDeep : PySem.W.nsIn K mainGlobals "TooDeep" = some (some (.ref cT)))
    (g_SheetError : PySem.W.nsIn K mainGlobals "SheetError" = some (some (.ref cS)))
    (x_BadSize : PySem.W.excIn K cB [.type "ValueError", .type "Exception", .type "BaseException", .type "object"] "ValueError.__new__" = true)
    (k_BadSize : PySem.W.keepIn K (.ref cB) = true)
    (r_BadSize : PySem.W.subIn K (.ref cB) (.type "BaseException") = some true)
    (t_BadSize : PySem.W.typeIn K (.ref cB) = some (.type "type"))
    (x_OffSheet : PySem.W.excIn K cO [.type "ValueError", .type "Exception", .type "BaseException", .type "object"] "ValueError.__new__" = true)
    (k_OffSheet : PySem.W.keepIn K (.ref cO) = true)
    (r_OffSheet : PySem.W.subIn K (.ref cO) (.type "BaseException") = some true)
    (t_OffSheet : PySem.W.typeIn K (.ref cO) = some (.type "type"))
    (x_TooDeep : PySem.W.excIn K cT [.type "ValueError", .type "Exception", .type "BaseException", .type "object"] "ValueError.__new__" = true)
    (k_TooDeep : PySem.W.keepIn K (.ref cT) = true)
    (r_TooDeep : PySem.W.subIn K (.ref cT) (.type "BaseException") = some true)
    (t_TooDeep : PySem.W.typeIn K (.ref cT) = some (.type "type"))
    (a1 : PySem.W.nsIn K mainGlobals "_law_sizes" = some (some (.ref f1)))
    (l1 : K.lookup f1 = some ⟨oc1, od1, .func (PySem.W.fnOf "_law_sizes" "_law_sizes" (defArgs s_l_sizes) (defBody s_l_sizes) (defScope s_l_sizes) .none kV1 dc1 pm1 an1 cd1 ct1), sl1⟩)
    (c1 : PySem.W.codeIn K cd1 "_law_sizes" = true)
    (k1 : PySem.W.keepIn K (.ref f1) = true)
    (a2 : PySem.W.nsIn K mainGlobals "_law_cell_at" = some (some (.ref f2)))
    (l2 : K.lookup f2 = some ⟨oc2, od2, .func (PySem.W.fnOf "_law_cell_at" "_law_cell_at" (defArgs s_l_cell_at) (defBody s_l_cell_at) (defScope s_l_cell_at) .none kV2 dc2 pm2 an2 cd2 ct2), sl2⟩)
    (c2 : PySem.W.codeIn K cd2 "_law_cell_at" = true)
    (k2 : PySem.W.keepIn K (.ref f2) = true)
    (a3 : PySem.W.nsIn K mainGlobals "_law_row" = some (some (.ref f3)))
    (l3 : K.lookup f3 = some ⟨oc3, od3, .func (PySem.W.fnOf "_law_row" "_law_row" (defArgs s_l_row) (defBody s_l_row) (defScope s_l_row) .none kV3 dc3 pm3 an3 cd3 ct3), sl3⟩)
    (c3 : PySem.W.codeIn K cd3 "_law_row" = true)
    (k3 : PySem.W.keepIn K (.ref f3) = true)
    (a4 : PySem.W.nsIn K mainGlobals "area" = some (some (.ref f4)))
    (l4 : K.lookup f4 = some ⟨oc4, od4, .func (PySem.W.fnOf "area" "area" (defArgs s_area) (defBody s_area) (defScope s_area) .none kV4 dc4 pm4 an4 cd4 ct4), sl4⟩)
    (c4 : PySem.W.codeIn K cd4 "area" = true)
    (k4 : PySem.W.keepIn K (.ref f4) = true)
    (a5 : PySem.W.findIn K (.ref C) "places" = some (some (.ref f5)))
    (i5 : PySem.W.isFn K (.ref f5) = true)
    (l5 : K.lookup f5 = some ⟨oc5, od5, .func (PySem.W.fnOf "places" "Sheet.places" (defArgs s_Sh_places) (defBody s_Sh_places) (defScope s_Sh_places) .none kV5 dc5 pm5 an5 cd5 ct5), sl5⟩)
    (c5 : PySem.W.codeIn K cd5 "Sheet.places" = true)
    (k5 : PySem.W.keepIn K (.ref f5) = true)
    (a6 : PySem.W.findIn K (.ref C) "__init__" = some (some (.ref f6)))
    (i6 : PySem.W.isFn K (.ref f6) = true)
    (l6 : K.lookup f6 = some ⟨oc6, od6, .func (PySem.W.fnOf "__init__" "Sheet.__init__" (defArgs s_Sheet_init) (defBody s_Sheet_init) (defScope s_Sheet_init) .none kV6 dc6 pm6 an6 cd6 ct6), sl6⟩)
    (c6 : PySem.W.codeIn K cd6 "Sheet.__init__" = true)
    (k6 : PySem.W.keepIn K (.ref f6) = true)
    (a7 : PySem.W.findIn K (.ref C) "has" = some (some (.ref f7)))
    (i7 : PySem.W.isFn K (.ref f7) = true)
    (l7 : K.lookup f7 = some ⟨oc7, od7, .func (PySem.W.fnOf "has" "Sheet.has" (defArgs s_Sh_has) (defBody s_Sh_has) (defScope s_Sh_has) .none kV7 dc7 pm7 an7 cd7 ct7), sl7⟩)
    (c7 : PySem.W.codeIn K cd7 "Sheet.has" = true)
    (k7 : PySem.W.keepIn K (.ref f7) = true)
    (a8 : PySem.W.findIn K (.ref C) "need" = some (some (.ref f8)))
    (i8 : PySem.W.isFn K (.ref f8) = true)
    (l8 : K.lookup f8 = some ⟨oc8, od8, .func (PySem.W.fnOf "need" "Sheet.need" (defArgs s_Sh_need) (defBody s_Sh_need) (defScope s_Sh_need) .none kV8 dc8 pm8 an8 cd8 ct8), sl8⟩)
    (c8 : PySem.W.codeIn K cd8 "Sheet.need" = true)
    (k8 : PySem.W.keepIn K (.ref f8) = true)
    (a9 : PySem.W.nsIn K mainGlobals "inner" = some (some (.ref f9)))
    (l9 : K.lookup f9 = some ⟨oc9, od9, .func (PySem.W.fnOf "inner" "inner" (defArgs s_inner) (defBody s_inner) (defScope s_inner) .none kV9 dc9 pm9 an9 cd9 ct9), sl9⟩)
    (c9 : PySem.W.codeIn K cd9 "inner" = true)
    (k9 : PySem.W.keepIn K (.ref f9) = true)
    (a10 : PySem.W.nsIn K mainGlobals "deep" = some (some (.ref f10)))
    (l10 : K.lookup f10 = some ⟨oc10, od10, .func (PySem.W.fnOf "deep" "deep" (defArgs s_deep) (defBody s_deep) (defScope s_deep) .none kV10 dc10 pm10 an10 cd10 ct10), sl10⟩)
    (c10 : PySem.W.codeIn K cd10 "deep" = true)
    (k10 : PySem.W.keepIn K (.ref f10) = true)
    (a11 : PySem.W.nsIn K mainGlobals "references" = some (some (.ref f11)))
    (l11 : K.lookup f11 = some ⟨oc11, od11, .func (PySem.W.fnOf "references" "references" (defArgs s_references) (defBody s_references) (defScope s_references) .none kV11 dc11 pm11 an11 cd11 ct11), sl11⟩)
    (c11 : PySem.W.codeIn K cd11 "references" = true)
    (k11 : PySem.W.keepIn K (.ref f11) = true)
    (a12 : PySem.W.nsIn K mainGlobals "all_references" = some (some (.ref f12)))
    (l12 : K.lookup f12 = some ⟨oc12, od12, .func (PySem.W.fnOf "all_references" "all_references" (defArgs s_all_references) (defBody s_all_references) (defScope s_all_references) .none kV12 dc12 pm12 an12 cd12 ct12), sl12⟩)
    (c12 : PySem.W.codeIn K cd12 "all_references" = true)
    (k12 : PySem.W.keepIn K (.ref f12) = true)
    (a13 : PySem.W.findIn K (.ref C) "put" = some (some (.ref f13)))
    (i13 : PySem.W.isFn K (.ref f13) = true)
    (l13 : K.lookup f13 = some ⟨oc13, od13, .func (PySem.W.fnOf "put" "Sheet.put" (defArgs s_Sh_put) (defBody s_Sh_put) (defScope s_Sh_put) .none kV13 dc13 pm13 an13 cd13 ct13), sl13⟩)
    (c13 : PySem.W.codeIn K cd13 "Sheet.put" = true)
    (k13 : PySem.W.keepIn K (.ref f13) = true)
    (a14 : PySem.W.findIn K (.ref C) "rule" = some (some (.ref f14)))
    (i14 : PySem.W.isFn K (.ref f14) = true)
    (l14 : K.lookup f14 = some ⟨oc14, od14, .func (PySem.W.fnOf "rule" "Sheet.rule" (defArgs s_Sh_rule) (defBody s_Sh_rule) (defScope s_Sh_rule) .none kV14 dc14 pm14 an14 cd14 ct14), sl14⟩)
    (c14 : PySem.W.codeIn K cd14 "Sheet.rule" = true)
    (k14 : PySem.W.keepIn K (.ref f14) = true)
    (a15 : PySem.W.nsIn K mainGlobals "named" = some (some (.ref f15)))
    (l15 : K.lookup f15 = some ⟨oc15, od15, .func (PySem.W.fnOf "named" "named" (defArgs s_named) (defBody s_named) (defScope s_named) .none kV15 dc15 pm15 an15 cd15 ct15), sl15⟩)
    (c15 : PySem.W.codeIn K cd15 "named" = true)
    (k15 : PySem.W.keepIn K (.ref f15) = true)
    (a16 : PySem.W.nsIn K mainGlobals "needed" = some (some (.ref f16)))
    (l16 : K.lookup f16 = some ⟨oc16, od16, .func (PySem.W.fnOf "needed" "needed" (defArgs s_needed) (defBody s_needed) (defScope s_needed) .none kV16 dc16 pm16 an16 cd16 ct16), sl16⟩)
    (c16 : PySem.W.codeIn K cd16 "needed" = true)
    (k16 : PySem.W.keepIn K (.ref f16) = true)
    (a17 : PySem.W.nsIn K mainGlobals "users_of" = some (some (.ref f17)))
    (l17 : K.lookup f17 = some ⟨oc17, od17, .func (PySem.W.fnOf "users_of" "users_of" (defArgs s_users_of) (defBody s_users_of) (defScope s_users_of) .none kV17 dc17 pm17 an17 cd17 ct17), sl17⟩)
    (c17 : PySem.W.codeIn K cd17 "users_of" = true)
    (k17 : PySem.W.keepIn K (.ref f17) = true)
    (a18 : PySem.W.nsIn K mainGlobals "touched" = some (some (.ref f18)))
    (l18 : K.lookup f18 = some ⟨oc18, od18, .func (PySem.W.fnOf "touched" "touched" (defArgs s_touched) (defBody s_touched) (defScope s_touched) .none kV18 dc18 pm18 an18 cd18 ct18), sl18⟩)
    (c18 : PySem.W.codeIn K cd18 "touched" = true)
    (k18 : PySem.W.keepIn K (.ref f18) = true)
    (a19 : PySem.W.nsIn K mainGlobals "_law_touches" = some (some (.ref f19)))
    (l19 : K.lookup f19 = some ⟨oc19, od19, .func (PySem.W.fnOf "_law_touches" "_law_touches" (defArgs s_l_touches) (defBody s_l_touches) (defScope s_l_touches) .none kV19 dc19 pm19 an19 cd19 ct19), sl19⟩)
    (c19 : PySem.W.codeIn K cd19 "_law_touches" = true)
    (k19 : PySem.W.keepIn K (.ref f19) = true)
    (a20 : PySem.W.nsIn K mainGlobals "needs_of" = some (some (.ref f20)))
    (l20 : K.lookup f20 = some ⟨oc20, od20, .func (PySem.W.fnOf "needs_of" "needs_of" (defArgs s_needs_of) (defBody s_needs_of) (defScope s_needs_of) .none kV20 dc20 pm20 an20 cd20 ct20), sl20⟩)
    (c20 : PySem.W.codeIn K cd20 "needs_of" = true)
    (k20 : PySem.W.keepIn K (.ref f20) = true)
    (a21 : PySem.W.nsIn K mainGlobals "settled" = some (some (.ref f21)))
    (l21 : K.lookup f21 = some ⟨oc21, od21, .func (PySem.W.fnOf "settled" "settled" (defArgs s_settled) (defBody s_settled) (defScope s_settled) .none kV21 dc21 pm21 an21 cd21 ct21), sl21⟩)
    (c21 : PySem.W.codeIn K cd21 "settled" = true)
    (k21 : PySem.W.keepIn K (.ref f21) = true)
    (a22 : PySem.W.nsIn K mainGlobals "joined" = some (some (.ref f22)))
    (l22 : K.lookup f22 = some ⟨oc22, od22, .func (PySem.W.fnOf "joined" "joined" (defArgs s_joined) (defBody s_joined) (defScope s_joined) .none kV22 dc22 pm22 an22 cd22 ct22), sl22⟩)
    (c22 : PySem.W.codeIn K cd22 "joined" = true)
    (k22 : PySem.W.keepIn K (.ref f22) = true)
    (a23 : PySem.W.nsIn K mainGlobals "looked" = some (some (.ref f23)))
    (l23 : K.lookup f23 = some ⟨oc23, od23, .func (PySem.W.fnOf "looked" "looked" (defArgs s_looked) (defBody s_looked) (defScope s_looked) .none kV23 dc23 pm23 an23 cd23 ct23), sl23⟩)
    (c23 : PySem.W.codeIn K cd23 "looked" = true)
    (k23 : PySem.W.keepIn K (.ref f23) = true)
    (a24 : PySem.W.nsIn K mainGlobals "told" = some (some (.ref f24)))
    (l24 : K.lookup f24 = some ⟨oc24, od24, .func (PySem.W.fnOf "told" "told" (defArgs s_told) (defBody s_told) (defScope s_told) .none kV24 dc24 pm24 an24 cd24 ct24), sl24⟩)
    (c24 : PySem.W.codeIn K cd24 "told" = true)
    (k24 : PySem.W.keepIn K (.ref f24) = true)
    (a25 : PySem.W.nsIn K mainGlobals "reckoned" = some (some (.ref f25)))
    (l25 : K.lookup f25 = some ⟨oc25, od25, .func (PySem.W.fnOf "reckoned" "reckoned" (defArgs s_reckoned) (defBody s_reckoned) (defScope s_reckoned) .none kV25 dc25 pm25 an25 cd25 ct25), sl25⟩)
    (c25 : PySem.W.codeIn K cd25 "reckoned" = true)
    (k25 : PySem.W.keepIn K (.ref f25) = true)
    (a26 : PySem.W.nsIn K mainGlobals "_law_values" = some (some (.ref f26)))
    (l26 : K.lookup f26 = some ⟨oc26, od26, .func (PySem.W.fnOf "_law_values" "_law_values" (defArgs s_l_values) (defBody s_l_values) (defScope s_l_values) .none kV26 dc26 pm26 an26 cd26 ct26), sl26⟩)
    (c26 : PySem.W.codeIn K cd26 "_law_values" = true)
    (k26 : PySem.W.keepIn K (.ref f26) = true)
    (a27 : PySem.W.nsIn K mainGlobals "ring" = some (some (.ref f27)))
    (l27 : K.lookup f27 = some ⟨oc27, od27, .func (PySem.W.fnOf "ring" "ring" (defArgs s_ring) (defBody s_ring) (defScope s_ring) .none kV27 dc27 pm27 an27 cd27 ct27), sl27⟩)
    (c27 : PySem.W.codeIn K cd27 "ring" = true)
    (k27 : PySem.W.keepIn K (.ref f27) = true)
    (a28 : PySem.W.nsIn K mainGlobals "_law_round" = some (some (.ref f28)))
    (l28 : K.lookup f28 = some ⟨oc28, od28, .func (PySem.W.fnOf "_law_round" "_law_round" (defArgs s_l_round) (defBody s_l_round) (defScope s_l_round) .none kV28 dc28 pm28 an28 cd28 ct28), sl28⟩)
    (c28 : PySem.W.codeIn K cd28 "_law_round" = true)
    (k28 : PySem.W.keepIn K (.ref f28) = true)
    (a29 : PySem.W.nsIn K mainGlobals "_law_due" = some (some (.ref f29)))
    (l29 : K.lookup f29 = some ⟨oc29, od29, .func (PySem.W.fnOf "_law_due" "_law_due" (defArgs s_l_due) (defBody s_l_due) (defScope s_l_due) .none kV29 dc29 pm29 an29 cd29 ct29), sl29⟩)
    (c29 : PySem.W.codeIn K cd29 "_law_due" = true)
    (k29 : PySem.W.keepIn K (.ref f29) = true)
    (a30 : PySem.W.nsIn K mainGlobals "_law_right" = some (some (.ref f30)))
    (l30 : K.lookup f30 = some ⟨oc30, od30, .func (PySem.W.fnOf "_law_right" "_law_right" (defArgs s_l_right) (defBody s_l_right) (defScope s_l_right) .none kV30 dc30 pm30 an30 cd30 ct30), sl30⟩)
    (c30 : PySem.W.codeIn K cd30 "_law_right" = true)
    (k30 : PySem.W.keepIn K (.ref f30) = true)
    (a31 : PySem.W.nsIn K mainGlobals "_law_rule" = some (some (.ref f31)))
    (l31 : K.lookup f31 = some ⟨oc31, od31, .func (PySem.W.fnOf "_law_rule" "_law_rule" (defArgs s_l_rule) (defBody s_l_rule) (defScope s_l_rule) .none kV31 dc31 pm31 an31 cd31 ct31), sl31⟩)
    (c31 : PySem.W.codeIn K cd31 "_law_rule" = true)
    (k31 : PySem.W.keepIn K (.ref f31) = true)
    (a32 : PySem.W.nsIn K mainGlobals "law" = some (some (.ref f32)))
    (l32 : K.lookup f32 = some ⟨oc32, od32, .func (PySem.W.fnOf "law" "law" (defArgs s_law) (defBody s_law) (defScope s_law) .none kV32 dc32 pm32 an32 cd32 ct32), sl32⟩)
    (c32 : PySem.W.codeIn K cd32 "law" = true)
    (k32 : PySem.W.keepIn K (.ref f32) = true)
    (z_bool : PySem.W.nsIn K mainGlobals "bool" = some none)
    (z_isinstance : PySem.W.nsIn K mainGlobals "isinstance" = some none)
    (z_len : PySem.W.nsIn K mainGlobals "len" = some none)
    (z_list : PySem.W.nsIn K mainGlobals "list" = some none)
    (z_max : PySem.W.nsIn K mainGlobals "max" = some none)
    (z_min : PySem.W.nsIn K mainGlobals "min" = some none)
    (z_range : PySem.W.nsIn K mainGlobals "range" = some none)
    (z_sorted : PySem.W.nsIn K mainGlobals "sorted" = some none)
    (z_sum : PySem.W.nsIn K mainGlobals "sum" = some none)
    (z_DEEPEST : PySem.W.nsIn K mainGlobals "DEEPEST" = some (some (.int 8 t_DEEPEST)))
    (z_MOST : PySem.W.nsIn K mainGlobals "MOST" = some (some (.int 12 t_MOST)))
    (z_ROUND : PySem.W.nsIn K mainGlobals "ROUND" = some (some (.int 1000000000 t_ROUND)))
    (law : ∀ ns : List Int, ns.length ≤ 63 → f_law [.node .fls (ns.map D.int)] = .ok (.bl true)) :
    ∃ fd : FuncData, (∀ (s : Shared) (u : Value), BindsTo s fd ⟨[u], []⟩ [("_law_script", u)]) ∧ ∀ base : Heap, K.In base → base.Ns mainGlobals mg → FnOk l.prog w K mg base (L2.CX l.prog w) 85 fa fd ["_law_script"] (spL K) := by
  have e := hfa.symm.trans (PySem.W.mg_of X G a32)
  cases e
  have TC : ClsG (sheetG K C cB cO cT) := sheet_cls ⟨pg, hd, po, sa⟩ n_high n_wide n_kept
  have T : Txt K mg C cB cO cT cS := ⟨TC, PySem.W.mg_of X G aC, PySem.W.mg_of X G g_BadSize, PySem.W.mg_of X G g_OffSheet, PySem.W.mg_of X G g_TooDeep, x_BadSize, k_BadSize, r_BadSize, t_BadSize, x_OffSheet, k_OffSheet, r_OffSheet, t_OffSheet, x_TooDeep, k_TooDeep, r_TooDeep, t_TooDeep, PySem.W.mg_none_of X G z_bool, PySem.W.mg_none_of X G z_isinstance, PySem.W.mg_none_of X G z_len, PySem.W.mg_none_of X G z_list, PySem.W.mg_none_of X G z_max, PySem.W.mg_none_of X G z_min, PySem.W.mg_none_of X G z_range, PySem.W.mg_none_of X G z_sorted, PySem.W.mg_none_of X G z_sum, ⟨_, PySem.W.mg_of X G z_DEEPEST⟩, ⟨_, PySem.W.mg_of X G z_MOST⟩, ⟨_, PySem.W.mg_of X G z_ROUND⟩⟩
  have F1 := fun_mk (st := s_l_sizes) l1 c1 k1
  have b1 := F1.binds (ps := ["_law_cell"]) fun _ _ _ _ _ _ us hl => match us, hl with | [_], _ => rfl
  have F2 := fun_mk (st := s_l_cell_at) l2 c2 k2
  have b2 := F2.binds (ps := ["_law_script", "_law_k"]) fun _ _ _ _ _ _ us hl => match us, hl with | [_, _], _ => rfl
  have F3 := fun_mk (st := s_l_row) l3 c3 k3
  have b3 := F3.binds (ps := ["_law_high", "_law_wide", "_law_cell"]) fun _ _ _ _ _ _ us hl => match us, hl with | [_, _, _], _ => rfl
  have F4 := fun_mk (st := s_area) l4 c4 k4
  have b4 := F4.binds (ps := ["one", "two"]) fun _ _ _ _ _ _ us hl => match us, hl with | [_, _], _ => rfl
  have F5 := fun_mk (st := s_Sh_places) l5 c5 k5
  have b5 := F5.binds (ps := ["self"]) fun _ _ _ _ _ _ us hl => match us, hl with | [_], _ => rfl
  have F6 := fun_mk (st := s_Sheet_init) l6 c6 k6
  have b6 := F6.binds (ps := ["self", "high", "wide"]) fun _ _ _ _ _ _ us hl => match us, hl with | [_, _, _], _ => rfl
  have F7 := fun_mk (st := s_Sh_has) l7 c7 k7
  have b7 := F7.binds (ps := ["self", "place"]) fun _ _ _ _ _ _ us hl => match us, hl with | [_, _], _ => rfl
  have F8 := fun_mk (st := s_Sh_need) l8 c8 k8
  have b8 := F8.binds (ps := ["self", "places"]) fun _ _ _ _ _ _ us hl => match us, hl with | [_, _], _ => rfl
  have F9 := fun_mk (st := s_inner) l9 c9 k9
  have b9 := F9.binds (ps := ["rule"]) fun _ _ _ _ _ _ us hl => match us, hl with | [_], _ => rfl
  have F10 := fun_mk (st := s_deep) l10 c10 k10
  have b10 := F10.binds (ps := ["rule"]) fun _ _ _ _ _ _ us hl => match us, hl with | [_], _ => rfl
  have F11 := fun_mk (st := s_references) l11 c11 k11
  have b11 := F11.binds (ps := ["rule"]) fun _ _ _ _ _ _ us hl => match us, hl with | [_], _ => rfl
  have F12 := fun_mk (st := s_all_references) l12 c12 k12
  have b12 := F12.binds (ps := ["rule"]) fun _ _ _ _ _ _ us hl => match us, hl with | [_], _ => rfl
  have F13 := fun_mk (st := s_Sh_put) l13 c13 k13
  have b13 := F13.binds (ps := ["self", "place", "rule"]) fun _ _ _ _ _ _ us hl => match us, hl with | [_, _, _], _ => rfl
  have F14 := fun_mk (st := s_Sh_rule) l14 c14 k14
  have b14 := F14.binds (ps := ["self", "place"]) fun _ _ _ _ _ _ us hl => match us, hl with | [_, _], _ => rfl
  have F15 := fun_mk (st := s_named) l15 c15 k15
  have b15 := F15.binds (ps := ["rule"]) fun _ _ _ _ _ _ us hl => match us, hl with | [_], _ => rfl
  have F16 := fun_mk (st := s_needed) l16 c16 k16
  have b16 := F16.binds (ps := ["rule"]) fun _ _ _ _ _ _ us hl => match us, hl with | [_], _ => rfl
  have F17 := fun_mk (st := s_users_of) l17 c17 k17
  have b17 := F17.binds (ps := ["sheet"]) fun _ _ _ _ _ _ us hl => match us, hl with | [_], _ => rfl
  have F18 := fun_mk (st := s_touched) l18 c18 k18
  have b18 := F18.binds (ps := ["sheet", "place"]) fun _ _ _ _ _ _ us hl => match us, hl with | [_, _], _ => rfl
  have F19 := fun_mk (st := s_l_touches) l19 c19 k19
  have b19 := F19.binds (ps := ["_law_sheet", "_law_row_here", "_law_heads"]) fun _ _ _ _ _ _ us hl => match us, hl with | [_, _, _], _ => rfl
  have F20 := fun_mk (st := s_needs_of) l20 c20 k20
  have b20 := F20.binds (ps := ["sheet"]) fun _ _ _ _ _ _ us hl => match us, hl with | [_], _ => rfl
  have F21 := fun_mk (st := s_settled) l21 c21 k21
  have b21 := F21.binds (ps := ["sheet"]) fun _ _ _ _ _ _ us hl => match us, hl with | [_], _ => rfl
  have F22 := fun_mk (st := s_joined) l22 c22 k22
  have b22 := F22.binds (ps := ["word", "one", "two"]) fun _ _ _ _ _ _ us hl => match us, hl with | [_, _, _], _ => rfl
  have F23 := fun_mk (st := s_looked) l23 c23 k23
  have b23 := F23.binds (ps := ["rule", "known"]) fun _ _ _ _ _ _ us hl => match us, hl with | [_, _], _ => rfl
  have F24 := fun_mk (st := s_told) l24 c24 k24
  have b24 := F24.binds (ps := ["rule", "known"]) fun _ _ _ _ _ _ us hl => match us, hl with | [_, _], _ => rfl
  have F25 := fun_mk (st := s_reckoned) l25 c25 k25
  have b25 := F25.binds (ps := ["sheet"]) fun _ _ _ _ _ _ us hl => match us, hl with | [_], _ => rfl
  have F26 := fun_mk (st := s_l_values) l26 c26 k26
  have b26 := F26.binds (ps := ["_law_sheet", "_law_due_here"]) fun _ _ _ _ _ _ us hl => match us, hl with | [_, _], _ => rfl
  have F27 := fun_mk (st := s_ring) l27 c27 k27
  have b27 := F27.binds (ps := ["sheet"]) fun _ _ _ _ _ _ us hl => match us, hl with | [_], _ => rfl
  have F28 := fun_mk (st := s_l_round) l28 c28 k28
  have b28 := F28.binds (ps := ["_law_sheet", "_law_row_here", "_law_heads", "_law_back"]) fun _ _ _ _ _ _ us hl => match us, hl with | [_, _, _, _], _ => rfl
  have F29 := fun_mk (st := s_l_due) l29 c29 k29
  have b29 := F29.binds (ps := ["_law_row_here", "_law_step", "_law_heads", "_law_back"]) fun _ _ _ _ _ _ us hl => match us, hl with | [_, _, _, _], _ => rfl
  have F30 := fun_mk (st := s_l_right) l30 c30 k30
  have b30 := F30.binds (ps := ["_law_sheet", "_law_row_here", "_law_step", "_law_heads", "_law_back", "_law_way"]) fun _ _ _ _ _ _ us hl => match us, hl with | [_, _, _, _, _, _], _ => rfl
  have F31 := fun_mk (st := s_l_rule) l31 c31 k31
  have b31 := F31.binds (ps := ["_law_place", "_law_step", "_law_many"]) fun _ _ _ _ _ _ us hl => match us, hl with | [_, _, _], _ => rfl
  have F32 := fun_mk (st := s_law) l32 c32 k32
  have b32 := F32.binds (ps := ["_law_script"]) fun _ _ _ _ _ _ us hl => match us, hl with | [_], _ => rfl
  refine ⟨PySem.W.fnOf "law" "law" (defArgs s_law) (defBody s_law) (defScope s_law) .none kV32 dc32 pm32 an32 cd32 ct32, fun s v => .of_eq rfl, fun base _ _ => ?_⟩
  have C_l_sizes : CalP l.prog w K mg base (sheetG K C cB cO cT) "_law_sizes" 1 1 f_l_sizes := ⟨f1, _, _, PySem.W.mg_of X G a1, k1, b1, ok_l_sizes F1 T ⟩
  have C_l_cell_at : CalP l.prog w K mg base (sheetG K C cB cO cT) "_law_cell_at" 1 2 f_l_cell_at := ⟨f2, _, _, PySem.W.mg_of X G a2, k2, b2, ok_l_cell_at F2 T ⟩
  have C_l_row : CalP l.prog w K mg base (sheetG K C cB cO cT) "_law_row" 1 3 f_l_row := ⟨f3, _, _, PySem.W.mg_of X G a3, k3, b3, ok_l_row F3 T ⟩
  have C_area : CalP l.prog w K mg base (sheetG K C cB cO cT) "area" 1 2 f_area := ⟨f4, _, _, PySem.W.mg_of X G a4, k4, b4, ok_area F4 T ⟩
  have C_Sh_places : MetP l.prog w K mg base (sheetG K C cB cO cT) "places" 2 1 f_Sh_places := ⟨f5, _, _, ⟨a5, i5, k5⟩, b5, ok_Sh_places F5 T C_area⟩
  have C_Sheet_init : ∃ (f : Addr) (fd : FuncData) (ps : List Str), Mk K C f ∧ Binds K fd ps [] ∧ FnOk l.prog w K mg base (L2.CX l.prog w) 3 f fd ps (spM (sheetG K C cB cO cT) 3 f_Sheet_init) := ⟨f6, _, _, ⟨mk, a6, i6, kc⟩, b6, ok_Sheet_init F6 T C_Sh_places⟩
  have C_Sh_has : MetP l.prog w K mg base (sheetG K C cB cO cT) "has" 1 2 f_Sh_has := ⟨f7, _, _, ⟨a7, i7, k7⟩, b7, ok_Sh_has F7 T ⟩
  have C_Sh_need : MetP l.prog w K mg base (sheetG K C cB cO cT) "need" 2 2 f_Sh_need := ⟨f8, _, _, ⟨a8, i8, k8⟩, b8, ok_Sh_need F8 T C_Sh_has⟩
  have C_inner : CalP l.prog w K mg base (sheetG K C cB cO cT) "inner" 1 1 f_inner := ⟨f9, _, _, PySem.W.mg_of X G a9, k9, b9, ok_inner F9 T ⟩
  have C_deep : CalP l.prog w K mg base (sheetG K C cB cO cT) "deep" 41 1 (f_deep_ 40) := ⟨f10, _, _, PySem.W.mg_of X G a10, k10, b10, ok_deep F10 T (PySem.W.mg_of X G a10) k10 b10 C_inner 40⟩
  have C_references : CalP l.prog w K mg base (sheetG K C cB cO cT) "references" 1 1 f_references := ⟨f11, _, _, PySem.W.mg_of X G a11, k11, b11, ok_references F11 T ⟩
  have C_all_references : CalP l.prog w K mg base (sheetG K C cB cO cT) "all_references" 41 1 (f_all_references_ 40) := ⟨f12, _, _, PySem.W.mg_of X G a12, k12, b12, ok_all_references F12 T (PySem.W.mg_of X G a12) k12 b12 C_inner C_references 40⟩
  have C_Sh_put : MetM l.prog w K mg base (sheetG K C cB cO cT) "put" 42 3 f_Sh_put := ⟨f13, _, _, ⟨a13, i13, k13⟩, b13, ok_Sh_put F13 T C_Sh_need C_all_references C_deep⟩
  have C_Sh_rule : MetP l.prog w K mg base (sheetG K C cB cO cT) "rule" 3 2 f_Sh_rule := ⟨f14, _, _, ⟨a14, i14, k14⟩, b14, ok_Sh_rule F14 T C_Sh_need⟩
  have C_named : CalP l.prog w K mg base (sheetG K C cB cO cT) "named" 2 1 f_named := ⟨f15, _, _, PySem.W.mg_of X G a15, k15, b15, ok_named F15 T C_area C_references⟩
  have C_needed : CalP l.prog w K mg base (sheetG K C cB cO cT) "needed" 42 1 (f_needed_ 40) := ⟨f16, _, _, PySem.W.mg_of X G a16, k16, b16, ok_needed F16 T (PySem.W.mg_of X G a16) k16 b16 C_inner C_named 40⟩
  have C_users_of : CalP l.prog w K mg base (sheetG K C cB cO cT) "users_of" 43 1 f_users_of := ⟨f17, _, _, PySem.W.mg_of X G a17, k17, b17, ok_users_of F17 T C_Sh_rule C_needed C_Sh_places⟩
  have C_touched : CalP l.prog w K mg base (sheetG K C cB cO cT) "touched" 44 2 f_touched := ⟨f18, _, _, PySem.W.mg_of X G a18, k18, b18, ok_touched F18 T C_users_of C_Sh_rule⟩
  have C_l_touches : CalP l.prog w K mg base (sheetG K C cB cO cT) "_law_touches" 45 3 f_l_touches := ⟨f19, _, _, PySem.W.mg_of X G a19, k19, b19, ok_l_touches F19 T C_touched⟩
  have C_needs_of : CalP l.prog w K mg base (sheetG K C cB cO cT) "needs_of" 43 1 f_needs_of := ⟨f20, _, _, PySem.W.mg_of X G a20, k20, b20, ok_needs_of F20 T C_Sh_rule C_needed C_Sh_places⟩
  have C_settled : CalP l.prog w K mg base (sheetG K C cB cO cT) "settled" 44 1 f_settled := ⟨f21, _, _, PySem.W.mg_of X G a21, k21, b21, ok_settled F21 T C_Sh_places C_users_of C_needs_of⟩
  have C_joined : CalP l.prog w K mg base (sheetG K C cB cO cT) "joined" 1 3 f_joined := ⟨f22, _, _, PySem.W.mg_of X G a22, k22, b22, ok_joined F22 T ⟩
  have C_told : CalP l.prog w K mg base (sheetG K C cB cO cT) "told" 81 2 (f_told_ 40) := ⟨f24, _, _, PySem.W.mg_of X G a24, k24, b24, ok_told F24 T (PySem.W.mg_of X G a24) k24 b24 F23 (PySem.W.mg_of X G a23) k23 b23 C_joined C_area 40⟩
  have C_reckoned : CalP l.prog w K mg base (sheetG K C cB cO cT) "reckoned" 82 1 f_reckoned := ⟨f25, _, _, PySem.W.mg_of X G a25, k25, b25, ok_reckoned F25 T C_Sh_rule C_told C_settled⟩
  have C_l_values : CalP l.prog w K mg base (sheetG K C cB cO cT) "_law_values" 83 2 f_l_values := ⟨f26, _, _, PySem.W.mg_of X G a26, k26, b26, ok_l_values F26 T C_reckoned⟩
  have C_ring : CalP l.prog w K mg base (sheetG K C cB cO cT) "ring" 45 1 f_ring := ⟨f27, _, _, PySem.W.mg_of X G a27, k27, b27, ok_ring F27 T C_Sh_places C_settled C_needs_of⟩
  have C_l_round : CalP l.prog w K mg base (sheetG K C cB cO cT) "_law_round" 46 4 f_l_round := ⟨f28, _, _, PySem.W.mg_of X G a28, k28, b28, ok_l_round F28 T C_ring⟩
  have C_l_due : CalP l.prog w K mg base (sheetG K C cB cO cT) "_law_due" 1 4 f_l_due := ⟨f29, _, _, PySem.W.mg_of X G a29, k29, b29, ok_l_due F29 T ⟩
  have C_l_right : CalP l.prog w K mg base (sheetG K C cB cO cT) "_law_right" 84 6 f_l_right := ⟨f30, _, _, PySem.W.mg_of X G a30, k30, b30, ok_l_right F30 T C_l_touches C_l_round C_l_due C_l_values⟩
  have C_l_rule : CalP l.prog w K mg base (sheetG K C cB cO cT) "_law_rule" 1 3 f_l_rule := ⟨f31, _, _, PySem.W.mg_of X G a31, k31, b31, ok_l_rule F31 T ⟩
  exact law_fn (G := (sheetG K C cB cO cT)) (ok_law F32 T C_l_right C_Sh_put C_l_cell_at C_l_rule C_Sheet_init C_l_row C_l_sizes) law
end
end K14

set_option maxRecDepth 100000
namespace K14
open PySem PySem.Spec PyProof.Rows L2 Rs
theorem sizes_run (x : Int) : ∃ h w : Nat, (0 < h ∧ h ≤ 12) ∧ (0 < w ∧ w ≤ 12) ∧ f_l_sizes [.int x] = .ok (.node .tup [.int h, .int w]) := by
  unfold f_l_sizes
  rw [run_out]
  unfold m_l_sizes
  by_cases c : x / 36 % 16 = 1
  · obtain ⟨a, ha⟩ : ∃ a : Nat, (7 + x / 576 % 6 : Int) = a := ⟨(7 + x / 576 % 6).toNat, by omega⟩
    obtain ⟨b, hb⟩ : ∃ b : Nat, (7 + x / 3456 % 6 : Int) = b := ⟨(7 + x / 3456 % 6).toNat, by omega⟩
    exact ⟨a, b, by omega, by omega, by simp -implicitDefEqProofs [c, ha, hb]⟩
  · obtain ⟨a, ha⟩ : ∃ a : Nat, (1 + x % 6 : Int) = a := ⟨(1 + x % 6).toNat, by omega⟩
    obtain ⟨b, hb⟩ : ∃ b : Nat, (1 + x / 6 % 6 : Int) = b := ⟨(1 + x / 6 % 6).toNat, by omega⟩
    exact ⟨a, b, by omega, by omega, by simp -implicitDefEqProofs [c, ha, hb]⟩
/-- the rule of a place that tells of another one -/
def stepR (q : Pl) (st : Int) : Nat → Ru
  | 0 => .op .add (.cell ⟨q.1, q.2, false, true⟩) (.num st)
  | k + 1 => if k % 2 = 0 then .op .add (stepR q st k) (.num 0) else .op .add (.num 0) (stepR q st k)
theorem stepR_facts (q : Pl) (st : Int) : ∀ k : Nat, (stepR q st k).dep = k + 2 ∧ (stepR q st k).lst = [q] ∧ (∀ h w : Nat, q ∈ boxP 0 h 0 w → (stepR q st k).In 0 h 0 w) ∧ (0 ≤ st → st < 1000000000 → ∀ f : Pl → Int, (stepR q st k).ev f = (f q + st) % 1000000000)
  | 0 => by
    refine ⟨rfl, rfl, fun h w hq => ⟨?_, trivial⟩, fun h0 h1 f => ?_⟩
    · have := mem_boxP.mp hq
      show Ref.In _ _ _ _ _
      unfold Ref.In
      simp only
      omega
    · show (f q + st % 1000000000) % 1000000000 = _
      omega
  | k + 1 => by
    obtain ⟨a, b, c, d⟩ := stepR_facts q st k
    unfold stepR
    split
    · refine ⟨by simp only [Ru.dep, a]; omega, by simp [Ru.lst, b], fun h w hq => ⟨c h w hq, trivial⟩, fun h0 h1 f => ?_⟩
      show ((stepR q st k).ev f + 0 % 1000000000) % 1000000000 = _
      rw [d h0 h1 f]
      omega
    · refine ⟨by simp only [Ru.dep, a]; omega, by simp [Ru.lst, b], fun h w hq => ⟨trivial, c h w hq⟩, fun h0 h1 f => ?_⟩
      show (0 % 1000000000 + (stepR q st k).ev f) % 1000000000 = _
      rw [d h0 h1 f]
      omega
theorem rule_run (q : Pl) (st : Int) (m : Nat) : f_l_rule [pairD q, .int st, .int m] = .ok (stepR q st m).toD := by
  unfold f_l_rule
  refine run_o (ρ0 := [.ro (pairD q), .ro (.int st), .ro (.int m), .un, .un]) rfl ?_
  unfold m_l_rule
  refine seqF (ρ' := [.ro (pairD q), .ro (.int st), .ro (.int m), .ow (stepR q st 0).toD, .un]) (by simp -implicitDefEqProofs [stepR, Ru.toD, Ref.toD, Op.nm]) ?_
  refine seqX (P := fun ρ => ∃ s4, ρ = [.ro (pairD q), .ro (.int st), .ro (.int m), .ow (stepR q st m).toD, s4]) (forR_ex (lo := 0) (n := m) (fun k ρ => ∃ s4, ρ = [.ro (pairD q), .ro (.int st), .ro (.int m), .ow (stepR q st k).toD, s4]) (ds := [.int m]) (by simp -implicitDefEqProofs) (by rw [rng_1, Int.toNat_natCast]) ⟨_, rfl⟩ (by
    rintro k _ hk ⟨s4, rfl⟩
    have im := (stepR q st k).imm
    by_cases e : k % 2 = 0
    · have e1 : (0 + (k : Int)) % 2 = 0 := by omega
      refine ⟨_, ?_, .ro (.int (0 + (k : Int))), rfl⟩
      simp -implicitDefEqProofs [-Int.zero_add, stepR, e, e1, Ru.toD, Op.nm, im]
    · have e1 : (0 + (k : Int)) % 2 = 1 := by omega
      refine ⟨_, ?_, .ro (.int (0 + (k : Int))), rfl⟩
      simp -implicitDefEqProofs [-Int.zero_add, stepR, e, e1, Ru.toD, Op.nm, im])) ?_
  rintro _ ⟨s4, rfl⟩
  simp -implicitDefEqProofs
section
variable {h w : Nat}
theorem lcRow (hw : 0 < w ∧ w ≤ 12) (hh : h * w < 100000) {ρ : Evn} (h2 : ∀ s, (ρ.set 4 (.ro s))[1]? = some (.ro (.int w)) ∧ (ρ.set 4 (.ro s))[4]? = some (.ro s)) : lcR 4 mYes (mTup (mCons (mBin gDiv (mVar 4) (mVar 1)) (mCons (mBin gMod (mVar 4) (mVar 1)) mNil))) (rangeD 0 (h * w)) ρ = .ok (lstD (boxP 0 h 0 w)) := by
  unfold lcR
  rw [rangeD_len, if_pos hh, lcL_map (g := fun d => match d with | .int k => pairD (k / w, k % w) | _ => .non) fun x hx => ?_]
  · rw [R.bind_ok]
    congr 2
    refine List.ext_getElem? fun k => ?_
    unfold rangeD
    rw [List.map_map, List.getElem?_map, List.getElem?_map]
    by_cases hk : k < h * w
    · rw [List.getElem?_range hk, List.getElem?_eq_getElem (by rw [boxP_len]; exact hk), box_at hw.1 (by rw [boxP_len]; exact hk)]
      simp
    · rw [List.getElem?_eq_none (by simp; omega), List.getElem?_eq_none (by rw [boxP_len]; omega)]
      rfl
  · obtain ⟨k, hk⟩ := List.mem_iff_getElem?.mp hx
    obtain ⟨rfl, _⟩ := rangeD_get hk
    have g1 : gDiv (.int (0 + (k : Int))) (.int w) = .ok (.int ((0 + (k : Int)) / w)) := g_div (by omega)
    have g2 : gMod (.int (0 + (k : Int))) (.int w) = .ok (.int ((0 + (k : Int)) % w)) := g_mod (by omega)
    exact ⟨rfl, by simp -implicitDefEqProofs [-Int.zero_add, (h2 _).1, (h2 _).2, g1, g2, pair_mk]⟩
theorem lcCol (bh : 0 < h ∧ h ≤ 12) (hh : h * w < 100000) {ρ : Evn} (h2 : ∀ s, (ρ.set 4 (.ro s))[0]? = some (.ro (.int h)) ∧ (ρ.set 4 (.ro s))[4]? = some (.ro s)) : lcR 4 mYes (mTup (mCons (mBin gMod (mVar 4) (mVar 0)) (mCons (mBin gDiv (mVar 4) (mVar 0)) mNil))) (rangeD 0 (h * w)) ρ = .ok (lstD ((boxP 0 w 0 h).map fun p => (p.2, p.1))) := by
  unfold lcR
  rw [rangeD_len, if_pos hh, lcL_map (g := fun d => match d with | .int k => pairD (k % h, k / h) | _ => .non) fun x hx => ?_]
  · rw [R.bind_ok]
    congr 2
    refine List.ext_getElem? fun k => ?_
    unfold rangeD
    rw [List.map_map, List.getElem?_map, List.getElem?_map, List.getElem?_map]
    have e : w * h = h * w := Nat.mul_comm _ _
    by_cases hk : k < h * w
    · rw [List.getElem?_range hk, List.getElem?_eq_getElem (by rw [boxP_len]; omega), box_at bh.1 (by rw [boxP_len]; omega)]
      simp
    · rw [List.getElem?_eq_none (by simp; omega), List.getElem?_eq_none (by rw [boxP_len]; omega)]
      rfl
  · obtain ⟨k, hk⟩ := List.mem_iff_getElem?.mp hx
    obtain ⟨rfl, _⟩ := rangeD_get hk
    have g1 : gDiv (.int (0 + (k : Int))) (.int h) = .ok (.int ((0 + (k : Int)) / h)) := g_div (by omega)
    have g2 : gMod (.int (0 + (k : Int))) (.int h) = .ok (.int ((0 + (k : Int)) % h)) := g_mod (by omega)
    exact ⟨rfl, by simp -implicitDefEqProofs [-Int.zero_add, (h2 _).1, (h2 _).2, g1, g2, pair_mk]⟩
theorem row_run (bh : 0 < h ∧ h ≤ 12) (bw : 0 < w ∧ w ≤ 12) (c : Int) : ∃ row : List Pl, (row.Nodup ∧ (∀ p, p ∈ row ↔ p ∈ boxP 0 h 0 w) ∧ row.length = h * w) ∧ f_l_row [.int h, .int w, .int c] = .ok (lstD row) := by
  have hh : h * w < 100000 := by
    have := Nat.mul_le_mul bh.2 bw.2
    omega
  have mm : gMul (.int h) (.int w) = .ok (.int (h * w)) := g_mul2 (by omega)
  have ht : ((h : Int) * w).toNat = h * w := by rw [← Int.natCast_mul, Int.toNat_natCast]
  unfold f_l_row
  refine run_c (C := fun r => ∃ row : List Pl, (row.Nodup ∧ (∀ p, p ∈ row ↔ p ∈ boxP 0 h 0 w) ∧ row.length = h * w) ∧ r = .ok (lstD row)) (ρ0 := [.ro (.int h), .ro (.int w), .ro (.int c), .un, .un]) rfl ?_
  unfold m_l_row
  refine seqC (C := fun r => ∃ row : List Pl, (row.Nodup ∧ (∀ p, p ∈ row ↔ p ∈ boxP 0 h 0 w) ∧ row.length = h * w) ∧ r.out = .ok (lstD row)) (P := fun ρ => ∃ row : List Pl, (row.Nodup ∧ (∀ p, p ∈ row ↔ p ∈ boxP 0 h 0 w) ∧ row.length = h * w) ∧ ρ = [.ro (.int h), .ro (.int w), .ro (.int c), .ow (lstD row), .un]) (by
    by_cases q : c % 2 = 0
    · have l := lcRow (h := h) (w := w) bw hh (ρ := [.ro (.int h), .ro (.int w), .ro (.int c), .un, .un]) fun s => ⟨rfl, rfl⟩
      exact ⟨_, by simp -implicitDefEqProofs [q, mm, rng_1, ht, l], boxP 0 h 0 w, ⟨boxP_nd, fun p => Iff.rfl, boxP_len⟩, rfl⟩
    · have l := lcCol (h := h) (w := w) bh hh (ρ := [.ro (.int h), .ro (.int w), .ro (.int c), .un, .un]) fun s => ⟨rfl, rfl⟩
      refine ⟨_, by simp -implicitDefEqProofs [q, mm, rng_1, ht, l, -List.map_map], (boxP 0 w 0 h).map fun p => (p.2, p.1), ⟨?_, fun p => ?_, ?_⟩, rfl⟩
      · refine List.Pairwise.map _ (fun a b hab e => hab ?_) (boxP_nd (t := 0) (h := w) (l := 0) (w := h))
        simp only [Prod.mk.injEq] at e
        exact Prod.ext e.2 e.1
      · rw [List.mem_map]
        constructor
        · rintro ⟨q, hq, rfl⟩
          have := mem_boxP.mp hq
          exact mem_boxP.mpr (by simp only; omega)
        · intro hp
          have := mem_boxP.mp hp
          exact ⟨(p.2, p.1), mem_boxP.mpr (by simp only; omega), rfl⟩
      · rw [List.length_map, boxP_len, Nat.mul_comm]) ?_
  rintro _ ⟨row, ⟨r1, r2, r3⟩, rfl⟩
  have gr : gRev (lstD row) = .ok (lstD row.reverse) := by
    show (if _ then _ else _) = _
    rw [if_pos (imms_pairs _), lstD, List.map_reverse]
  by_cases q : c / 2 % 2 = 1
  · exact ⟨row.reverse, ⟨List.pairwise_reverse.mpr (r1.imp fun z e => z e.symm), fun p => by rw [List.mem_reverse]; exact r2 p, by rw [List.length_reverse]; exact r3⟩, by simp -implicitDefEqProofs [q, gr, -List.map_reverse]⟩
  · exact ⟨row, ⟨r1, r2, r3⟩, by simp -implicitDefEqProofs [q]⟩
theorem values_run {rl : Pl → Ru} {row : List Pl} (k : ShOk h w rl) (hr : ∀ p ∈ row, p ∈ boxP 0 h 0 w) : f_l_values [shD h w rl, dF row (valD rl)] = .ok (.bl true) := by
  have rk := reckoned_run k
  have ln : gLen [tabD h w (valD rl)] = .ok (.int h) := by
    unfold tabD
    rw [g_len_lst, List.length_map, List.length_range]
  have f0 : fldD 0 (shD h w rl) = .ok (.int h) := rfl
  unfold f_l_values
  refine run_o (ρ0 := [.ro (shD h w rl), .ro (dF row (valD rl)), .un, .un]) rfl ?_
  unfold m_l_values
  refine seqF (ρ' := [.ro (shD h w rl), .ro (dF row (valD rl)), .ow (tabD h w (valD rl)), .un]) (by simp -implicitDefEqProofs [rk]) ?_
  refine seqX (P := fun ρ => ∃ s3, ρ = [.ro (shD h w rl), .ro (dF row (valD rl)), .ow (tabD h w (valD rl)), s3]) (forK_ex (ks := row) (vs := row.map (valD rl)) (fun j ρ => ∃ s3, ρ = [.ro (shD h w rl), .ro (dF row (valD rl)), .ow (tabD h w (valD rl)), s3]) rfl ⟨_, rfl⟩ (by
    rintro j p _ hk ⟨s3, rfl⟩
    have hm := List.mem_of_getElem? hk
    obtain ⟨x, t1, t2⟩ := tab_ix (h := h) (w := w) (v := valD rl) (hr p hm)
    have g := ix_dF (v := valD rl) hm
    have v5 := g_ner (valD_ok (rl := rl) (p := p) (n := 59))
    have vi : isiD .bool (valD rl p) = some false := by
      unfold valD
      split <;> simp [isiD]
    exact ⟨_, by simp -implicitDefEqProofs [t1, t2, g, v5, vi], .ro (pairD p), rfl⟩)) ?_
  rintro _ ⟨s3, rfl⟩
  simp -implicitDefEqProofs [ln, f0]
/-- the numbers alone: kept by their place in the row -/
def hdO (ks : List Int) (v : Int → Int) (k : Nat) : Option Int := if (k : Int) ∈ ks then some (v k) else none
theorem intsM (ns : List Int) : intsL (ns.map D.int) = some ns := by
  induction ns with
  | nil => rfl
  | cons n ns ih => show (intsL (ns.map D.int)).map (n :: ·) = _; rw [ih]; rfl
theorem touches_run {rl : Pl → Ru} {row : List Pl} {ks : List Int} {v : Int → Int} {b : Nat} {st : Int} (k : ShOk h w rl) (hr : ∀ p, p ∈ row ↔ p ∈ boxP 0 h 0 w) (C : Chn rl row (hdO ks v) b st) (hk : ks.length ≤ 2 ∧ ∀ i ∈ ks, 0 ≤ i) : f_l_touches [shD h w rl, lstD row, dKF ks fun i => .int (v i)] = .ok (.bl true) := by
  have hn := C.len
  have h0l : 0 < row.length := by have := C.lt; omega
  obtain ⟨s, hs⟩ : ∃ s, row[0]? = some s := ⟨_, List.getElem?_eq_getElem h0l⟩
  have hsB := (hr s).mp (List.mem_of_getElem? hs)
  have tr := touched_run k hsB
  let M : List Int := ks.filter (fun i => decide (0 < i)) ++ [(row.length : Int)]
  obtain ⟨mem, low⟩ := minL_spec (ns := M) (by simp [M])
  have lowl := low (row.length : Int) (by simp [M])
  have m0 : 0 < minL M := by
    rcases List.mem_append.mp mem with z | z
    · exact of_decide_eq_true (List.mem_filter.mp z).2
    · rw [List.mem_singleton.mp z]; omega
  obtain ⟨E, hE⟩ : ∃ E : Nat, minL M = E := ⟨(minL M).toNat, by omega⟩
  have lc : lcR 4 (mTest (mBin gGt (mVar 4) (mC (.int 0)))) (mImm (mVar 4)) (ks.map D.int) [.ro (shD h w rl), .ro (lstD row), .ro (dKF ks fun i => .int (v i)), .un, .un] = .ok (.node .lst ((ks.filter fun i => decide (0 < i)).map D.int)) := by
    unfold lcR
    rw [List.length_map, if_pos (by omega)]
    rw [lcL_filter (p := fun d => match d with | .int i => decide (0 < i) | _ => false) (g := fun d => d) fun x hx => ?_]
    · rw [R.bind_ok, List.map_id', List.filter_map]
      rfl
    · obtain ⟨i, hi, rfl⟩ := List.mem_map.mp hx
      refine ⟨?_, fun _ => by simp -implicitDefEqProofs⟩
      by_cases q : 0 < i
      · have q' : i > 0 := q
        simp -implicitDefEqProofs [q, q']
      · have q' : ¬ i > 0 := q
        simp -implicitDefEqProofs [q, q']
  have lc2 : mLcK 4 2 (mTest (mBin gGt (mVar 4) (mC (.int 0)))) (mImm (mVar 4)) [.ro (shD h w rl), .ro (lstD row), .ro (dKF ks fun i => .int (v i)), .un, .un] = .ok (.node .lst ((ks.filter fun i => decide (0 < i)).map D.int)) := by
    rw [ap_lcK]
    exact lc
  have fl : (ks.filter fun i => decide (0 < i)).length ≤ 2 := Nat.le_trans (List.length_filter_le _ _) hk.1
  have ad : gAdd (.node .lst ((ks.filter fun i => decide (0 < i)).map D.int)) (.node .lst [.int (row.length : Int)]) = .ok (.node .lst (M.map D.int)) := by
    show (if _ then _ else _) = _
    rw [if_pos ⟨imms_ints _, rfl, by rw [List.length_map]; simp; omega⟩]
    simp [M]
  have mi : gMin1 [.node .lst (M.map D.int)] = .ok (.int (minL M)) := by
    unfold gMin1
    simp only [intsM]
    rw [if_pos (by simp [M])]
  have ln : gLen [lstD row] = .ok (.int row.length) := by rw [g_len_lst, List.length_map]
  unfold f_l_touches
  refine run_o (ρ0 := [.ro (shD h w rl), .ro (lstD row), .ro (dKF ks fun i => .int (v i)), .un, .un]) rfl ?_
  unfold m_l_touches
  refine seqF (ρ' := [.ro (shD h w rl), .ro (lstD row), .ro (dKF ks fun i => .int (v i)), .ow (.int (E : Int)), .un]) (by rw [← hE]; simp -implicitDefEqProofs [lc, ln, ad, mi]) ?_
  have cut : gSl (lstD row) none (some (E : Int)) = .ok (lstD (row.take E)) := by
    have e1 : row = row.take E ++ row.drop E := (List.take_append_drop E row).symm
    have le : (row.take E).length = E := by rw [List.length_take]; omega
    have := sl_pre (xs := (row.take E).map Rs.pairD) (ys := (row.drop E).map Rs.pairD) (by rw [← List.map_append, ← e1]; exact imms_pairs _)
    rw [← List.map_append, ← e1, List.length_map, le] at this
    exact this
  have g0 : gIx (lstD row) (.int 0) = .ok (pairD s) := gIx_at (k := 0) rfl rfl (by rw [List.getElem?_map, hs]; rfl)
  have tt : ∀ p, Tch rl (boxP 0 h 0 w) s p ↔ p ∈ row.take E := fun p => by
    rw [C.touch (fun p => (hr p).symm) hs p]
    constructor
    · rintro ⟨j, hj, hh⟩
      have jl := (List.getElem?_eq_some_iff.mp hj).1
      have : j < E := Classical.byContradiction fun z => by
        rcases List.mem_append.mp mem with y | y
        · have y' := List.mem_filter.mp y
          have := hh E (by omega) (by omega)
          unfold hdO at this
          rw [if_pos (by rw [← hE]; exact y'.1)] at this
          cases this
        · have := List.mem_singleton.mp y
          omega
      exact List.mem_iff_getElem?.mpr ⟨j, by rw [List.getElem?_take_of_lt this]; exact hj⟩
    · intro hp
      obtain ⟨j, hj⟩ := List.mem_iff_getElem?.mp hp
      have jl := (List.getElem?_eq_some_iff.mp hj).1
      rw [List.length_take] at jl
      rw [List.getElem?_take_of_lt (by omega)] at hj
      refine ⟨j, hj, fun i h1 h2 => ?_⟩
      unfold hdO
      rw [if_neg fun z => ?_]
      have := low (i : Int) (List.mem_append_left _ (List.mem_filter.mpr ⟨z, by simpa using h1⟩))
      omega
  have so := sorted_lst (L := row.take E)
  have K : KeysOf (boxP 0 h 0 w) (Tch rl (boxP 0 h 0 w) s) (row.take E) := ⟨List.Nodup.sublist (List.take_sublist _ _) C.nd, fun p => (tt p).symm, fun p t => t.sub hsB⟩
  have e : sortP (row.take E) = tchP h w rl s := by
    classical
    refine (keys_due K.sort (sortP_up _) (q := fun p => decide (Tch rl (boxP 0 h 0 w) s p)) fun p => by rw [decide_eq_true_eq]).trans ?_
    unfold tchP
    refine List.filter_congr fun p _ => ?_
    congr
  rw [e] at so
  have ee : gEq (lstD (tchP h w rl s)) (lstD (tchP h w rl s)) = .ok (.bl true) := g_eqr (okD_pairs _)
  simp -implicitDefEqProofs [g0, tr, cut, so, ee, -List.map_take]
def optD : Option Int → D
  | some v => .int v
  | none => .non
theorem optD_imm (o : Option Int) : (optD o).imm = true := by cases o <;> rfl
/-- the value that stands at a place, counted on along the row -/
def dueF (row : List Pl) (hd : Nat → Option Int) (st : Int) (p : Pl) : D := optD (fwd hd st (row.idxOf p))
theorem idx_at {row : List Pl} (nd : row.Nodup) {k : Nat} {p : Pl} (hk : row[k]? = some p) : row.idxOf p = k := by
  have hp := List.mem_of_getElem? hk
  have hl := List.idxOf_lt_length_iff.mpr hp
  have : row[row.idxOf p]? = some p := by rw [List.getElem?_eq_getElem hl, List.getElem_idxOf]
  exact row_uniq nd this hk
theorem due_run {rl : Pl → Ru} {row : List Pl} {ks : List Int} {v : Int → Int} {b : Nat} {st back : Int} (hr : ∀ p, p ∈ row ↔ p ∈ boxP 0 h 0 w) (C : Chn rl row (hdO ks v) b st) (hk : ks.length ≤ 2) (hb : back = b ∨ (back < 0 ∧ (0 : Int) ∈ ks)) : f_l_due [lstD row, .int st, dKF ks fun i => .int (v i), .int back] = .ok (dF row (valD rl)) := by
  have hn := C.len
  have hbl := C.lt
  generalize hH : (dKF ks fun i => .int (v i)) = heads
  have ink : ∀ k : Nat, gIn (.int (0 + (k : Int))) heads = .ok (.bl (decide ((k : Int) ∈ ks))) := fun k => by rw [← hH, in_dK, Int.zero_add]
  have ixk : ∀ k : Nat, (k : Int) ∈ ks → gIx heads (.int (0 + (k : Int))) = .ok (.int (v k)) := fun k hk => by rw [← hH, Int.zero_add]; exact ix_dK hk
  have ni0 : gNotIn (.int 0) heads = .ok (.bl (!decide ((0 : Int) ∈ ks))) := by rw [← hH]; exact notIn_dK
  have ln : gLen [lstD row] = .ok (.int row.length) := by rw [g_len_lst, List.length_map]
  have gr : ∀ {k : Nat} {p : Pl}, row[k]? = some p → gIx (lstD row) (.int (0 + (k : Int))) = .ok (pairD p) := fun {k p} hk => gIx_at (k := k) rfl (by omega) (by rw [List.getElem?_map, hk]; rfl)
  unfold f_l_due
  refine run_o (ρ0 := [.ro (lstD row), .ro (.int st), .ro heads, .ro (.int back), .un, .un, .un, .un]) rfl ?_
  unfold m_l_due
  refine seqF (ρ' := [.ro (lstD row), .ro (.int st), .ro heads, .ro (.int back), .ow (dF [] (dueF row (hdO ks v) st)), .un, .un, .un]) (by simp -implicitDefEqProofs [mDT]) ?_
  refine seqF (ρ' := [.ro (lstD row), .ro (.int st), .ro heads, .ro (.int back), .ow (dF [] (dueF row (hdO ks v) st)), .ow .non, .un, .un]) (by simp -implicitDefEqProofs) ?_
  refine seqX (P := fun ρ => ∃ s5 s6, ρ = [.ro (lstD row), .ro (.int st), .ro heads, .ro (.int back), .ow (dF row (dueF row (hdO ks v) st)), s5, s6, .un])
    ((forR_ex (lo := 0) (n := row.length) (fun k ρ => ∃ cur s6, (∀ j, k = j + 1 → cur = fwd (hdO ks v) st j) ∧ ρ = [.ro (lstD row), .ro (.int st), .ro heads, .ro (.int back), .ow (dF (row.take k) (dueF row (hdO ks v) st)), .ow (optD cur), s6, .un]) (ds := [.int row.length]) (by simp -implicitDefEqProofs [ln]) (by rw [rng_1, Int.toNat_natCast]) ⟨none, _, fun j h => by omega, rfl⟩ ?_).imp fun ρ' x => ⟨x.1, by
      obtain ⟨_, cur, s6, _, rfl⟩ := x
      exact ⟨.ow (optD cur), s6, by rw [List.take_length]⟩⟩) ?_
  · rintro k _ hkl ⟨cur, s6, hc, rfl⟩
    obtain ⟨p, hp⟩ : ∃ p, row[k]? = some p := ⟨_, List.getElem?_eq_getElem hkl⟩
    have gp := gr hp
    have fp : dueF row (hdO ks v) st p = optD (fwd (hdO ks v) st k) := by unfold dueF; rw [idx_at C.nd hp]
    have hnn : p ∉ row.take k := by rw [← (List.getElem?_eq_some_iff.mp hp).2]; exact take_nd C.nd hkl
    have pn := put_new (ks := row.take k) (v := dueF row (hdO ks v) st) (p := p) (by rw [List.length_take]; omega) hnn
    rw [← take_box hp, fp] at pn
    have ii := ink k
    refine seqC (C := fun r => ∃ ρ', r = .nx ρ' ∧ ∃ cur s6, (∀ j, k + 1 = j + 1 → cur = fwd (hdO ks v) st j) ∧ ρ' = [.ro (lstD row), .ro (.int st), .ro heads, .ro (.int back), .ow (dF (row.take (k + 1)) (dueF row (hdO ks v) st)), .ow (optD cur), s6, .un])
      (P := fun ρ => ρ = [.ro (lstD row), .ro (.int st), .ro heads, .ro (.int back), .ow (dF (row.take k) (dueF row (hdO ks v) st)), .ow (optD (fwd (hdO ks v) st k)), .ro (.int (0 + (k : Int))), .un]) ?_ ?_
    · refine ⟨_, ?_, rfl⟩
      by_cases q : (k : Int) ∈ ks
      · have e : fwd (hdO ks v) st k = some (v k) := by
          have : hdO ks v k = some (v k) := if_pos q
          cases k with
          | zero => exact this
          | succ k => unfold fwd; rw [this]
        have ix := ixk k q
        rw [show decide ((k : Int) ∈ ks) = true by simpa using q] at ii
        rw [e]
        simp -implicitDefEqProofs [-Int.zero_add, -List.map_take, ii, ix, optD]
      · have hno : hdO ks v k = none := if_neg q
        rw [show decide ((k : Int) ∈ ks) = false by simpa using q] at ii
        cases k with
        | zero =>
          have e : fwd (hdO ks v) st 0 = none := hno
          rw [e]
          simp -implicitDefEqProofs [-List.map_take, optD] at ii ⊢
          simp -implicitDefEqProofs [-List.map_take, ii, optD]
        | succ j =>
          have e : fwd (hdO ks v) st (j + 1) = (fwd (hdO ks v) st j).map (· + st) := by
            conv => lhs; unfold fwd
            rw [hno]
          have ec := hc j rfl
          rw [e, ← ec]
          have nz : ¬ (0 + ((j + 1 : Nat) : Int) = 0) := by omega
          have n1 : gIsNn .non .non = .ok (.bl false) := rfl
          have n2 : ∀ u : Int, gIsNn (.int u) .non = .ok (.bl true) := fun u => rfl
          have ge : gEq (.int (0 + ((j + 1 : Nat) : Int))) (.int 0) = .ok (.bl false) := by
            rw [show (false : Bool) = decide (0 + ((j + 1 : Nat) : Int) = 0) by simpa using nz]
            simp -implicitDefEqProofs [-Int.zero_add]
          generalize (0 : Int) + ((j + 1 : Nat) : Int) = kk at ii ge
          cases cur with
          | none => simp -implicitDefEqProofs [-List.map_take, ii, ge, optD, n1]
          | some u => simp -implicitDefEqProofs [-List.map_take, ii, ge, optD, n2]
    · rintro _ rfl
      have im := optD_imm (fwd (hdO ks v) st k)
      exact ⟨_, by simp -implicitDefEqProofs [-Int.zero_add, -List.map_take, gp, pn, im], fwd (hdO ks v) st k, .ro (.int (0 + (k : Int))), fun j hj => by rw [show j = k by omega], rfl⟩
  rintro _ ⟨s5, s6, rfl⟩
  have some_val : ∀ (k : Nat) (p : Pl), row[k]? = some p → fwd (hdO ks v) st k ≠ none → dueF row (hdO ks v) st p = valD rl p := fun k p hp hne => by
    unfold dueF
    rw [idx_at C.nd hp]
    cases e : fwd (hdO ks v) st k with
    | none => exact absurd e hne
    | some u =>
      obtain ⟨⟨g, ev⟩, _⟩ := C.fwd_ok k p u hp e
      unfold valD
      rw [if_pos g, ev]
      rfl
  have fin : ∀ {G : Pl → D}, (∀ (j : Nat) (p : Pl), row[j]? = some p → G p = valD rl p) → dF row G = dF row (valD rl) := fun {G} hG => dF_congr fun p hp => by
    obtain ⟨j, hj⟩ := List.mem_iff_getElem?.mp hp
    exact hG j p hj
  have main : (∃ t5 t6 t7, mIf (cAnd (mTest (mBin gGe (mVar 3) (mC (.int 0)))) (mTest (mBin gNotIn (mC (.int 0)) (mVar 2)))) (mSeq (mSet 7 (mImm (mBinE gIx (mVar 4) (mBinE gIx (mVar 0) (mVar 3)))))
    (mForR 6 (mCons (mCall gLen (mCons (mVar 0) mNil)) mNil) (mSeq (mIf (cOr (mTest (mBin gIn (mVar 6) (mVar 2))) (mTest (mBin gIsN (mVar 7) (mC .non)))) (mRetV 4) mNx)
    (mPut 4 pRoot (mBinE gIx (mVar 0) (mVar 6)) (mBin gAdd (mVar 7) (mBin gMul (mVar 1) (mBin gAdd (mVar 6) (mC (.int 1))))))))) mNx [.ro (lstD row), .ro (.int st), .ro heads, .ro (.int back), .ow (dF row (dueF row (hdO ks v) st)), s5, s6, .un] = .nx [.ro (lstD row), .ro (.int st), .ro heads, .ro (.int back), .ow (dF row (valD rl)), t5, t6, t7]) ∨
      ∃ d ρ', mIf (cAnd (mTest (mBin gGe (mVar 3) (mC (.int 0)))) (mTest (mBin gNotIn (mC (.int 0)) (mVar 2)))) (mSeq (mSet 7 (mImm (mBinE gIx (mVar 4) (mBinE gIx (mVar 0) (mVar 3)))))
    (mForR 6 (mCons (mCall gLen (mCons (mVar 0) mNil)) mNil) (mSeq (mIf (cOr (mTest (mBin gIn (mVar 6) (mVar 2))) (mTest (mBin gIsN (mVar 7) (mC .non)))) (mRetV 4) mNx)
    (mPut 4 pRoot (mBinE gIx (mVar 0) (mVar 6)) (mBin gAdd (mVar 7) (mBin gMul (mVar 1) (mBin gAdd (mVar 6) (mC (.int 1))))))))) mNx [.ro (lstD row), .ro (.int st), .ro heads, .ro (.int back), .ow (dF row (dueF row (hdO ks v) st)), s5, s6, .un] = .rt d ρ' ∧ d = dF row (valD rl) := by
    by_cases z0 : (0 : Int) ∈ ks
    · have all : ∀ (j : Nat) (p : Pl), row[j]? = some p → dueF row (hdO ks v) st p = valD rl p := fun j p hj => some_val j p hj fun e => by
        have := fwd_none.mp e 0 (Nat.zero_le _)
        unfold hdO at this
        rw [if_pos (by simpa using z0)] at this
        cases this
      rw [show (!decide ((0 : Int) ∈ ks)) = false by simp [z0]] at ni0
      rw [← fin all]
      by_cases bk : 0 ≤ back
      · have bk' : back ≥ 0 := bk
        exact .inl ⟨s5, s6, .un, by simp -implicitDefEqProofs [bk, bk', ni0]⟩
      · have bk' : ¬ back ≥ 0 := bk
        exact .inl ⟨s5, s6, .un, by simp -implicitDefEqProofs [bk, bk']⟩
    · have hb' : back = b := hb.resolve_right fun y => z0 y.2
      subst hb'
      rw [show (!decide ((0 : Int) ∈ ks)) = true by simp [z0]] at ni0
      have h0 : hdO ks v 0 = none := by unfold hdO; rw [if_neg (by simpa using z0)]
      obtain ⟨pb, hpb⟩ : ∃ p, row[b]? = some p := ⟨_, List.getElem?_eq_getElem hbl⟩
      have gb := gr hpb
      rw [Int.zero_add] at gb
      have fb : dueF row (hdO ks v) st pb = optD (fwd (hdO ks v) st b) := by unfold dueF; rw [idx_at C.nd hpb]
      have gf := ix_dF (v := dueF row (hdO ks v) st) (List.mem_of_getElem? hpb)
      rw [fb] at gf
      have imb := optD_imm (fwd (hdO ks v) st b)
      have bk : (0 : Int) ≤ (b : Int) := by omega
      have bk' : (b : Int) ≥ 0 := bk
      have lp := forR_ret (i := 6) (itR := mCons (mCall gLen (mCons (mVar 0) mNil)) mNil) (body := (mSeq (mIf (cOr (mTest (mBin gIn (mVar 6) (mVar 2))) (mTest (mBin gIsN (mVar 7) (mC .non)))) (mRetV 4) mNx)
    (mPut 4 pRoot (mBinE gIx (mVar 0) (mVar 6)) (mBin gAdd (mVar 7) (mBin gMul (mVar 1) (mBin gAdd (mVar 6) (mC (.int 1)))))))) (lo := 0) (n := row.length) (ρ := [.ro (lstD row), .ro (.int st), .ro heads, .ro (.int (b : Int)), .ow (dF row (dueF row (hdO ks v) st)), s5, s6, .ow (optD (fwd (hdO ks v) st b))])
        (P := fun d => d = dF row (valD rl)) (fun k ρ => ∃ (G : Pl → D) (s6 : Slot), ((∀ j, j < k → hdO ks v j = none ∧ fwd (hdO ks v) st b ≠ none) ∧ ∀ (j : Nat) (p : Pl), row[j]? = some p → G p = if j < k then valD rl p else dueF row (hdO ks v) st p) ∧ ρ = [.ro (lstD row), .ro (.int st), .ro heads, .ro (.int (b : Int)), .ow (dF row G), s5, s6, .ow (optD (fwd (hdO ks v) st b))]) (ds := [.int row.length]) (by simp -implicitDefEqProofs [ln]) (by rw [rng_1, Int.toNat_natCast]) ⟨dueF row (hdO ks v) st, _, ⟨fun j hj => absurd hj (Nat.not_lt_zero _), fun j p hj => by rw [if_neg (Nat.not_lt_zero _)]⟩, rfl⟩ (by
          rintro k _ hkl ⟨G, s6, ⟨hh, hG⟩, rfl⟩
          obtain ⟨p, hp⟩ : ∃ p, row[k]? = some p := ⟨_, List.getElem?_eq_getElem hkl⟩
          have gp := gr hp
          have ii := ink k
          by_cases q : (k : Int) ∈ ks
          · rw [show decide ((k : Int) ∈ ks) = true by simpa using q] at ii
            refine .inr ⟨dF row G, [.ro (lstD row), .ro (.int st), .ro heads, .ro (.int (b : Int)), .un, s5, .ro (.int (0 + (k : Int))), .ow (optD (fwd (hdO ks v) st b))], by simp -implicitDefEqProofs [-Int.zero_add, ii], fin fun j p hj => ?_⟩
            rw [hG j p hj]
            split
            · rfl
            · rename_i hjk
              refine some_val j p hj fun e => ?_
              have := fwd_none.mp e k (by omega)
              unfold hdO at this
              rw [if_pos q] at this
              cases this
          · rw [show decide ((k : Int) ∈ ks) = false by simpa using q] at ii
            cases he : fwd (hdO ks v) st b with
            | none =>
              have n1 : gIsN .non .non = .ok (.bl true) := rfl
              refine .inr ⟨dF row G, [.ro (lstD row), .ro (.int st), .ro heads, .ro (.int (b : Int)), .un, s5, .ro (.int (0 + (k : Int))), .ow .non], by simp -implicitDefEqProofs [-Int.zero_add, ii, optD, n1], fin fun j p hj => ?_⟩
              have hb0 := fwd_none.mp he
              rw [hG j p hj]
              split
              · rfl
              · by_cases e2 : fwd (hdO ks v) st j = none
                · have ng := C.bad hb0 j p hj (fwd_none.mp e2)
                  unfold dueF valD
                  rw [idx_at C.nd hj, e2, if_neg ng]
                  rfl
                · exact some_val j p hj e2
            | some u =>
              have hno : hdO ks v k = none := if_neg q
              have n1 : gIsN (.int u) .non = .ok (.bl false) := rfl
              have nh : ∀ j, j ≤ k → hdO ks v j = none := fun j hj => by
                by_cases e : j = k
                · rw [e]; exact hno
                · exact (hh j (by omega)).1
              obtain ⟨g, ev⟩ := C.back h0 he k p hp nh
              have vp : valD rl p = .int (u + st * (0 + (k : Int) + 1)) := by
                unfold valD
                rw [if_pos g, ev, Int.zero_add]
              have hs := C.st0
              have m1 : gMul (.int st) (.int (0 + (k : Int) + 1)) = .ok (.int (st * (0 + (k : Int) + 1))) := g_mul2 (by omega)
              have pt := put_dF (ks := row) (v := G) (p := p) (x := .int (u + st * (0 + (k : Int) + 1))) (by omega) rfl
              rw [insK_in (List.mem_of_getElem? hp)] at pt
              refine .inl ⟨[.ro (lstD row), .ro (.int st), .ro heads, .ro (.int (b : Int)), .ow (dF row (fun j => if j = p then .int (u + st * (0 + (k : Int) + 1)) else G j)), s5, .ro (.int (0 + (k : Int))), .ow (.int u)], ?_, (fun j => if j = p then .int (u + st * (0 + (k : Int) + 1)) else G j), _, ⟨fun j hj => ⟨nh j (by omega), by simp⟩, fun j q hj => ?_⟩, rfl⟩
              · simp -implicitDefEqProofs [-Int.zero_add, ii, optD, n1, gp, m1, pt]
              · show (if q = p then D.int (u + st * (0 + (k : Int) + 1)) else G q) = _
                by_cases e : q = p
                · have ej := row_uniq C.nd (e ▸ hj) hp
                  rw [if_pos e, if_pos (by omega), e, vp]
                · have ej : j ≠ k := fun y => e (by rw [y, hp] at hj; exact (Option.some.inj hj).symm)
                  rw [if_neg e, hG j q hj]
                  by_cases hjk : j < k
                  · rw [if_pos hjk, if_pos (by omega)]
                  · rw [if_neg hjk, if_neg (by omega)])
      have cnd : cAnd (mTest (mBin gGe (mVar 3) (mC (.int 0)))) (mTest (mBin gNotIn (mC (.int 0)) (mVar 2))) [.ro (lstD row), .ro (.int st), .ro heads, .ro (.int (b : Int)), .ow (dF row (dueF row (hdO ks v) st)), s5, s6, .un] = .ok true := by simp -implicitDefEqProofs [bk, bk', ni0]
      have set7 : mSet 7 (mImm (mBinE gIx (mVar 4) (mBinE gIx (mVar 0) (mVar 3)))) [.ro (lstD row), .ro (.int st), .ro heads, .ro (.int (b : Int)), .ow (dF row (dueF row (hdO ks v) st)), s5, s6, .un] = .nx [.ro (lstD row), .ro (.int st), .ro heads, .ro (.int (b : Int)), .ow (dF row (dueF row (hdO ks v) st)), s5, s6, .ow (optD (fwd (hdO ks v) st b))] := by simp -implicitDefEqProofs [gb, gf, imb]
      rw [ap_if, cnd, R.toS_ok, if_pos rfl, ap_seq, set7, RS.thn_nx]
      rcases lp with ⟨ρ', e, G, t6, ⟨_, hG⟩, rfl⟩ | ⟨d, ρ', e, rfl⟩
      · refine .inl ⟨s5, t6, .ow (optD (fwd (hdO ks v) st b)), ?_⟩
        rw [← fin (G := G) fun j p hj => by rw [hG j p hj, if_pos (List.getElem?_eq_some_iff.mp hj).1]]
        exact e
      · exact .inr ⟨_, ρ', e, rfl⟩
  rcases main with ⟨t5, t6, t7, e⟩ | ⟨d, ρ', e, rfl⟩
  · rw [ap_seq, e]
    simp -implicitDefEqProofs
  · rw [ap_seq, e]
    simp -implicitDefEqProofs
end
end K14

set_option maxRecDepth 100000
namespace K14
open PySem PySem.Spec PyProof.Rows L2 Rs
theorem lcR_rng {i n : Nat} {t : Evn → R Bool} {ρ : Evn} {p : Nat → Bool} (hn : n < 100000) (h : ∀ k, k < n → t (ρ.set i (.ro (.int (0 + (k : Int))))) = .ok (p k)) (he : ∀ s : D, (ρ.set i (.ro s))[i]? = some (.ro s)) : lcR i t (mImm (mVar i)) (rangeD 0 n) ρ = .ok (.node .lst (((List.range n).filter p).map fun k : Nat => D.int (0 + (k : Int)))) := by
  unfold lcR
  rw [rangeD_len, if_pos hn, lcL_filter (p := fun d => match d with | .int x => p x.toNat | _ => false) (g := fun d => d) fun x hx => ?_]
  · rw [R.bind_ok, List.map_id']
    unfold rangeD
    rw [List.filter_map]
    have e : (List.range n).filter ((fun d : D => match d with | .int x => p x.toNat | _ => false) ∘ fun k : Nat => D.int (0 + (k : Int))) = (List.range n).filter p := List.filter_congr fun k _ => by
      show p (0 + (k : Int)).toNat = p k
      rw [show (0 + (k : Int)).toNat = k by omega]
    rw [e]
  · obtain ⟨k, hk⟩ := List.mem_iff_getElem?.mp hx
    obtain ⟨rfl, hl⟩ := rangeD_get hk
    refine ⟨?_, fun _ => by simp -implicitDefEqProofs [-Int.zero_add, he]⟩
    rw [h k hl]
    show R.ok (p k) = R.ok (p (0 + (k : Int)).toNat)
    rw [show (0 + (k : Int)).toNat = k by omega]
theorem okD_ns (L : List Nat) : okD 60 (.node .lst (L.map fun k : Nat => D.int (0 + (k : Int)))) = true := by
  simp only [okD, Bool.and_eq_true, decide_eq_true_eq]
  refine ⟨by omega, okDs_iff.mpr fun d hd => ?_⟩
  obtain ⟨p, _, rfl⟩ := List.mem_map.mp hd
  rfl
theorem ne_nil_ns (L : List Nat) : gNe (.node .lst (L.map fun k : Nat => D.int (0 + (k : Int)))) (.node .lst []) = .ok (.bl (!L.isEmpty)) := by
  unfold gNe
  rw [if_pos ⟨okD_ns L, by rfl⟩]
  cases L with
  | nil => rfl
  | cons p L => rfl
theorem eq_nil_ns (L : List Nat) : gEq (.node .lst (L.map fun k : Nat => D.int (0 + (k : Int)))) (.node .lst []) = .ok (.bl L.isEmpty) := by
  unfold gEq
  rw [if_pos ⟨okD_ns L, by rfl⟩]
  cases L with
  | nil => rfl
  | cons p L => rfl
section
variable {h w : Nat}
theorem round_run {rl : Pl → Ru} {row : List Pl} {ks : List Int} {v : Int → Int} {b : Nat} {st back : Int} (k : ShOk h w rl) (hr : ∀ p, p ∈ row ↔ p ∈ boxP 0 h 0 w) (C : Chn rl row (hdO ks v) b st) (hb : back = b ∨ (back < 0 ∧ (0 : Int) ∈ ks)) : f_l_round [shD h w rl, lstD row, dKF ks fun i => .int (v i), .int back] = .ok (.bl true) := by
  have hn := C.len
  have hbl := C.lt
  generalize hH : (dKF ks fun i => .int (v i)) = heads
  have ink : ∀ k : Nat, gIn (.int (0 + (k : Int))) heads = .ok (.bl (decide ((k : Int) ∈ ks))) := fun k => by rw [← hH, in_dK, Int.zero_add]
  have rr := ring_run k
  have tb : ((b : Int) + 1).toNat = b + 1 := by omega
  have lc : ∀ d : D, lcR 5 (mTest (mBin gIn (mVar 5) (mVar 2))) (mImm (mVar 5)) (rangeD 0 (b + 1)) [.ro (shD h w rl), .ro (lstD row), .ro heads, .ro (.int (b : Int)), .ow d, .un, .un] = .ok (.node .lst (((List.range (b + 1)).filter fun k : Nat => decide ((k : Int) ∈ ks)).map fun k : Nat => D.int (0 + (k : Int)))) := fun d => by
    refine lcR_rng (by omega) (fun k _ => ?_) fun s => rfl
    have ii := ink k
    simp -implicitDefEqProofs [-Int.zero_add, ii]
  have ne := ne_nil_ns ((List.range (b + 1)).filter fun k : Nat => decide ((k : Int) ∈ ks))
  unfold f_l_round
  refine run_o (ρ0 := [.ro (shD h w rl), .ro (lstD row), .ro heads, .ro (.int back), .un, .un, .un]) rfl ?_
  unfold m_l_round
  cases he : fwd (hdO ks v) st b with
  | some e =>
    have ag : ∀ p ∈ boxP 0 h 0 w, Good rl p := fun p hp => by
      obtain ⟨j, hj⟩ := List.mem_iff_getElem?.mp ((hr p).mpr hp)
      cases hf : fwd (hdO ks v) st j with
      | some u => exact (C.fwd_ok j p u hj hf).1.1
      | none =>
        have := fwd_none.mp hf
        exact (C.back (this 0 (Nat.zero_le _)) he j p hj this).1
    have rn : f_ring [shD h w rl] = .ok .non := by
      rcases rr with z | z
      · exact z.2
      · exact absurd ag z.1
    have nn : gIsN .non .non = .ok (.bl true) := rfl
    refine seqF (ρ' := [.ro (shD h w rl), .ro (lstD row), .ro heads, .ro (.int back), .ow .non, .un, .un]) (by simp -implicitDefEqProofs [rn]) ?_
    have cnd : cOr (mTest (mBin gLt (mVar 3) (mC (.int 0)))) (mTest (mBin gNe (mLcR 5 (mCons (mBin gAdd (mVar 3) (mC (.int 1))) mNil) (mTest (mBin gIn (mVar 5) (mVar 2))) (mImm (mVar 5))) (mLst mNil))) [.ro (shD h w rl), .ro (lstD row), .ro heads, .ro (.int back), .ow .non, .un, .un] = .ok true := by
      rcases hb with rfl | ⟨b0, _⟩
      · have e1 : ((List.range (b + 1)).filter fun k : Nat => decide ((k : Int) ∈ ks)).isEmpty = false := by
          cases z : ((List.range (b + 1)).filter fun k : Nat => decide ((k : Int) ∈ ks)) with
          | cons x xs => rfl
          | nil =>
            have z1 := List.filter_eq_nil_iff.mp z
            have : fwd (hdO ks v) st b = none := fwd_none.mpr fun j hj => by
              have := z1 j (List.mem_range.mpr (by omega))
              exact if_neg (by simpa using this)
            rw [this] at he
            cases he
        rw [e1] at ne
        have nb : ¬ ((b : Int) < 0) := by omega
        have l := lc .non
        simp -implicitDefEqProofs [-Int.zero_add, nb, tb, l, ne]
      · simp -implicitDefEqProofs [b0]
    simp -implicitDefEqProofs only [ap_seq, ap_if, cnd]
    simp -implicitDefEqProofs [nn]
  | none =>
    have hno := fwd_none.mp he
    have hback : back = b := by
      rcases hb with z | ⟨_, z⟩
      · exact z
      · have := hno 0 (Nat.zero_le _)
        unfold hdO at this
        rw [if_pos (by simpa using z)] at this
        cases this
    subst hback
    obtain ⟨s0, hs0⟩ : ∃ q, row[0]? = some q := ⟨_, List.getElem?_eq_getElem (by omega)⟩
    have nbad := C.bad hno 0 s0 hs0 fun j hj => hno j (by omega)
    obtain ⟨RL, er, RR⟩ : ∃ RL, f_ring [shD h w rl] = .ok (lstD RL) ∧ Ring rl (boxP 0 h 0 w) RL := by
      rcases rr with z | z
      · exact absurd (z.1 s0 ((hr s0).mp (List.mem_of_getElem? hs0))) nbad
      · exact z.2
    have mem := C.round RR fun p hp => (hr p).mpr hp
    have rll : RL.length ≤ 144 := Nat.le_trans (nodup_len RR.nd fun p hp => (RR.sub p hp).1) k.len
    have hl0 : 0 < RL.length := List.length_pos_iff.mpr RR.ne
    refine seqF (ρ' := [.ro (shD h w rl), .ro (lstD row), .ro heads, .ro (.int (b : Int)), .ow (lstD RL), .un, .un]) (by simp -implicitDefEqProofs [er]) ?_
    have e1 : ((List.range (b + 1)).filter fun k : Nat => decide ((k : Int) ∈ ks)) = [] := by
      refine List.filter_eq_nil_iff.mpr fun j hj => ?_
      have := hno j (by have := List.mem_range.mp hj; omega)
      unfold hdO at this
      split at this
      · cases this
      · rename_i z; simpa using z
    have l := lc (lstD RL)
    rw [e1] at ne l
    have ne' : gNe (.node .lst []) (.node .lst []) = .ok (.bl false) := ne
    have l' : lcR 5 (mTest (mBin gIn (mVar 5) (mVar 2))) (mImm (mVar 5)) (rangeD 0 (b + 1)) [.ro (shD h w rl), .ro (lstD row), .ro heads, .ro (.int (b : Int)), .ow (lstD RL), .un, .un] = .ok (.node .lst []) := l
    have nb : ¬ ((b : Int) < 0) := by omega
    refine seqF (ρ' := [.ro (shD h w rl), .ro (lstD row), .ro heads, .ro (.int (b : Int)), .ow (lstD RL), .un, .un]) (by simp -implicitDefEqProofs [-Int.zero_add, nb, tb, l', ne']) ?_
    have cut : gSl (lstD row) none (some ((b : Int) + 1)) = .ok (lstD (row.take (b + 1))) := by
      have e1 : row = row.take (b + 1) ++ row.drop (b + 1) := (List.take_append_drop (b + 1) row).symm
      have le : (row.take (b + 1)).length = b + 1 := by rw [List.length_take]; omega
      have := sl_pre (xs := (row.take (b + 1)).map Rs.pairD) (ys := (row.drop (b + 1)).map Rs.pairD) (by rw [← List.map_append, ← e1]; exact imms_pairs _)
      rw [← List.map_append, ← e1, List.length_map, le] at this
      exact this
    have so1 := sorted_lst (L := RL)
    have so2 := sorted_lst (L := row.take (b + 1))
    have tt : ∀ p, p ∈ row.take (b + 1) ↔ p ∈ RL := fun p => by
      rw [mem]
      constructor
      · intro hp
        obtain ⟨j, hj⟩ := List.mem_iff_getElem?.mp hp
        have jl := (List.getElem?_eq_some_iff.mp hj).1
        rw [List.length_take] at jl
        rw [List.getElem?_take_of_lt (by omega)] at hj
        exact ⟨j, by omega, hj⟩
      · rintro ⟨j, hj, hp⟩
        exact List.mem_iff_getElem?.mpr ⟨j, by rw [List.getElem?_take_of_lt (by omega)]; exact hp⟩
    have sub : ∀ p, p ∈ RL → p ∈ boxP 0 h 0 w := fun p hp => (RR.sub p hp).1
    have K1 : KeysOf (boxP 0 h 0 w) (fun p => p ∈ RL) RL := ⟨RR.nd, fun p => Iff.rfl, sub⟩
    have K2 : KeysOf (boxP 0 h 0 w) (fun p => p ∈ RL) (row.take (b + 1)) := ⟨List.Nodup.sublist (List.take_sublist _ _) C.nd, tt, sub⟩
    have es : sortP RL = sortP (row.take (b + 1)) := (keys_due K1.sort (sortP_up _) (q := fun p => decide (p ∈ RL)) fun p => by rw [decide_eq_true_eq]).trans (keys_due K2.sort (sortP_up _) (q := fun p => decide (p ∈ RL)) fun p => by rw [decide_eq_true_eq]).symm
    rw [es] at so1
    have ns : gNe (lstD (sortP (row.take (b + 1)))) (lstD (sortP (row.take (b + 1)))) = .ok (.bl false) := g_ner (okD_pairs _)
    have il : isiD .list (lstD RL) = some true := rfl
    refine seqF (ρ' := [.ro (shD h w rl), .ro (lstD row), .ro heads, .ro (.int (b : Int)), .ow (lstD RL), .un, .un]) (by simp -implicitDefEqProofs [-List.map_take, il, so1, so2, cut, ns]) ?_
    -- the one ahead, place by place
    obtain ⟨aF, haF⟩ : ∃ aF : Pl → D, ∀ j p q, row[j]? = some p → row[prv b j]? = some q → aF p = pairD q := ⟨fun p => pairD (row.getD (prv b (row.idxOf p)) (0, 0)), fun j p q h1 h2 => by
      show pairD (row.getD (prv b (row.idxOf p)) (0, 0)) = _
      rw [idx_at C.nd h1, List.getD_eq_getElem?_getD, h2]
      rfl⟩
    have gr : ∀ {k : Nat} {p : Pl} {x : Int}, row[k]? = some p → x = k → gIx (lstD row) (.int x) = .ok (pairD p) := fun {k p x} hk e => gIx_at (k := k) rfl e (by rw [List.getElem?_map, hk]; rfl)
    refine seqF (ρ' := [.ro (shD h w rl), .ro (lstD row), .ro heads, .ro (.int (b : Int)), .ow (lstD RL), .un, .ow (dF [] aF)]) (by simp -implicitDefEqProofs [mDT]) ?_
    obtain ⟨tl1, htl⟩ : ∃ t, t = row.drop 1 := ⟨_, rfl⟩
    have ht1 : ∀ j, tl1[j]? = row[j + 1]? := fun j => by rw [htl, List.getElem?_drop, Nat.add_comm]
    have nd1 : tl1.Nodup := by rw [htl]; exact List.Nodup.sublist (List.drop_sublist _ _) C.nd
    refine seqX (P := fun ρ => ∃ s5, ρ = [.ro (shD h w rl), .ro (lstD row), .ro heads, .ro (.int (b : Int)), .ow (lstD RL), s5, .ow (dF (tl1.take b) aF)])
      (forR_ex (lo := 1) (n := b) (fun j ρ => ∃ s5, ρ = [.ro (shD h w rl), .ro (lstD row), .ro heads, .ro (.int (b : Int)), .ow (lstD RL), s5, .ow (dF (tl1.take j) aF)]) (ds := [.int 1, .int ((b : Int) + 1)]) (by simp -implicitDefEqProofs) (by rw [rng_2]; congr 2; omega) ⟨_, rfl⟩ (by
      rintro j _ hj ⟨s5, rfl⟩
      obtain ⟨p, hp⟩ : ∃ p, row[j + 1]? = some p := ⟨_, List.getElem?_eq_getElem (by omega)⟩
      obtain ⟨q, hq⟩ : ∃ q, row[j]? = some q := ⟨_, List.getElem?_eq_getElem (by omega)⟩
      have hd : tl1[j]? = some p := by rw [ht1]; exact hp
      have hnn : p ∉ tl1.take j := by rw [← (List.getElem?_eq_some_iff.mp hd).2]; exact take_nd nd1 (List.getElem?_eq_some_iff.mp hd).1
      have pn := put_new (ks := tl1.take j) (v := aF) (p := p) (by rw [List.length_take]; omega) hnn
      rw [← take_box hd, haF (j + 1) p q hp hq] at pn
      have g1 := gr hp (x := 1 + (j : Int)) (by omega)
      have g2 := gr hq (x := 1 + (j : Int) - 1) (by omega)
      refine ⟨_, ?_, .ro (.int (1 + (j : Int))), rfl⟩
      simp -implicitDefEqProofs [-List.map_take, g1, g2, pn])) ?_
    rintro _ ⟨s5, rfl⟩
    obtain ⟨sb, hsb⟩ : ∃ q, row[b]? = some q := ⟨_, List.getElem?_eq_getElem (by omega)⟩
    have g0 := gr hs0 (x := 0) rfl
    have gb := gr hsb (x := (b : Int)) rfl
    have hnn : s0 ∉ tl1.take b := fun z => by
      obtain ⟨j, hj⟩ := List.mem_iff_getElem?.mp (List.mem_of_mem_take z)
      rw [ht1] at hj
      have := row_uniq C.nd hj hs0
      omega
    have pn := put_new (ks := tl1.take b) (v := aF) (p := s0) (by rw [List.length_take]; omega) hnn
    rw [haF 0 s0 sb hs0 hsb] at pn
    refine seqF (ρ' := [.ro (shD h w rl), .ro (lstD row), .ro heads, .ro (.int (b : Int)), .ow (lstD RL), s5, .ow (dF (tl1.take b ++ [s0]) aF)]) (by simp -implicitDefEqProofs [-List.map_take, -List.map_append, g0, gb, pn]) ?_
    have inA : ∀ p, p ∈ RL → p ∈ tl1.take b ++ [s0] := fun p hp => by
      obtain ⟨j, hj, e⟩ := (mem p).mp hp
      cases j with
      | zero =>
        rw [hs0] at e
        rw [Option.some.inj e]
        simp
      | succ j =>
        refine List.mem_append_left _ (List.mem_iff_getElem?.mpr ⟨j, ?_⟩)
        rw [List.getElem?_take_of_lt (by omega), ht1]
        exact e
    have ln : gLen [lstD RL] = .ok (.int RL.length) := by rw [g_len_lst, List.length_map]
    have tl : ((RL.length : Int)).toNat = RL.length := Int.toNat_natCast _
    generalize hA : tl1.take b ++ [s0] = A at inA
    have lc2 : lcR 5 (mTest (mBin gNe (mBinE gIx (mVar 6) (mBinE gIx (mVar 4) (mBin gSub (mVar 5) (mC (.int 1))))) (mBinE gIx (mVar 4) (mVar 5)))) (mImm (mVar 5)) (rangeD 0 RL.length) [.ro (shD h w rl), .ro (lstD row), .ro heads, .ro (.int (b : Int)), .ow (lstD RL), s5, .ow (dF A aF)] = .ok (.node .lst (((List.range RL.length).filter fun _ => false).map fun k : Nat => D.int (0 + (k : Int)))) := by
      refine lcR_rng (by omega) (fun j hj => ?_) fun s => rfl
      obtain ⟨q, hq⟩ : ∃ q, RL[j]? = some q := ⟨_, List.getElem?_eq_getElem hj⟩
      obtain ⟨i, p, hp, hi, gp⟩ : ∃ i p, RL[i]? = some p ∧ (i + 1) % RL.length = j ∧ gIx (lstD RL) (.int (0 + (j : Int) - 1)) = .ok (pairD p) := by
        cases j with
        | zero =>
          obtain ⟨p, hp⟩ : ∃ p, RL[RL.length - 1]? = some p := ⟨_, List.getElem?_eq_getElem (by omega)⟩
          exact ⟨RL.length - 1, p, hp, by rw [show RL.length - 1 + 1 = RL.length by omega, Nat.mod_self], gIx_back (k := RL.length - 1) rfl (by omega) (by rw [List.length_map]; omega) (by rw [List.getElem?_map, hp]; rfl)⟩
        | succ j =>
          obtain ⟨p, hp⟩ : ∃ p, RL[j]? = some p := ⟨_, List.getElem?_eq_getElem (by omega)⟩
          exact ⟨j, p, hp, Nat.mod_eq_of_lt hj, gIx_at (k := j) rfl (by omega) (by rw [List.getElem?_map, hp]; rfl)⟩
      have n := RR.nxt i p q hp (by rw [hi]; exact hq)
      have pm := List.mem_of_getElem? hp
      obtain ⟨j', hj', e'⟩ := (mem p).mp pm
      obtain ⟨q', c1, c2, _⟩ := C.step j' p e' (hno j' hj')
      have n' : q ∈ (rl p).lst := n
      rw [c2] at n'
      rw [← List.mem_singleton.mp n'] at c1
      have ga := ix_dF (v := aF) (inA p pm)
      rw [haF j' p q e' c1] at ga
      have gq : gIx (lstD RL) (.int (0 + (j : Int))) = .ok (pairD q) := gIx_at (k := j) rfl (by omega) (by rw [List.getElem?_map, hq]; rfl)
      have nn : gNe (pairD q) (pairD q) = .ok (.bl false) := g_ner (okD_pair q (by omega))
      simp -implicitDefEqProofs [-Int.zero_add, gp, ga, gq, nn]
    have e3 : ((List.range RL.length).filter fun _ => false) = [] := List.filter_eq_nil_iff.mpr fun _ _ => by simp
    rw [e3] at lc2
    have lc2' : lcR 5 (mTest (mBin gNe (mBinE gIx (mVar 6) (mBinE gIx (mVar 4) (mBin gSub (mVar 5) (mC (.int 1))))) (mBinE gIx (mVar 4) (mVar 5)))) (mImm (mVar 5)) (rangeD 0 RL.length) [.ro (shD h w rl), .ro (lstD row), .ro heads, .ro (.int (b : Int)), .ow (lstD RL), s5, .ow (dF A aF)] = .ok (.node .lst []) := lc2
    have en : gEq (.node .lst []) (.node .lst []) = .ok (.bl true) := eq_nil_ns []
    simp -implicitDefEqProofs [ln, tl, lc2', en]
theorem right_run {rl : Pl → Ru} {row : List Pl} {ks : List Int} {v : Int → Int} {b : Nat} {st back way : Int} (k : ShOk h w rl) (hr : ∀ p, p ∈ row ↔ p ∈ boxP 0 h 0 w) (C : Chn rl row (hdO ks v) b st) (hk : ks.length ≤ 2 ∧ ∀ i ∈ ks, 0 ≤ i) (hb : back = b ∨ (back < 0 ∧ (0 : Int) ∈ ks)) : f_l_right [shD h w rl, lstD row, .int st, dKF ks fun i => .int (v i), .int back, .int way] = .ok (.bl true) := by
  have r0 := values_run k (row := row) fun p hp => (hr p).mp hp
  have r1 := due_run hr C hk.1 hb
  have r2 := round_run k hr C hb
  have r3 := touches_run k hr C hk
  unfold f_l_right
  generalize hH : (dKF ks fun i => .int (v i)) = heads at r1 r2 r3
  refine run_o (ρ0 := [.ro (shD h w rl), .ro (lstD row), .ro (.int st), .ro heads, .ro (.int back), .ro (.int way)]) rfl ?_
  unfold m_l_right
  by_cases q0 : way = 0
  · subst q0
    simp -implicitDefEqProofs [r0, r1]
  · by_cases q1 : way = 1
    · subst q1
      simp -implicitDefEqProofs [r2]
    · simp -implicitDefEqProofs [q0, q1, r3]
end
end K14

set_option maxRecDepth 100000
namespace K14
open PySem PySem.Spec PyProof.Rows L2 Rs
/-- the rules of a row -/
def rlG (row : List Pl) (hd : Nat → Option Int) (b : Nat) (st : Int) (m : Nat) (p : Pl) : Ru :=
  match hd (row.idxOf p) with
  | some v => .num v
  | none => stepR (row.getD (prv b (row.idxOf p)) (0, 0)) st m
section
variable {h w : Nat} {row : List Pl} {b : Nat} {st : Int} {m : Nat}
theorem prv_lt {k : Nat} (hb : b < row.length) (hk : k < row.length) : prv b k < row.length := by
  cases k with
  | zero => exact hb
  | succ k => show k < _; omega
theorem rlG_none {hd : Nat → Option Int} {k : Nat} {p q : Pl} (nd : row.Nodup) (hp : row[k]? = some p) (hk : hd k = none) (hq : row[prv b k]? = some q) : rlG row hd b st m p = stepR q st m := by
  unfold rlG
  rw [idx_at nd hp, hk, List.getD_eq_getElem?_getD, hq]
  rfl
theorem rlG_some {hd : Nat → Option Int} {k : Nat} {p : Pl} {v : Int} (nd : row.Nodup) (hp : row[k]? = some p) (hk : hd k = some v) : rlG row hd b st m p = .num v := by
  unfold rlG
  rw [idx_at nd hp, hk]
theorem chn {hd : Nat → Option Int} (nd : row.Nodup) (hl : row.length ≤ 144) (hb : b < row.length) (s0 : 0 ≤ st ∧ st ≤ 10) (hv : ∀ k v, hd k = some v → 0 ≤ v ∧ v < 1000) : Chn (rlG row hd b st m) row hd b st where
  nd := nd
  lt := hb
  head k p v hp hk := ⟨rlG_some nd hp hk, hv k v hk⟩
  step k p hp hk := by
    obtain ⟨q, hq⟩ : ∃ q, row[prv b k]? = some q := ⟨_, List.getElem?_eq_getElem (prv_lt hb (List.getElem?_eq_some_iff.mp hp).1)⟩
    obtain ⟨_, e2, _, e4⟩ := stepR_facts q st m
    rw [rlG_none nd hp hk hq]
    exact ⟨q, hq, e2, e4 s0.1 (by omega)⟩
  st0 := s0
  len := hl
theorem sh_row {hd : Nat → Option Int} (bh : 0 < h ∧ h ≤ 12) (bw : 0 < w ∧ w ≤ 12) (nd : row.Nodup) (hr : ∀ p, p ∈ row ↔ p ∈ boxP 0 h 0 w) (hb : b < row.length) (hm : m ≤ 4) : ShOk h w (rlG row hd b st m) where
  hh := bh
  hw := bw
  dep p := by
    unfold rlG
    split
    · show 1 ≤ 8; omega
    · rw [(stepR_facts _ st m).1]; omega
  box p hp := by
    obtain ⟨k, hk⟩ := List.mem_iff_getElem?.mp ((hr p).mpr hp)
    cases e : hd k with
    | some v => rw [rlG_some nd hk e]; trivial
    | none =>
      obtain ⟨q, hq⟩ : ∃ q, row[prv b k]? = some q := ⟨_, List.getElem?_eq_getElem (prv_lt hb (List.getElem?_eq_some_iff.mp hk).1)⟩
      rw [rlG_none nd hk e hq]
      exact (stepR_facts q st m).2.2.1 h w ((hr q).mp (List.mem_of_getElem? hq))
/-- another number at a place -/
theorem rlG_put {ks : List Int} {v : Int → Int} {i : Nat} {p : Pl} {x : Int} (nd : row.Nodup) (hr : ∀ p, p ∈ row ↔ p ∈ boxP 0 h 0 w) (hp : row[i]? = some p) : shD h w (setR (rlG row (hdO ks v) b st m) p (.num x)) = shD h w (rlG row (hdO (if (i : Int) ∈ ks then ks else ks ++ [(i : Int)]) fun j => if j = (i : Int) then x else v j) b st m) := by
  refine sh_congr fun q hq => ?_
  obtain ⟨k, hk⟩ := List.mem_iff_getElem?.mp ((hr q).mpr hq)
  unfold setR
  by_cases e : q = p
  · have ek := row_uniq nd (e ▸ hk) hp
    subst ek
    rw [if_pos e, rlG_some nd hk (v := x)]
    unfold hdO
    rw [if_pos (by split <;> simp [*])]
    show some (if (k : Int) = (k : Int) then x else v k) = _
    rw [if_pos rfl]
  · have ek : k ≠ i := fun z => e (by rw [z, hp] at hk; exact (Option.some.inj hk).symm)
    have ek' : ¬ ((k : Int) = (i : Int)) := by omega
    rw [if_neg e]
    have eh : hdO (if (i : Int) ∈ ks then ks else ks ++ [(i : Int)]) (fun j => if j = (i : Int) then x else v j) k = hdO ks v k := by
      unfold hdO
      by_cases c : (k : Int) ∈ ks
      · rw [if_pos c, if_pos (by split <;> simp [c])]
        show some (if (k : Int) = (i : Int) then x else v k) = _
        rw [if_neg ek']
      · rw [if_neg c, if_neg (by split <;> simp [c, ek'])]
    unfold rlG
    rw [idx_at nd hk, eh]
end
theorem law_holds : ∀ ns : List Int, ns.length ≤ 63 → f_law [.node .fls (ns.map D.int)] = .ok (.bl true) := by
  intro ns hns
  have c0 := cell_run (ns := ns) (k := 0) (by omega)
  have c1 := cell_run (ns := ns) (k := 1) (by omega)
  have c2 := cell_run (ns := ns) (k := 2) (by omega)
  have c3 := cell_run (ns := ns) (k := 3) (by omega)
  generalize cellV ns (0 : Int).toNat = x0 at c0
  generalize cellV ns (1 : Int).toNat = x1 at c1
  generalize cellV ns (2 : Int).toNat = x2 at c2
  generalize cellV ns (3 : Int).toNat = x3 at c3
  obtain ⟨h, w, bh, bw, hsz⟩ := sizes_run x0
  obtain ⟨row, ⟨nd, hr, hl⟩, hrow⟩ := row_run bh bw x1
  have hs : h * w < 100000 := by
    have := Nat.mul_le_mul bh.2 bw.2
    omega
  have hl2 : row.length ≤ 144 := by
    rw [hl]
    exact Nat.mul_le_mul bh.2 bw.2
  have hl0 : 0 < row.length := by
    rw [hl]
    exact Nat.mul_pos bh.1 bw.1
  have ini := init_run bh bw
  have ln : gLen [lstD row] = .ok (.int row.length) := by rw [g_len_lst, List.length_map]
  have gr : ∀ {k : Nat} {p : Pl} {x : Int}, row[k]? = some p → x = k → gIx (lstD row) (.int x) = .ok (pairD p) := fun {k p x} hk e => gIx_at (k := k) rfl e (by rw [List.getElem?_map, hk]; rfl)
  unfold f_law
  refine run_o (ρ0 := [.ro (.node .fls (ns.map D.int)), .un, .un, .un, .un, .un, .un, .un, .un, .un, .un, .un, .un]) rfl ?_
  unfold m_law
  generalize hS : Slot.ro (.node .fls (ns.map D.int)) = S
  have vS : Slot.val (some S) = .ok (.node .fls (ns.map D.int)) := by rw [← hS]; rfl
  refine seqF (ρ' := [S, .ow (.int h), .ow (.int w), .un, .un, .un, .un, .un, .un, .un, .un, .un, .un]) (unp_run (by simp -implicitDefEqProofs [vS, c0, hsz]) rfl rfl) ?_
  refine seqF (ρ' := [S, .ow (.int h), .ow (.int w), .ow (.int x1), .un, .un, .un, .un, .un, .un, .un, .un, .un]) (by simp -implicitDefEqProofs [vS, c1]) ?_
  refine seqF (ρ' := [S, .ow (.int h), .ow (.int w), .ow (.int x1), .ow (lstD row), .un, .un, .un, .un, .un, .un, .un, .un]) (by simp -implicitDefEqProofs [hrow]) ?_
  obtain ⟨st, hst, st0⟩ : ∃ st : Int, 1 + x1 / 4 % 9 = st ∧ 0 ≤ st ∧ st ≤ 10 := ⟨_, rfl, by omega, by omega⟩
  obtain ⟨m, hm, hm4⟩ : ∃ m : Nat, x1 / 36 % 5 = m ∧ m ≤ 4 := ⟨(x1 / 36 % 5).toNat, by omega, by omega⟩
  generalize hway : x1 / 180 % 3 = way
  refine seqF (ρ' := [S, .ow (.int h), .ow (.int w), .ow (.int x1), .ow (lstD row), .ow (.int st), .un, .un, .un, .un, .un, .un, .un]) (by simp -implicitDefEqProofs [hst]) ?_
  refine seqF (ρ' := [S, .ow (.int h), .ow (.int w), .ow (.int x1), .ow (lstD row), .ow (.int st), .ow (.int (m : Int)), .un, .un, .un, .un, .un, .un]) (by simp -implicitDefEqProofs [hm]) ?_
  refine seqF (ρ' := [S, .ow (.int h), .ow (.int w), .ow (.int x1), .ow (lstD row), .ow (.int st), .ow (.int (m : Int)), .ow (.int way), .un, .un, .un, .un, .un]) (by simp -implicitDefEqProofs [hway]) ?_
  refine seqF (ρ' := [S, .ow (.int h), .ow (.int w), .ow (.int x1), .ow (lstD row), .ow (.int st), .ow (.int (m : Int)), .ow (.int way), .ow (shD h w fun _ => .num 0), .un, .un, .un, .un]) (by simp -implicitDefEqProofs [ini]) ?_
  -- the places behind the first one: their rules do not tell of b
  obtain ⟨tl1, htl⟩ : ∃ t, t = row.drop 1 := ⟨_, rfl⟩
  have ht1 : ∀ j, tl1[j]? = row[j + 1]? := fun j => by rw [htl, List.getElem?_drop, Nat.add_comm]
  have nd1 : tl1.Nodup := by rw [htl]; exact List.Nodup.sublist (List.drop_sublist _ _) nd
  let rl0 : Pl → Ru := fun p => stepR (row.getD (row.idxOf p - 1) (0, 0)) st m
  refine seqX (P := fun ρ => ∃ s9, ρ = [S, .ow (.int h), .ow (.int w), .ow (.int x1), .ow (lstD row), .ow (.int st), .ow (.int (m : Int)), .ow (.int way), .ow (shD h w (mixR rl0 tl1)), s9, .un, .un, .un])
    ((forR_ex (lo := 1) (n := row.length - 1) (fun j ρ => ∃ s9, ρ = [S, .ow (.int h), .ow (.int w), .ow (.int x1), .ow (lstD row), .ow (.int st), .ow (.int (m : Int)), .ow (.int way), .ow (shD h w (mixR rl0 (tl1.take j))), s9, .un, .un, .un]) (ds := [.int 1, .int row.length]) (by simp -implicitDefEqProofs [ln]) (by rw [rng_2]; congr 2; omega) ⟨_, by rw [List.take_zero, mix_nil]⟩ (by
      rintro j _ hj ⟨s9, rfl⟩
      obtain ⟨p, hp⟩ : ∃ p, row[j + 1]? = some p := ⟨_, List.getElem?_eq_getElem (by omega)⟩
      obtain ⟨q, hq⟩ : ∃ q, row[j]? = some q := ⟨_, List.getElem?_eq_getElem (by omega)⟩
      have hd : tl1[j]? = some p := by rw [ht1]; exact hp
      have er : rl0 p = stepR q st m := by
        show stepR (row.getD (row.idxOf p - 1) (0, 0)) st m = _
        rw [idx_at nd hp, List.getD_eq_getElem?_getD, Nat.add_sub_cancel, hq]
        rfl
      have ff := stepR_facts q st m
      have pt := put_in (r0 := mixR rl0 (tl1.take j)) (x := rl0 p) hs ((hr p).mp (List.mem_of_getElem? hp)) (by rw [er, ff.1]; omega) (by rw [er]; exact ff.2.2.1 h w ((hr q).mp (List.mem_of_getElem? hq)))
      rw [mix_put, ← take_box hd, er] at pt
      have g1 := gr hp (x := 1 + (j : Int)) (by omega)
      have g2 := gr hq (x := 1 + (j : Int) - 1) (by omega)
      have ru := K14.rule_run q st m
      refine ⟨_, ?_, .ro (.int (1 + (j : Int))), rfl⟩
      simp -implicitDefEqProofs [-List.map_take, g1, g2, ru, pt])).imp fun ρ' x => ⟨x.1, by
        obtain ⟨_, s9, rfl⟩ := x
        exact ⟨s9, by rw [List.take_of_length_le (by rw [htl, List.length_drop]; omega)]⟩⟩) ?_
  rintro _ ⟨s9, rfl⟩
  refine seqF (ρ' := [S, .ow (.int h), .ow (.int w), .ow (.int x1), .ow (lstD row), .ow (.int st), .ow (.int (m : Int)), .ow (.int way), .ow (shD h w (mixR rl0 tl1)), s9, .ow (.int (-1)), .un, .un]) (by simp -implicitDefEqProofs) ?_
  have m2 : gMod (.int x2) (.int 1000) = .ok (.int (x2 % 1000)) := g_mod (by omega)
  have u0 : 0 ≤ x2 % 1000 ∧ x2 % 1000 < 1000 := by omega
  generalize x2 % 1000 = u at m2 u0
  refine seqF (ρ' := [S, .ow (.int h), .ow (.int w), .ow (.int x1), .ow (lstD row), .ow (.int st), .ow (.int (m : Int)), .ow (.int way), .ow (shD h w (mixR rl0 tl1)), s9, .ow (.int (-1)), .ow (dKF [0] fun _ => .int u), .un]) (by simp -implicitDefEqProofs [vS, c2, m2]) ?_
  obtain ⟨s0, hs0⟩ : ∃ q, row[0]? = some q := ⟨_, List.getElem?_eq_getElem hl0⟩
  have hs0B := (hr s0).mp (List.mem_of_getElem? hs0)
  have g0 := gr hs0 (x := 0) rfl
  -- the first one
  have first : ∀ (hd : Nat → Option Int) (b : Nat), (∀ k, hd (k + 1) = none) → b < row.length → shD h w (setR (mixR rl0 tl1) s0 (rlG row hd b st m s0)) = shD h w (rlG row hd b st m) := fun hd b hh hb => by
    refine sh_congr fun q hq => ?_
    obtain ⟨k, hk⟩ := List.mem_iff_getElem?.mp ((hr q).mpr hq)
    have kl := (List.getElem?_eq_some_iff.mp hk).1
    unfold setR
    by_cases e : q = s0
    · rw [if_pos e, e]
    · rw [if_neg e]
      cases k with
      | zero => rw [hs0] at hk; exact absurd (Option.some.inj hk).symm e
      | succ k =>
        obtain ⟨q', hq'⟩ : ∃ q', row[k]? = some q' := ⟨_, List.getElem?_eq_getElem (by omega)⟩
        have hd1 : q ∈ tl1 := List.mem_iff_getElem?.mpr ⟨k, by rw [ht1]; exact hk⟩
        unfold mixR
        rw [if_pos hd1, rlG_none nd hk (hh k) (q := q') hq']
        show stepR (row.getD (row.idxOf q - 1) (0, 0)) st m = _
        rw [idx_at nd hk, List.getD_eq_getElem?_getD, Nat.add_sub_cancel, hq']
        rfl
  refine seqX (P := fun ρ => ∃ (ks : List Int) (v : Int → Int) (b : Nat) (back : Int), ((ks = [] ∨ ks = [0]) ∧ (∀ i ∈ ks, 0 ≤ v i ∧ v i < 1000)) ∧ (b < row.length ∧ (back = b ∨ (back < 0 ∧ (0 : Int) ∈ ks))) ∧ ρ = [S, .ow (.int h), .ow (.int w), .ow (.int x1), .ow (lstD row), .ow (.int st), .ow (.int (m : Int)), .ow (.int way), .ow (shD h w (rlG row (hdO ks v) b st m)), s9, .ow (.int back), .ow (dKF ks fun i => .int (v i)), .un]) ?_ ?_
  · by_cases cw : x1 / 540 % 3 = 1
    · have m3 : gMod (.int x2) (.int row.length) = .ok (.int (x2 % row.length)) := g_mod (by omega)
      have b0 := Int.emod_nonneg x2 (show (row.length : Int) ≠ 0 by omega)
      have b1 := Int.emod_lt_of_pos x2 (show (0 : Int) < row.length by omega)
      obtain ⟨b, hb⟩ : ∃ b : Nat, (row.length : Int) - 1 - x2 % row.length = b := ⟨((row.length : Int) - 1 - x2 % row.length).toNat, by omega⟩
      have bl : b < row.length := by omega
      obtain ⟨q, hq⟩ : ∃ q, row[b]? = some q := ⟨_, List.getElem?_eq_getElem bl⟩
      have gb := gr hq (x := (b : Int)) rfl
      have ru := K14.rule_run q st m
      have ff := stepR_facts q st m
      have hno : ∀ k, hdO [] (fun _ => (0 : Int)) k = none := fun k => if_neg (by simp)
      have er : rlG row (hdO [] fun _ => 0) b st m s0 = stepR q st m := rlG_none nd hs0 (hno 0) hq
      have pt := put_in (r0 := mixR rl0 tl1) (x := stepR q st m) hs hs0B (by rw [ff.1]; omega) (ff.2.2.1 h w ((hr q).mp (List.mem_of_getElem? hq)))
      rw [← er, first _ b (fun k => hno _) bl, er] at pt
      refine ⟨_, ?_, [], fun _ => 0, b, b, ⟨.inl rfl, fun i hi => by cases hi⟩, ⟨bl, .inl rfl⟩, rfl⟩
      simp -implicitDefEqProofs [cw, vS, c2, ln, m3, hb, mDK, g0, gb, ru, pt]
    · have hh : ∀ k, hdO [0] (fun _ => u) (k + 1) = none := fun k => if_neg (by simp; omega)
      have er : rlG row (hdO [0] fun _ => u) 0 st m s0 = .num u := rlG_some nd hs0 (if_pos (by simp))
      have pt := put_in (r0 := mixR rl0 tl1) (x := .num u) hs hs0B (by show 1 ≤ 8; omega) trivial
      rw [← er, first _ 0 hh hl0, er] at pt
      have pt' : f_Sh_put [shD h w (mixR rl0 tl1), Rs.pairD s0, .node .tup [.str "num", .int u]] = _ := pt
      have ix : gIx (dKF [0] fun _ => .int u) (.int 0) = .ok (.int u) := ix_dK (by simp)
      have ix' : gIx (.node (.dK [0]) [.int u]) (.int 0) = .ok (.int u) := ix
      refine ⟨_, ?_, [0], fun _ => u, 0, -1, ⟨.inr rfl, fun i hi => u0⟩, ⟨hl0, .inr ⟨by omega, by simp⟩⟩, rfl⟩
      simp -implicitDefEqProofs [cw, ix, g0, pt']
  rintro _ ⟨ks, v, b, back, ⟨hks, hv⟩, ⟨hb, hback⟩, rfl⟩
  have hk0 : ∀ i ∈ ks, i = 0 := fun i hi => by
    rcases hks with e | e
    · rw [e] at hi; cases hi
    · rw [e] at hi; exact List.mem_singleton.mp hi
  have hkl : ks.length ≤ 1 := by rcases hks with e | e <;> simp [e]
  have k1 := sh_row (hd := hdO ks v) (st := st) bh bw nd hr hb hm4
  have C1 := chn (hd := hdO ks v) (m := m) nd hl2 hb st0 fun k x hx => by
    unfold hdO at hx
    split at hx
    · rename_i hk
      rw [← Option.some.inj hx]
      exact hv _ hk
    · cases hx
  have r1 := right_run (way := way) k1 hr C1 ⟨by omega, fun i hi => by rw [hk0 i hi]; omega⟩ hback
  have m4 : gMod (.int x3) (.int row.length) = .ok (.int (x3 % row.length)) := g_mod (by omega)
  have a0 := Int.emod_nonneg x3 (show (row.length : Int) ≠ 0 by omega)
  have a1 := Int.emod_lt_of_pos x3 (show (0 : Int) < row.length by omega)
  obtain ⟨i, hi⟩ : ∃ i : Nat, x3 % row.length = i := ⟨(x3 % row.length).toNat, by omega⟩
  rw [hi] at m4
  have il : i < row.length := by omega
  obtain ⟨p, hp⟩ : ∃ p, row[i]? = some p := ⟨_, List.getElem?_eq_getElem il⟩
  have gi := gr hp (x := (i : Int)) rfl
  have d5 : gDiv (.int x3) (.int row.length) = .ok (.int (x3 / row.length)) := g_div (by omega)
  have m5 : gMod (.int (x3 / row.length)) (.int 1000) = .ok (.int (x3 / row.length % 1000)) := g_mod (by omega)
  have z0 : 0 ≤ x3 / row.length % 1000 ∧ x3 / row.length % 1000 < 1000 := by omega
  generalize x3 / (row.length : Int) % 1000 = z at m5 z0
  have pk := put_dK (ks := ks) (v := fun i => .int (v i)) (p := (i : Int)) (x := .int z) (by omega) rfl
  have ev : (fun j => if j = (i : Int) then D.int z else D.int (v j)) = fun j => D.int (if j = (i : Int) then z else v j) := funext fun j => by split <;> rfl
  rw [ev] at pk
  have pt := put_in (r0 := rlG row (hdO ks v) b st m) (x := .num z) hs ((hr p).mp (List.mem_of_getElem? hp)) (by show 1 ≤ 8; omega) trivial
  rw [rlG_put nd hr hp] at pt
  have ixk : gIx (dKF (if (i : Int) ∈ ks then ks else ks ++ [(i : Int)]) fun j => D.int (if j = (i : Int) then z else v j)) (.int (i : Int)) = .ok (.int z) := by
    rw [ix_dK (by split <;> simp [*]), if_pos rfl]
  have memK : ∀ j, j ∈ (if (i : Int) ∈ ks then ks else ks ++ [(i : Int)]) → j ∈ ks ∨ j = i := fun j hj => by
    split at hj
    · exact .inl hj
    · rcases List.mem_append.mp hj with y | y
      · exact .inl y
      · exact .inr (List.mem_singleton.mp y)
  have supK : ∀ j, j ∈ ks → j ∈ (if (i : Int) ∈ ks then ks else ks ++ [(i : Int)]) := fun j hj => by split <;> simp [hj]
  have lenK : (if (i : Int) ∈ ks then ks else ks ++ [(i : Int)]).length ≤ 2 := by split <;> (try rw [List.length_append, List.length_singleton]) <;> omega
  have pt' : f_Sh_put [shD h w (rlG row (hdO ks v) b st m), Rs.pairD p, .node .tup [.str "num", .int z]] = _ := pt
  generalize (if (i : Int) ∈ ks then ks else ks ++ [(i : Int)]) = ks2 at pk pt' ixk memK supK lenK
  have hv2 : ∀ j ∈ ks2, 0 ≤ (if j = (i : Int) then z else v j) ∧ (if j = (i : Int) then z else v j) < 1000 := fun j hj => by
    by_cases e : j = (i : Int)
    · rw [if_pos e]; exact z0
    · rw [if_neg e]
      rcases memK j hj with y | y
      · exact hv j y
      · exact absurd y e
  generalize hv2e : (fun j => if j = (i : Int) then z else v j) = v2 at pt'
  have ev2 : (fun j => D.int (if j = (i : Int) then z else v j)) = fun j => D.int (v2 j) := by rw [← hv2e]
  rw [ev2] at pk ixk
  have hv2' : ∀ j ∈ ks2, 0 ≤ v2 j ∧ v2 j < 1000 := by rw [← hv2e]; exact hv2
  have k2 := sh_row (hd := hdO ks2 v2) (st := st) bh bw nd hr hb hm4
  have C2 := chn (hd := hdO ks2 v2) (m := m) nd hl2 hb st0 fun k x hx => by
    unfold hdO at hx
    split at hx
    · rename_i hk
      rw [← Option.some.inj hx]
      exact hv2' _ hk
    · cases hx
  have r2 := right_run (way := way) k2 hr C2 ⟨lenK, fun j hj => by
    rcases memK j hj with y | y
    · rw [hk0 j y]; omega
    · omega⟩ (hback.imp id fun y => ⟨y.1, supK 0 y.2⟩)
  generalize hH1 : (dKF ks fun i => .int (v i)) = H1 at r1 pk
  generalize hH2 : (dKF ks2 fun i => .int (v2 i)) = H2 at r2 pk ixk
  refine seqF (ρ' := [S, .ow (.int h), .ow (.int w), .ow (.int x1), .ow (lstD row), .ow (.int st), .ow (.int (m : Int)), .ow (.int way), .ow (shD h w (rlG row (hdO ks v) b st m)), s9, .ow (.int back), .ow H1, .un]) (by simp -implicitDefEqProofs [r1]) ?_
  refine seqF (ρ' := [S, .ow (.int h), .ow (.int w), .ow (.int x1), .ow (lstD row), .ow (.int st), .ow (.int (m : Int)), .ow (.int way), .ow (shD h w (rlG row (hdO ks v) b st m)), s9, .ow (.int back), .ow H1, .ow (.int (i : Int))]) (by simp -implicitDefEqProofs [vS, c3, ln, m4]) ?_
  refine seqF (ρ' := [S, .ow (.int h), .ow (.int w), .ow (.int x1), .ow (lstD row), .ow (.int st), .ow (.int (m : Int)), .ow (.int way), .ow (shD h w (rlG row (hdO ks v) b st m)), s9, .ow (.int back), .ow H2, .ow (.int (i : Int))]) (by simp -implicitDefEqProofs [vS, c3, ln, d5, m5, pk]) ?_
  refine seqF (ρ' := [S, .ow (.int h), .ow (.int w), .ow (.int x1), .ow (lstD row), .ow (.int st), .ow (.int (m : Int)), .ow (.int way), .ow (shD h w (rlG row (hdO ks2 v2) b st m)), s9, .ow (.int back), .ow H2, .ow (.int (i : Int))]) (by simp -implicitDefEqProofs [gi, ixk, pt']) ?_
  simp -implicitDefEqProofs [r2]
end K14

set_option maxRecDepth 100000
open PySem PySem.W PyProof.Rows
set_option maxRecDepth 100000 in
set_option maxHeartbeats 0 in
theorem PySem.Challenge.cw_rulesheet_k14_whole_long_chains_holds : PySem.Challenge.rw_rulesheet_k14_whole_long_chains.Holds := by
  w_on; o_law; k_head; (case hw => w_witness2)
  k_fill
  refine Rs.law_end (l := PySem.Challenge.rw_rulesheet_k14_whole_long_chains) (k := 85) "_law_script" rfl rfl ⟨rfl, by decide, by decide⟩ (fun w h Y => PySem.W.kIn_of Y) ?F
  case F =>
    intro w mg fa h KX G hmg
    refine' K14.all_mk KX G hmg ?aC ?pg ?hd ?po ?sa ?mk ?kc ?n_high ?n_wide ?n_kept ?g_BadSize ?g_OffSheet ?g_TooDeep ?g_SheetError ?x_BadSize ?k_BadSize ?r_BadSize ?t_BadSize ?x_OffSheet ?k_OffSheet ?r_OffSheet ?t_OffSheet ?x_TooDeep ?k_TooDeep ?r_TooDeep ?t_TooDeep ?a1 ?l1 ?c1 ?k1 ?a2 ?l2 ?c2 ?k2 ?a3 ?l3 ?c3 ?k3 ?a4 ?l4 ?c4 ?k4 ?a5 ?i5 ?l5 ?c5 ?k5 ?a6 ?i6 ?l6 ?c6 ?k6 ?a7 ?i7 ?l7 ?c7 ?k7 ?a8 ?i8 ?l8 ?c8 ?k8 ?a9 ?l9 ?c9 ?k9 ?a10 ?l10 ?c10 ?k10 ?a11 ?l11 ?c11 ?k11 ?a12 ?l12 ?c12 ?k12 ?a13 ?i13 ?l13 ?c13 ?k13 ?a14 ?i14 ?l14 ?c14 ?k14 ?a15 ?l15 ?c15 ?k15 ?a16 ?l16 ?c16 ?k16 ?a17 ?l17 ?c17 ?k17 ?a18 ?l18 ?c18 ?k18 ?a19 ?l19 ?c19 ?k19 ?a20 ?l20 ?c20 ?k20 ?a21 ?l21 ?c21 ?k21 ?a22 ?l22 ?c22 ?k22 ?a23 ?l23 ?c23 ?k23 ?a24 ?l24 ?c24 ?k24 ?a25 ?l25 ?c25 ?k25 ?a26 ?l26 ?c26 ?k26 ?a27 ?l27 ?c27 ?k27 ?a28 ?l28 ?c28 ?k28 ?a29 ?l29 ?c29 ?k29 ?a30 ?l30 ?c30 ?k30 ?a31 ?l31 ?c31 ?k31 ?a32 ?l32 ?c32 ?k32 ?z_bool ?z_isinstance ?z_len ?z_list ?z_max ?z_min ?z_range ?z_sorted ?z_sum ?z_DEEPEST ?z_MOST ?z_ROUND K14.law_holds
    (case aC => k_is)
    (case pg => k_is)
    (case hd => k_is)
    (case po => k_is)
    (case sa => k_is)
    (case mk => k_is)
    (case kc => k_is)
    (case n_high => k_is)
    (case n_wide => k_is)
    (case n_kept => k_is)
    (case g_BadSize => k_is)
    (case g_OffSheet => k_is)
    (case g_TooDeep => k_is)
    (case g_SheetError => k_is)
    (case x_BadSize => k_exc)
    (case k_BadSize => k_is)
    (case r_BadSize => k_is)
    (case t_BadSize => k_is)
    (case x_OffSheet => k_exc)
    (case k_OffSheet => k_is)
    (case r_OffSheet => k_is)
    (case t_OffSheet => k_is)
    (case x_TooDeep => k_exc)
    (case k_TooDeep => k_is)
    (case r_TooDeep => k_is)
    (case t_TooDeep => k_is)
    (case a1 => k_is)
    (case l1 => k_is)
    (case c1 => k_is)
    (case k1 => k_is)
    (case a2 => k_is)
    (case l2 => k_is)
    (case c2 => k_is)
    (case k2 => k_is)
    (case a3 => k_is)
    (case l3 => k_is)
    (case c3 => k_is)
    (case k3 => k_is)
    (case a4 => k_is)
    (case l4 => k_is)
    (case c4 => k_is)
    (case k4 => k_is)
    (case a5 => k_is)
    (case i5 => k_is)
    (case l5 => k_is)
    (case c5 => k_is)
    (case k5 => k_is)
    (case a6 => k_is)
    (case i6 => k_is)
    (case l6 => k_is)
    (case c6 => k_is)
    (case k6 => k_is)
    (case a7 => k_is)
    (case i7 => k_is)
    (case l7 => k_is)
    (case c7 => k_is)
    (case k7 => k_is)
    (case a8 => k_is)
    (case i8 => k_is)
    (case l8 => k_is)
    (case c8 => k_is)
    (case k8 => k_is)
    (case a9 => k_is)
    (case l9 => k_is)
    (case c9 => k_is)
    (case k9 => k_is)
    (case a10 => k_is)
    (case l10 => k_is)
    (case c10 => k_is)
    (case k10 => k_is)
    (case a11 => k_is)
    (case l11 => k_is)
    (case c11 => k_is)
    (case k11 => k_is)
    (case a12 => k_is)
    (case l12 => k_is)
    (case c12 => k_is)
    (case k12 => k_is)
    (case a13 => k_is)
    (case i13 => k_is)
    (case l13 => k_is)
    (case c13 => k_is)
    (case k13 => k_is)
    (case a14 => k_is)
    (case i14 => k_is)
    (case l14 => k_is)
    (case c14 => k_is)
    (case k14 => k_is)
    (case a15 => k_is)
    (case l15 => k_is)
    (case c15 => k_is)
    (case k15 => k_is)
    (case a16 => k_is)
    (case l16 => k_is)
    (case c16 => k_is)
    (case k16 => k_is)
    (case a17 => k_is)
    (case l17 => k_is)
    (case c17 => k_is)
    (case k17 => k_is)
    (case a18 => k_is)
    (case l18 => k_is)
    (case c18 => k_is)
    (case k18 => k_is)
    (case a19 => k_is)
    (case l19 => k_is)
    (case c19 => k_is)
    (case k19 => k_is)
    (case a20 => k_is)
    (case l20 => k_is)
    (case c20 => k_is)
    (case k20 => k_is)
    (case a21 => k_is)
    (case l21 => k_is)
    (case c21 => k_is)
    (case k21 => k_is)
    (case a22 => k_is)
    (case l22 => k_is)
    (case c22 => k_is)
    (case k22 => k_is)
    (case a23 => k_is)
    (case l23 => k_is)
    (case c23 => k_is)
    (case k23 => k_is)
    (case a24 => k_is)
    (case l24 => k_is)
    (case c24 => k_is)
    (case k24 => k_is)
    (case a25 => k_is)
    (case l25 => k_is)
    (case c25 => k_is)
    (case k25 => k_is)
    (case a26 => k_is)
    (case l26 => k_is)
    (case c26 => k_is)
    (case k26 => k_is)
    (case a27 => k_is)
    (case l27 => k_is)
    (case c27 => k_is)
    (case k27 => k_is)
    (case a28 => k_is)
    (case l28 => k_is)
    (case c28 => k_is)
    (case k28 => k_is)
    (case a29 => k_is)
    (case l29 => k_is)
    (case c29 => k_is)
    (case k29 => k_is)
    (case a30 => k_is)
    (case l30 => k_is)
    (case c30 => k_is)
    (case k30 => k_is)
    (case a31 => k_is)
    (case l31 => k_is)
    (case c31 => k_is)
    (case k31 => k_is)
    (case a32 => k_is)
    (case l32 => k_is)
    (case c32 => k_is)
    (case k32 => k_is)
    (case z_bool => k_is)
    (case z_isinstance => k_is)
    (case z_len => k_is)
    (case z_list => k_is)
    (case z_max => k_is)
    (case z_min => k_is)
    (case z_range => k_is)
    (case z_sorted => k_is)
    (case z_sum => k_is)
    (case z_DEEPEST => k_is)
    (case z_MOST => k_is)
    (case z_ROUND => k_is)

