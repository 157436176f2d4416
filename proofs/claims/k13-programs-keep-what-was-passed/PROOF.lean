import PyProof.Rows.All
import Wide.All
import OpenK.AllK
import Wide.FinOn
import HandS.ForMost
import HandS.ForExc
import HandS.More
import HandS.Defaults
import HandS.MakeKwOnly
import HandS.TupAny
import HandS.Rev
import HandS.Zip
import HandS.NoneIn
import HandS.Small
import HandS.Style
import HandS.Flow
import HandS.IsInst
import HandS.Deep
import HandS.AnyAll
import HandS.HeadHook1
import KE.GoesEnum
import HandS.Nested
import HandS.Head0
import HandS.Head1
import HandS.Head2
import HandS.HeadEnd
import HandS.HeadHook2
import HandS.HeadWalk
import PySem.Challenge.RW_rollwarden_k13_programs_keep_what_was_pa
set_option Elab.async false
set_option linter.all false
set_option maxRecDepth 100000
set_option maxHeartbeats 4000000
/-! The value layer: Python's data by value (tuples as trees), lists, dicts and instances in a store. Over HandS. -/
namespace Mv
open PySem PySem.Spec PyProof.Rows L2

/-! ### values, objects -/
inductive MV where
  | non
  | bl (b : Bool)
  | int (i : Int)
  | str (s : String)
  | tup (l : List MV)
  | ref (a : Addr)
  /-- a list that is only read (the script) -/
  | frz (l : List MV)
inductive MO where
  /-- a list -/
  | lst (l : List MV)
  /-- a list that is only read (the script) -/
  | rl (l : List MV)
  /-- a dict whose keys are texts -/
  | dct (kvs : List (String × MV))
  /-- an instance of the class with that name -/
  | ins (c : String) (fs : List (String × MV))
abbrev Env := List (Option MV)
abbrev Sto := Addr → Option MO
def supd (S : Sto) (a : Addr) (o : MO) : Sto := fun b => if b = a then some o else S b
theorem supd_same {S : Sto} {a : Addr} {o : MO} : supd S a o a = some o := by unfold supd; rw [if_pos rfl]
theorem supd_ne {S : Sto} {a b : Addr} {o : MO} (h : b ≠ a) : supd S a o b = S b := by unfold supd; rw [if_neg h]
abbrev MK := MV → Sto → Prop
abbrev ME := Env → Sto → MK → Prop
abbrev MA := Env → Sto → (List MV → Sto → Prop) → Prop
abbrev MT := Env → Sto → (Bool → Sto → Prop) → Prop
structure MD where
  nx : Env → Sto → Prop
  rt : MK
  bk : Env → Sto → Prop := fun _ _ => False
  ct : Env → Sto → Prop := fun _ _ => False
abbrev MS := MD → Env → Sto → Prop
abbrev so (s : String) : Str := Str.ofString s
theorem so_inj {s t : String} (h : so s = so t) : s = t := by
  have h1 : Str.ofString s = Str.ofString t := h
  rw [Str.ofString_eq_toList, Str.ofString_eq_toList] at h1
  injection h1 with h2
  have h3 : s.toList.map Char.toNat = t.toList.map Char.toNat := by
    have := congrArg Array.toList h2
    simpa using this
  have inj : ∀ (l r : List Char), l.map Char.toNat = r.map Char.toNat → l = r := by
    intro l
    induction l with
    | nil => intro r h; cases r with
      | nil => rfl
      | cons a r => cases h
    | cons a l ih => intro r h; cases r with
      | nil => cases h
      | cons b r =>
        injection h with e1 e2
        have e3 : a = b := by
          have : a.val = b.val := by
            apply UInt32.toNat_inj.mp
            exact e1
          exact Char.ext this
        rw [e3, ih r e2]
  have h4 := inj _ _ h3
  exact String.toList_inj.mp h4

/-! ### the relation -/
/-- a list that no one writes -/
def FzL (K : PySem.W.Frag) (H : Hp) (a : Addr) (xs : List V) : Prop := (∃ o, H a = some (.frz o (.lst xs))) ∨
  ∃ (o : Obj) (its : Array Value) (n : Nat), K.lookup a = some o ∧ o.cls = .type "list" ∧ o.dict = none ∧ o.data = .seq its n ∧ its.size ≤ sizeLine ∧ Vals xs its.toList
theorem FzL.sq {K : PySem.W.Frag} {H : Hp} {a : Addr} {xs : List V} (h : FzL K H a xs) : SqL K H a xs := h.elim (fun h => .inl (.inr h)) .inr
mutual
def RM (K : PySem.W.Frag) (H : Hp) : MV → V → Prop
  | .non, v => v = .non
  | .bl b, v => v = .bl b
  | .int i, v => v = .int i
  | .str s, v => v = .str (so s)
  | .ref a, v => v = .ref a
  | .tup l, v => ∃ a xs, v = .ref a ∧ SqT K H a xs ∧ RMs K H l xs
  | .frz l, v => ∃ a xs, v = .ref a ∧ FzL K H a xs ∧ RMs K H l xs
def RMs (K : PySem.W.Frag) (H : Hp) : List MV → List V → Prop
  | [], xs => xs = []
  | m :: l, xs => ∃ x r, xs = x :: r ∧ RM K H m x ∧ RMs K H l r
end
/-- tuples stand, and the lists that no one writes -/
structure TK (K : PySem.W.Frag) (H H' : Hp) : Prop where
  tup : ∀ a xs, SqT K H a xs → SqT K H' a xs
  frz : ∀ a xs, FzL K H a xs → FzL K H' a xs
theorem TK.refl {K : PySem.W.Frag} {H : Hp} : TK K H H := ⟨fun _ _ h => h, fun _ _ h => h⟩
theorem TK.trans {K : PySem.W.Frag} {H H1 H2 : Hp} (a : TK K H H1) (b : TK K H1 H2) : TK K H H2 := ⟨fun c xs h => b.tup c xs (a.tup c xs h), fun c xs h => b.frz c xs (a.frz c xs h)⟩
mutual
theorem RM.monoT {K : PySem.W.Frag} {H H' : Hp} (t : TK K H H') : ∀ (m : MV) {v : V}, RM K H m v → RM K H' m v
  | .non, _, h => h
  | .bl _, _, h => h
  | .int _, _, h => h
  | .str _, _, h => h
  | .ref _, _, h => h
  | .tup l, _, h => by
    unfold RM at h ⊢
    obtain ⟨a, xs, e, s, r⟩ := h
    exact ⟨a, xs, e, t.tup _ _ s, RMs.monoT t l r⟩
  | .frz l, _, h => by
    unfold RM at h ⊢
    obtain ⟨a, xs, e, s, r⟩ := h
    exact ⟨a, xs, e, t.frz _ _ s, RMs.monoT t l r⟩
theorem RMs.monoT {K : PySem.W.Frag} {H H' : Hp} (t : TK K H H') : ∀ (l : List MV) {xs : List V}, RMs K H l xs → RMs K H' l xs
  | [], _, h => h
  | m :: l, _, h => by
    unfold RMs at h ⊢
    obtain ⟨x, r, e, h1, h2⟩ := h
    exact ⟨x, r, e, RM.monoT t m h1, RMs.monoT t l h2⟩
end
theorem RMs.length {K : PySem.W.Frag} {H : Hp} : ∀ {l : List MV} {xs : List V}, RMs K H l xs → xs.length = l.length
  | [], _, h => by unfold RMs at h; rw [h]; rfl
  | m :: l, _, h => by
    unfold RMs at h
    obtain ⟨x, r, e, _, h2⟩ := h
    rw [e, List.length_cons, List.length_cons, RMs.length h2]
theorem RMs.nil {K : PySem.W.Frag} {H : Hp} : RMs K H [] [] := by unfold RMs; rfl
theorem RMs.cons {K : PySem.W.Frag} {H : Hp} {m : MV} {l : List MV} {x : V} {r : List V} (a : RM K H m x) (b : RMs K H l r) : RMs K H (m :: l) (x :: r) := by
  unfold RMs; exact ⟨x, r, rfl, a, b⟩
theorem RMs.get {K : PySem.W.Frag} {H : Hp} : ∀ {l : List MV} {xs : List V} {i : Nat} {m : MV}, RMs K H l xs → l[i]? = some m → ∃ x, xs[i]? = some x ∧ RM K H m x
  | [], _, _, _, _, e => by simp at e
  | m :: l, _, 0, m', h, e => by
    unfold RMs at h
    obtain ⟨x, r, ex, h1, _⟩ := h
    simp at e; subst e; subst ex
    exact ⟨x, rfl, h1⟩
  | m :: l, _, i + 1, m', h, e => by
    unfold RMs at h
    obtain ⟨x, r, ex, _, h2⟩ := h
    subst ex
    obtain ⟨y, e1, e2⟩ := RMs.get (i := i) (m := m') h2 (by simpa using e)
    exact ⟨y, by simpa using e1, e2⟩
theorem RMs.append {K : PySem.W.Frag} {H : Hp} : ∀ {l k : List MV} {xs ys : List V}, RMs K H l xs → RMs K H k ys → RMs K H (l ++ k) (xs ++ ys)
  | [], _, _, _, h, h' => by unfold RMs at h; subst h; exact h'
  | m :: l, _, _, _, h, h' => by
    unfold RMs at h
    obtain ⟨x, r, ex, h1, h2⟩ := h
    subst ex
    exact RMs.cons h1 (RMs.append h2 h')
theorem RMs.take {K : PySem.W.Frag} {H : Hp} : ∀ (n : Nat) {l : List MV} {xs : List V}, RMs K H l xs → RMs K H (l.take n) (xs.take n)
  | 0, _, _, _ => RMs.nil
  | n + 1, [], _, h => by unfold RMs at h; subst h; exact RMs.nil
  | n + 1, m :: l, _, h => by
    unfold RMs at h
    obtain ⟨x, r, ex, h1, h2⟩ := h
    subst ex
    exact RMs.cons h1 (RMs.take n h2)
theorem RMs.drop {K : PySem.W.Frag} {H : Hp} : ∀ (n : Nat) {l : List MV} {xs : List V}, RMs K H l xs → RMs K H (l.drop n) (xs.drop n)
  | 0, _, _, h => h
  | n + 1, [], _, h => by unfold RMs at h; subst h; exact RMs.nil
  | n + 1, m :: l, _, h => by
    unfold RMs at h
    obtain ⟨x, r, ex, h1, h2⟩ := h
    subst ex
    exact RMs.drop n h2
theorem RMs.set {K : PySem.W.Frag} {H : Hp} {m : MV} {x : V} (r : RM K H m x) : ∀ (i : Nat) {l : List MV} {xs : List V}, RMs K H l xs → RMs K H (l.set i m) (xs.set i x)
  | _, [], _, h => by unfold RMs at h; subst h; exact RMs.nil
  | 0, m' :: l, _, h => by
    unfold RMs at h
    obtain ⟨x', r', ex, h1, h2⟩ := h
    subst ex
    exact RMs.cons r h2
  | i + 1, m' :: l, _, h => by
    unfold RMs at h
    obtain ⟨x', r', ex, h1, h2⟩ := h
    subst ex
    exact RMs.cons h1 (RMs.set r i h2)
theorem RMs.erase {K : PySem.W.Frag} {H : Hp} : ∀ (i : Nat) {l : List MV} {xs : List V}, RMs K H l xs → RMs K H (l.eraseIdx i) (xs.eraseIdx i)
  | _, [], _, h => by unfold RMs at h; subst h; exact RMs.nil
  | 0, m' :: l, _, h => by
    unfold RMs at h
    obtain ⟨x', r', ex, h1, h2⟩ := h
    subst ex
    exact h2
  | i + 1, m' :: l, _, h => by
    unfold RMs at h
    obtain ⟨x', r', ex, h1, h2⟩ := h
    subst ex
    exact RMs.cons h1 (RMs.erase i h2)
theorem RMs.reverse {K : PySem.W.Frag} {H : Hp} : ∀ {l : List MV} {xs : List V}, RMs K H l xs → RMs K H l.reverse xs.reverse
  | [], _, h => by unfold RMs at h; subst h; exact RMs.nil
  | m :: l, _, h => by
    unfold RMs at h
    obtain ⟨x, r, ex, h1, h2⟩ := h
    subst ex
    rw [List.reverse_cons, List.reverse_cons]
    exact RMs.append (RMs.reverse h2) (RMs.cons h1 RMs.nil)
theorem RMs.isEmpty {K : PySem.W.Frag} {H : Hp} {l : List MV} {xs : List V} (h : RMs K H l xs) : xs.isEmpty = l.isEmpty := by
  cases l with
  | nil => unfold RMs at h; subst h; rfl
  | cons m l => unfold RMs at h; obtain ⟨x, r, e, _⟩ := h; subst e; rfl

/-- what stands at an address -/
def RO (K : PySem.W.Frag) (H : Hp) : MO → Addr → Prop
  | .lst l, a => ∃ xs, H a = some (.lst xs) ∧ RMs K H l xs
  | .rl l, a => ∃ xs, Rd H a (.lst xs) ∧ RMs K H l xs
  | .dct kvs, a => ∃ ks : List (Key × V), H a = some (.dK ks) ∧ ks.map (·.1) = kvs.map (fun p => (Sum.inr (so p.1) : Key)) ∧ RMs K H (kvs.map (·.2)) (ks.map (·.2))
  | .ins c fs, a => ∃ (dx : Addr) (xs : List (Str × V)), H a = some (.ins (He.ga K (so c)) dx xs) ∧ xs.map (·.1) = fs.map (fun p => so p.1) ∧ RMs K H (fs.map (·.2)) (xs.map (·.2))
theorem RO.monoT {K : PySem.W.Frag} {H H' : Hp} {o : MO} {a : Addr} (r : RO K H o a) (t : TK K H H') (e : H' a = H a) : RO K H' o a := by
  cases o with
  | lst l => obtain ⟨xs, h1, h2⟩ := r; exact ⟨xs, by rw [e]; exact h1, h2.monoT t l⟩
  | rl l =>
    obtain ⟨xs, h1, h2⟩ := r
    refine ⟨xs, ?_, h2.monoT t l⟩
    rcases h1 with h1 | ⟨o, h1⟩
    · exact .inl (by rw [e]; exact h1)
    · exact .inr ⟨o, by rw [e]; exact h1⟩
  | dct kvs => obtain ⟨ks, h1, h2, h3⟩ := r; exact ⟨ks, by rw [e]; exact h1, h2, h3.monoT t _⟩
  | ins c fs => obtain ⟨dx, xs, h1, h2, h3⟩ := r; exact ⟨dx, xs, by rw [e]; exact h1, h2, h3.monoT t _⟩
theorem RO.some {K : PySem.W.Frag} {H : Hp} {o : MO} {a : Addr} (r : RO K H o a) : ∃ u, H a = some u := by
  cases o with
  | lst l => obtain ⟨xs, h1, h2⟩ := r; exact ⟨_, h1⟩
  | rl l =>
    obtain ⟨xs, h1, h2⟩ := r
    rcases h1 with h1 | ⟨o, h1⟩
    · exact ⟨_, h1⟩
    · exact ⟨_, h1⟩
  | dct kvs => obtain ⟨ks, h1, h2, h3⟩ := r; exact ⟨_, h1⟩
  | ins c fs => obtain ⟨dx, xs, h1, h2, h3⟩ := r; exact ⟨_, h1⟩
/-- the store is held; the tables at Z stand -/
structure RS (K : PySem.W.Frag) (Z : List Addr) (S : Sto) (H : Hp) : Prop where
  ob : ∀ a o, S a = some o → RO K H o a
  tab : ∀ P ∈ Z, GxR.TabG H P
/-- the slots -/
structure RE (K : PySem.W.Frag) (H : Hp) (ρ : Env) (σ : L2.St) : Prop where
  len : ρ.length = σ.length
  at_ : ∀ (i : Nat) (m : MV), ρ[i]? = some (some m) → ∃ x, σ[i]? = some (some x) ∧ RM K H m x
theorem RE.monoT {K : PySem.W.Frag} {H H' : Hp} {ρ : Env} {σ : L2.St} (r : RE K H ρ σ) (t : TK K H H') : RE K H' ρ σ :=
  ⟨r.len, fun i m h => let ⟨x, e, q⟩ := r.at_ i m h; ⟨x, e, q.monoT t m⟩⟩
theorem RE.set {K : PySem.W.Frag} {H : Hp} {ρ : Env} {σ : L2.St} {i : Nat} {m : MV} {x : V} (r : RE K H ρ σ) (q : RM K H m x) : RE K H (ρ.set i (some m)) (σ.set i (some x)) := by
  refine ⟨by rw [List.length_set, List.length_set]; exact r.len, fun j m' h => ?_⟩
  by_cases e : i = j
  · subst e
    by_cases hl : i < ρ.length
    · rw [List.getElem?_set_self hl] at h
      cases h
      exact ⟨x, by rw [List.getElem?_set_self (by rw [← r.len]; exact hl)], q⟩
    · rw [List.getElem?_eq_none (by rw [List.length_set]; omega)] at h
      cases h
  · rw [List.getElem?_set_ne e] at h
    obtain ⟨y, e1, e2⟩ := r.at_ j m' h
    exact ⟨y, by rw [List.getElem?_set_ne e]; exact e1, e2⟩
theorem RE.unset {K : PySem.W.Frag} {H : Hp} {ρ : Env} {σ : L2.St} {i : Nat} (r : RE K H ρ σ) : RE K H (ρ.set i none) (σ.set i none) := by
  refine ⟨by rw [List.length_set, List.length_set]; exact r.len, fun j m' h => ?_⟩
  by_cases e : i = j
  · subst e
    by_cases hl : i < ρ.length
    · rw [List.getElem?_set_self hl] at h
      cases h
    · rw [List.getElem?_eq_none (by rw [List.length_set]; omega)] at h
      cases h
  · rw [List.getElem?_set_ne e] at h
    obtain ⟨y, e1, e2⟩ := r.at_ j m' h
    exact ⟨y, by rw [List.getElem?_set_ne e]; exact e1, e2⟩
def wipeM (ρ : Env) : List Nat → Env
  | [] => ρ
  | v :: vs => (wipeM ρ vs).set v none
theorem RE.wiped {K : PySem.W.Frag} {H : Hp} {ρ : Env} {σ : L2.St} (r : RE K H ρ σ) : ∀ vs : List Nat, RE K H (wipeM ρ vs) (L2.wipe σ vs)
  | [] => r
  | v :: vs => by
    unfold wipeM L2.wipe
    exact (r.wiped vs).unset
/-! tuples stand where something else is laid or written -/
theorem TK.upd {K : PySem.W.Frag} {H : Hp} {a : Addr} {o : HO} (h : ∀ xs, ¬ Rd H a (.tup xs)) (h2 : ∀ q xs, H a ≠ some (.frz q (.lst xs))) : TK K H (L2.upd H a o) := by
  refine ⟨fun b xs s => ?_, fun b xs s => ?_⟩
  · rcases s with s | s
    · have hne : b ≠ a := fun e => by subst e; exact h xs s
      left
      rcases s with s | ⟨q, s⟩
      · exact .inl (by rw [upd_ne hne]; exact s)
      · exact .inr ⟨q, by rw [upd_ne hne]; exact s⟩
    · exact .inr s
  · rcases s with ⟨q, s⟩ | s
    · have hne : b ≠ a := fun e => by subst e; exact h2 q xs s
      exact .inl ⟨q, by rw [upd_ne hne]; exact s⟩
    · exact .inr s
theorem TK.new {K : PySem.W.Frag} {H : Hp} {a : Addr} {o : HO} (h : H a = none) : TK K H (L2.upd H a o) := TK.upd (fun xs s => by
  rcases s with s | ⟨q, s⟩ <;> (rw [h] at s; cases s)) fun q xs s => by rw [h] at s; cases s
theorem TK.lst {K : PySem.W.Frag} {H : Hp} {a : Addr} {o : HO} {ys : List V} (h : H a = some (.lst ys)) : TK K H (L2.upd H a o) := TK.upd (fun xs s => by
  rcases s with s | ⟨q, s⟩ <;> (rw [h] at s; cases s)) fun q xs s => by rw [h] at s; cases s
theorem TK.dK {K : PySem.W.Frag} {H : Hp} {a : Addr} {o : HO} {ys : List (Key × V)} (h : H a = some (.dK ys)) : TK K H (L2.upd H a o) := TK.upd (fun xs s => by
  rcases s with s | ⟨q, s⟩ <;> (rw [h] at s; cases s)) fun q xs s => by rw [h] at s; cases s
theorem TK.ins {K : PySem.W.Frag} {H : Hp} {a C dx : Addr} {o : HO} {ys : List (Str × V)} (h : H a = some (.ins C dx ys)) : TK K H (L2.upd H a o) := TK.upd (fun xs s => by
  rcases s with s | ⟨q, s⟩ <;> (rw [h] at s; cases s)) fun q xs s => by rw [h] at s; cases s
theorem TabG.upd {H : Hp} {a P : Addr} {o : HO} (t : GxR.TabG H P) (h : ∀ ps, H a ≠ some (.tbl ps)) : GxR.TabG (L2.upd H a o) P := by
  obtain ⟨ps, e, q⟩ := t
  exact ⟨ps, by rw [upd_ne (fun z => by subst z; exact h ps e)]; exact e, q⟩
section
variable {K : PySem.W.Frag} {Z : List Addr} {S : Sto} {H : Hp} {a : Addr}
theorem RS.free (r : RS K Z S H) (h : H a = none) : S a = none := by
  cases e : S a with
  | none => rfl
  | some o =>
    obtain ⟨u, hu⟩ := (r.ob a o e).some
    rw [h] at hu; cases hu
/-- something that is not in the store is laid -/
theorem RS.hid {o : HO} (r : RS K Z S H) (h : H a = none) : RS K Z S (upd H a o) := by
  refine ⟨fun b u e => (r.ob b u e).monoT (TK.new h) ?_, fun P hP => TabG.upd (r.tab P hP) fun ps e => by rw [h] at e; cases e⟩
  rw [upd_ne]
  rintro rfl
  rw [r.free h] at e; cases e
/-- something that is not in the store is changed -/
theorem RS.hidW {o : HO} {ys : List V} (r : RS K Z S H) (h : H a = some (.lst ys)) (n : S a = none) : RS K Z S (upd H a o) := by
  refine ⟨fun b u e => (r.ob b u e).monoT (TK.lst h) ?_, fun P hP => TabG.upd (r.tab P hP) fun ps e => by rw [h] at e; cases e⟩
  rw [upd_ne]
  rintro rfl
  rw [n] at e; cases e
theorem RS.put {o : HO} {m : MO} (r : RS K Z S H) (t : TK K H (upd H a o)) (nt : ∀ ps, H a ≠ some (.tbl ps)) (q : RO K (upd H a o) m a) : RS K Z (supd S a m) (upd H a o) := by
  refine ⟨fun b u e => ?_, fun P hP => TabG.upd (r.tab P hP) nt⟩
  by_cases hb : b = a
  · subst hb
    rw [supd_same] at e; cases e
    exact q
  · rw [supd_ne hb] at e
    exact (r.ob b u e).monoT t (upd_ne hb)
/-- a new list -/
theorem RS.newL {l : List MV} {xs : List V} (r : RS K Z S H) (h : H a = none) (q : RMs K H l xs) : RS K Z (supd S a (.lst l)) (upd H a (.lst xs)) :=
  r.put (TK.new h) (fun ps e => by rw [h] at e; cases e) ⟨xs, upd_same, q.monoT (TK.new h) l⟩
theorem RS.setL {l l' : List MV} {xs ys : List V} (r : RS K Z S H) (h : H a = some (.lst ys)) (q : RMs K H l' xs) : RS K Z (supd S a (.lst l')) (upd H a (.lst xs)) :=
  r.put (TK.lst h) (fun ps e => by rw [h] at e; cases e) ⟨xs, upd_same, q.monoT (TK.lst h) l'⟩
theorem RS.lst {l : List MV} (r : RS K Z S H) (e : S a = some (.lst l)) : ∃ xs, H a = some (.lst xs) ∧ RMs K H l xs := r.ob a _ e
end

/-- tuples stand; what is not in the store is left alone -/
structure GK (K : PySem.W.Frag) (S : Sto) (H : Hp) (S' : Sto) (H' : Hp) : Prop where
  tk : TK K H H'
  fr : ∀ a o, S a = none → H a = some o → (∀ ps, o ≠ .tbl ps) → H' a = some o ∧ S' a = none
theorem GK.refl {K : PySem.W.Frag} {S : Sto} {H : Hp} : GK K S H S H := ⟨TK.refl, fun a o h e _ => ⟨e, h⟩⟩
theorem GK.trans {K : PySem.W.Frag} {S S1 S2 : Sto} {H H1 H2 : Hp} (a : GK K S H S1 H1) (b : GK K S1 H1 S2 H2) : GK K S H S2 H2 :=
  ⟨a.tk.trans b.tk, fun c o h e n => let ⟨e1, n1⟩ := a.fr c o h e n; b.fr c o n1 e1 n⟩
theorem GK.hid {K : PySem.W.Frag} {S : Sto} {H : Hp} {p : Addr} {o : HO} (h : H p = none) : GK K S H S (upd H p o) :=
  ⟨TK.new h, fun c u n e _ => ⟨by rw [upd_ne (ne_of_none e h)]; exact e, n⟩⟩
theorem GK.new {K : PySem.W.Frag} {S : Sto} {H : Hp} {p : Addr} {o : HO} {m : MO} (h : H p = none) : GK K S H (supd S p m) (upd H p o) :=
  ⟨TK.new h, fun c u n e _ => ⟨by rw [upd_ne (ne_of_none e h)]; exact e, by rw [supd_ne (ne_of_none e h)]; exact n⟩⟩
theorem GK.put {K : PySem.W.Frag} {S : Sto} {H : Hp} {p : Addr} {o : HO} {m m' : MO} (t : TK K H (upd H p o)) (h : S p = some m') : GK K S H (supd S p m) (upd H p o) :=
  ⟨t, fun c u n e _ => by
    have hne : c ≠ p := fun z => by subst z; rw [h] at n; cases n
    exact ⟨by rw [upd_ne hne]; exact e, by rw [supd_ne hne]; exact n⟩⟩
theorem RM.mono {K : PySem.W.Frag} {S S' : Sto} {H H' : Hp} {m : MV} {v : V} (r : RM K H m v) (g : GK K S H S' H') : RM K H' m v := RM.monoT g.tk m r
theorem RMs.mono {K : PySem.W.Frag} {S S' : Sto} {H H' : Hp} {m : List MV} {v : List V} (r : RMs K H m v) (g : GK K S H S' H') : RMs K H' m v := RMs.monoT g.tk m r
theorem RE.mono {K : PySem.W.Frag} {S S' : Sto} {H H' : Hp} {ρ : Env} {σ : L2.St} (r : RE K H ρ σ) (g : GK K S H S' H') : RE K H' ρ σ := RE.monoT r g.tk

/-! ### the judgements -/
def PEat (X : Cx) (e : Expr) (σ : L2.St) (H : Hp) (Q : VK) : Prop := ∀ (pins : List (Addr × Obj)) (s : Shared), Inv X pins σ H s → wpAny (model X.prog X.w) X.A (eval e X.env) (EP X pins σ Q) X.xe s
def PTat (X : Cx) (e : Expr) (σ : L2.St) (H : Hp) (Q : Bool → Hp → Prop) : Prop := ∀ (pins : List (Addr × Obj)) (s : Shared), Inv X pins σ H s → wpAny (model X.prog X.w) X.A (isTrue e X.env (eval e X.env)) (TP X pins σ Q) X.xe s
/-- the value-level wish, for the layer below -/
def MQ (K : PySem.W.Frag) (Z : List Addr) (S : Sto) (H : Hp) (R : MK) : VK := fun v H' => ∃ m S', GK K S H S' H' ∧ RM K H' m v ∧ RS K Z S' H' ∧ R m S'
/-- what is not needed any more is dropped -/
def dropK (R : MK) : MK := fun v S' => ∃ S2 : Sto, (∀ a o, S2 a = some o → S' a = some o) ∧ R v S2
theorem RS.drop {K : PySem.W.Frag} {Z : List Addr} {S S2 : Sto} {H : Hp} (r : RS K Z S H) (h : ∀ a o, S2 a = some o → S a = some o) : RS K Z S2 H := ⟨fun a o e => r.ob a o (h a o e), r.tab⟩
theorem GK.drop {K : PySem.W.Frag} {S S' S2 : Sto} {H H' : Hp} (g : GK K S H S' H') (h : ∀ a o, S2 a = some o → S' a = some o) : GK K S H S2 H' :=
  ⟨g.tk, fun a o n e nt => by
    obtain ⟨e1, n1⟩ := g.fr a o n e nt
    refine ⟨e1, ?_⟩
    cases q : S2 a with
    | none => rfl
    | some u => rw [h a u q] at n1; cases n1⟩
theorem MQ.drop {K : PySem.W.Frag} {Z : List Addr} {S : Sto} {H : Hp} {R : MK} {v : V} {H' : Hp} (q : MQ K Z S H (dropK R) v H') : MQ K Z S H R v H' :=
  let ⟨m, _, g, r, s, S2, h, q⟩ := q; ⟨m, S2, g.drop h, r, s.drop h, q⟩
def MQs (K : PySem.W.Frag) (Z : List Addr) (S : Sto) (H : Hp) (R : List MV → Sto → Prop) : List V → Hp → Prop := fun vs H' => ∃ ms S', GK K S H S' H' ∧ RMs K H' ms vs ∧ RS K Z S' H' ∧ R ms S'
def MQb (K : PySem.W.Frag) (Z : List Addr) (S : Sto) (H : Hp) (R : Bool → Sto → Prop) : Bool → Hp → Prop := fun b H' => ∃ S', GK K S H S' H' ∧ RS K Z S' H' ∧ R b S'
def MQd (K : PySem.W.Frag) (Z : List Addr) (S : Sto) (H : Hp) (R : Env → Sto → Prop) : L2.St → Hp → Prop := fun σ' H' => ∃ ρ' S', GK K S H S' H' ∧ RE K H' ρ' σ' ∧ RS K Z S' H' ∧ R ρ' S'
def toE (K : PySem.W.Frag) (Z : List Addr) (S : Sto) (H : Hp) (D : MD) : Ends := { nx := MQd K Z S H D.nx, rt := MQ K Z S H D.rt, bk := MQd K Z S H D.bk, ct := MQd K Z S H D.ct }
structure EE (X : Cx) (Z : List Addr) (e : Expr) (m : ME) : Prop where
  run : ∀ (σ : L2.St) (H : Hp) (ρ : Env) (S : Sto) (R : MK), RE X.K H ρ σ → RS X.K Z S H → m ρ S R → PEat X e σ H (MQ X.K Z S H R)
structure ET (X : Cx) (Z : List Addr) (e : Expr) (m : MT) : Prop where
  run : ∀ (σ : L2.St) (H : Hp) (ρ : Env) (S : Sto) (R : Bool → Sto → Prop), RE X.K H ρ σ → RS X.K Z S H → m ρ S R → PTat X e σ H (MQb X.K Z S H R)
def tM (K : PySem.W.Frag) (Z : List Addr) (m : ME) : TE := fun σ H Q => ∃ ρ S R, RE K H ρ σ ∧ RS K Z S H ∧ m ρ S R ∧ ∀ v H', MQ K Z S H R v H' → Q v H'
def tMT (K : PySem.W.Frag) (Z : List Addr) (m : MT) : TT := fun σ H Q => ∃ ρ S R, RE K H ρ σ ∧ RS K Z S H ∧ m ρ S R ∧ ∀ v H', MQb K Z S H R v H' → Q v H'
def tMA (K : PySem.W.Frag) (Z : List Addr) (m : MA) : TA := fun σ H Q => ∃ ρ S R, RE K H ρ σ ∧ RS K Z S H ∧ m ρ S R ∧ ∀ v H', MQs K Z S H R v H' → Q v H'
def tMS (K : PySem.W.Frag) (Z : List Addr) (m : MS) : TS := fun D σ H => ∃ ρ S D', RE K H ρ σ ∧ RS K Z S H ∧ m D' ρ S ∧ (∀ σ' H', MQd K Z S H D'.nx σ' H' → D.nx σ' H') ∧ (∀ v H', MQ K Z S H D'.rt v H' → D.rt v H') ∧
  (∀ σ' H', MQd K Z S H D'.bk σ' H' → D.bk σ' H') ∧ (∀ σ' H', MQd K Z S H D'.ct σ' H' → D.ct σ' H')
/-- arguments, statements, blocks: by the layer below's own form -/
structure EA (X : Cx) (Z : List Addr) (es : List Expr) (m : MA) : Prop where
  pa : PA X es (tMA X.K Z m)
structure EK (X : Cx) (Z : List Addr) (ks : List Keyword) (m : MA) : Prop where
  pk : PK X ks (tMA X.K Z m)
structure ES (X : Cx) (Z : List Addr) (st : Stmt) (m : MS) : Prop where
  ps : PS X st (tMS X.K Z m)
structure EB (X : Cx) (Z : List Addr) (sts : List Stmt) (m : MS) : Prop where
  pss : PSs X sts (tMS X.K Z m)
section
variable {X : Cx} {Z : List Addr} {e a b : Expr} {m ma mb : ME} {mt : MT} {t : TE}
theorem EE.pe (h : EE X Z e m) : PE X e (tM X.K Z m) := ⟨fun pins s σ H Q I ⟨ρ, S, R, hE, hS, hm, hQ⟩ =>
  thn (h.run σ H ρ S R hE hS hm pins s I) fun u s' ⟨v, H', I', r, q⟩ => ⟨v, H', I', r, hQ v H' q⟩⟩
theorem ET.pt (h : ET X Z e mt) : PT X e (tMT X.K Z mt) := ⟨fun pins s σ H Q I ⟨ρ, S, R, hE, hS, hm, hQ⟩ =>
  thn (h.run σ H ρ S R hE hS hm pins s I) fun u s' ⟨H', I', q⟩ => ⟨H', I', hQ u H' q⟩⟩
theorem ee_of (h : PE X e t) (k : ∀ σ H ρ S R, RE X.K H ρ σ → RS X.K Z S H → m ρ S R → t σ H (MQ X.K Z S H R)) : EE X Z e m :=
  ⟨fun σ H ρ S R hE hS hm pins s I => h.run pins s σ H _ I (k σ H ρ S R hE hS hm)⟩
theorem et_of {t : TT} (h : PT X e t) (k : ∀ σ H ρ S R, RE X.K H ρ σ → RS X.K Z S H → mt ρ S R → t σ H (MQb X.K Z S H R)) : ET X Z e mt :=
  ⟨fun σ H ρ S R hE hS hm pins s I => h.run pins s σ H _ I (k σ H ρ S R hE hS hm)⟩
theorem PA.imp {es : List Expr} {t t' : TA} (h : PA X es t) (k : ∀ σ H Q, t' σ H Q → t σ H Q) : PA X es t' := ⟨fun pos pins s σ H Q I hw => h.run pos pins s σ H Q I (k σ H Q hw)⟩
theorem PK.imp {es : List Keyword} {t t' : TA} (h : PK X es t) (k : ∀ σ H Q, t' σ H Q → t σ H Q) : PK X es t' := ⟨fun pos pins s σ H Q I hw => h.run pos pins s σ H Q I (k σ H Q hw)⟩
theorem PS.imp {st : Stmt} {t t' : TS} (h : PS X st t) (k : ∀ D σ H, t' D σ H → t D σ H) : PS X st t' := ⟨fun pins s σ H D I hw => h.run pins s σ H D I (k D σ H hw)⟩
theorem PSs.imp {st : List Stmt} {t t' : TS} (h : PSs X st t) (k : ∀ D σ H, t' D σ H → t D σ H) : PSs X st t' := ⟨fun pins s σ H D I hw => h.run pins s σ H D I (k D σ H hw)⟩
theorem PE.or {t t' : TE} (h : PE X e t) (h' : PE X e t') : PE X e (fun σ H Q => t σ H Q ∨ t' σ H Q) := ⟨fun pins s σ H Q I hw => hw.elim (h.run pins s σ H Q I) (h'.run pins s σ H Q I)⟩
theorem PS.or {st : Stmt} {t t' : TS} (h : PS X st t) (h' : PS X st t') : PS X st (fun D σ H => t D σ H ∨ t' D σ H) := ⟨fun pins s σ H D I hw => hw.elim (h.run pins s σ H D I) (h'.run pins s σ H D I)⟩

/-! ### names, constants -/
def mVar (i : Nat) : ME := fun ρ S R => match ρ[i]? with
  | some (some v) => R v S
  | _ => False
def mC (v : MV) : ME := fun _ S R => R v S
theorem ee_var {i : Nat} (h : PE X e (tVar i)) : EE X Z e (mVar i) := ee_of h fun σ H ρ S R hE hS hm => by
  unfold mVar at hm
  split at hm
  · rename_i v hv
    obtain ⟨x, e1, e2⟩ := hE.at_ i v hv
    exact ⟨x, e1, v, S, GK.refl, e2, hS, hm⟩
  · exact hm.elim
theorem ee_c {v : V} {mv : MV} (h : PE X e (tC v)) (r : ∀ H, RM X.K H mv v) : EE X Z e (mC mv) := ee_of h fun σ H ρ S R hE hS hm => ⟨mv, S, GK.refl, r H, hS, hm⟩
theorem ee_int {i j pos} : EE X Z (.Constant (.int i) j pos) (mC (.int i)) := ee_c pe_int fun _ => by unfold RM; rfl
theorem ee_bl {b j pos} : EE X Z (.Constant (.bool b) j pos) (mC (.bl b)) := ee_c pe_bl fun _ => by unfold RM; rfl
theorem ee_non {j pos} : EE X Z (.Constant .none j pos) (mC .non) := ee_c pe_non fun _ => by unfold RM; rfl
theorem ee_str {x : String} {j pos} : EE X Z (.Constant (.str (Str.ofString x)) j pos) (mC (.str x)) := ee_c pe_str fun _ => by unfold RM; rfl
/-! ### two values and an operation -/
abbrev M2 := MV → MV → Sto → MK → Prop
def mOp (f : M2) (ma mb : ME) : ME := fun ρ S R => ma ρ S fun x S1 => mb ρ S1 fun y S2 => f x y S2 R
def rM (K : PySem.W.Frag) (Z : List Addr) (f : M2) : R2 := fun x y H Q => ∃ mx my S R, RM K H mx x ∧ RM K H my y ∧ RS K Z S H ∧ f mx my S R ∧ ∀ v H', MQ K Z S H R v H' → Q v H'
theorem seq2 {f : M2} {σ H ρ S R} (hE : RE X.K H ρ σ) (hS : RS X.K Z S H) (h : mOp f ma mb ρ S R) : tOp (rM X.K Z f) (tM X.K Z ma) (tM X.K Z mb) σ H (MQ X.K Z S H R) := by
  refine ⟨ρ, S, _, hE, hS, h, fun v H1 ⟨x, S1, t1, r1, s1, q1⟩ => ?_⟩
  refine ⟨ρ, S1, _, hE.mono t1, s1, q1, fun u H2 ⟨y, S2, t2, r2, s2, q2⟩ => ?_⟩
  exact ⟨x, y, S2, R, r1.mono t2, r2, s2, q2, fun v H' ⟨m, S', t3, r3, s3, q3⟩ => ⟨m, S', t1.trans (t2.trans t3), r3, s3, q3⟩⟩
theorem ee_op {op : Operator} {f : M2} {pos} (ho : OpR X (binaryOp op) (rM X.K Z f)) (ha : EE X Z a ma) (hb : EE X Z b mb) : EE X Z (.BinOp a op b pos) (mOp f ma mb) :=
  ee_of (pe_op ho ha.pe hb.pe) fun σ H ρ S R hE hS hm => seq2 hE hS hm
theorem ee_cmp {op : CmpOp} {f : M2} {pos} (ho : OpR X (compareOp op) (rM X.K Z f)) (ha : EE X Z a ma) (hb : EE X Z b mb) (hm : behindInMarks op b = false) : EE X Z (.Compare a [op] [b] pos) (mOp f ma mb) :=
  ee_of (pe_cmpR ho ha.pe hb.pe hm) fun σ H ρ S R hE hS hm => seq2 hE hS hm
theorem ee_ix {f : M2} {pos} (ho : IxR X (rM X.K Z f)) (ha : EE X Z a ma) (hb : EE X Z b mb) (hs : PlainIx b) : EE X Z (.Subscript a b pos) (mOp f ma mb) :=
  ee_of (pe_ix ho ha.pe hb.pe hs) fun σ H ρ S R hE hS hm => seq2 hE hS hm
/-- a comparison as a test -/
def asB (R : Bool → Sto → Prop) : MK := fun v S => match v with
  | .bl b => R b S
  | _ => False
def mTst (m : ME) : MT := fun ρ S R => m ρ S (asB R)
theorem asB_out {K : PySem.W.Frag} {S : Sto} {H : Hp} {R : Bool → Sto → Prop} {v : V} {H' : Hp} (h : MQ K Z S H (asB R) v H') : ∃ k, v = .bl k ∧ MQb K Z S H R k H' := by
  obtain ⟨m, S', t, r, s, q⟩ := h
  unfold asB at q
  split at q
  · unfold RM at r
    exact ⟨_, r, S', t, s, q⟩
  · exact q.elim
theorem et_cmp {op : CmpOp} {f : M2} {pos} (ho : OpR X (compareOp op) (rM X.K Z f)) (ha : EE X Z a ma) (hb : EE X Z b mb) (hm : behindInMarks op b = false) : ET X Z (.Compare a [op] [b] pos) (mTst (mOp f ma mb)) :=
  et_of (pt_cmpR ho ha.pe hb.pe hm) fun σ H ρ S R hE hS hm => by
    obtain ⟨ρ1, S1, R1, e1, e2, e3, e4⟩ := seq2 hE hS hm
    refine ⟨ρ1, S1, R1, e1, e2, e3, fun v H1 q1 => ?_⟩
    obtain ⟨ρ2, S2, R2, f1, f2, f3, f4⟩ := e4 v H1 q1
    refine ⟨ρ2, S2, R2, f1, f2, f3, fun u H2 q2 => ?_⟩
    obtain ⟨mx, my, S3, R3, g1, g2, g3, g4, g5⟩ := f4 u H2 q2
    exact ⟨mx, my, S3, R3, g1, g2, g3, g4, fun v H' q => asB_out (g5 v H' q)⟩
end
end Mv

set_option Elab.async false
set_option linter.all false
set_option maxRecDepth 100000
set_option maxHeartbeats 4000000
namespace Mv
open PySem PySem.Spec PyProof.Rows L2
/-! ### data -/
mutual
def pd : MV → PyData
  | .non => .none
  | .bl b => .bool b
  | .int i => .int i
  | .str s => .str (so s)
  | .tup l => .tuple (pds l)
  | .ref _ => .none
  | .frz l => .list (pds l)
def pds : List MV → List PyData
  | [] => []
  | m :: l => pd m :: pds l
end
mutual
/-- no references, not too deep, its texts plain -/
def fit : MV → Nat → Bool
  | .non, _ => true
  | .bl _, _ => true
  | .int _, _ => true
  | .str s, _ => PyData.strOk (so s)
  | .tup _, 0 => false
  | .tup l, n + 1 => fits l n
  | .ref _, _ => false
  | .frz _, 0 => false
  | .frz l, n + 1 => fits l n
def fits : List MV → Nat → Bool
  | [], _ => true
  | m :: l, n => fit m n && fits l n
end
mutual
theorem fit_lay : ∀ (m : MV) (n : Nat), fit m n = true → (pd m).canLay0 = true ∧ (pd m).depth ≤ n
  | .non, n, _ => by simp [pd, PyData.canLay0, PyData.depth]
  | .bl _, n, _ => by simp [pd, PyData.canLay0, PyData.depth]
  | .int _, n, _ => by simp [pd, PyData.canLay0, PyData.depth]
  | .str s, n, h => by
    simp only [fit] at h
    simp [pd, PyData.canLay0, PyData.depth, h]
  | .tup l, 0, h => by simp [fit] at h
  | .tup l, n + 1, h => by
    simp only [fit] at h
    have := fits_lay l n h
    simp only [pd, PyData.canLay0, PyData.depth]
    exact ⟨this.1, Nat.succ_le_succ this.2⟩
  | .ref _, n, h => by simp [fit] at h
  | .frz l, 0, h => by simp [fit] at h
  | .frz l, n + 1, h => by
    simp only [fit] at h
    have := fits_lay l n h
    simp only [pd, PyData.canLay0, PyData.depth]
    exact ⟨this.1, Nat.succ_le_succ this.2⟩
theorem fits_lay : ∀ (l : List MV) (n : Nat), fits l n = true → PyData.canLayAll0 (pds l) = true ∧ PyData.depthAll (pds l) ≤ n
  | [], n, _ => by simp [pds, PyData.canLayAll0, PyData.depthAll]
  | m :: l, n, h => by
    simp only [fits, Bool.and_eq_true] at h
    have h1 := fit_lay m n h.1
    have h2 := fits_lay l n h.2
    simp only [pds, PyData.canLayAll0, PyData.depthAll, h1.1, h2.1]
    exact ⟨rfl, Nat.max_le.mpr ⟨h1.2, h2.2⟩⟩
end
theorem fit_shaped {m : MV} (h : fit m 60 = true) : SeqAt.shaped (pd m) = true := by
  have q := fit_lay m 60 h
  unfold SeqAt.shaped
  rw [q.1, decide_eq_true (by omega)]; rfl
theorem fits_shaped {l : List MV} (h : fits l 59 = true) : SeqAt.shaped (.list (pds l)) = true := by
  have q := fits_lay l 59 h
  unfold SeqAt.shaped
  rw [show (PyData.list (pds l)).canLay0 = PyData.canLayAll0 (pds l) by simp only [PyData.canLay0], show (PyData.list (pds l)).depth = PyData.depthAll (pds l) + 1 by simp only [PyData.depth], q.1, decide_eq_true (by omega)]; rfl
mutual
theorem dp_of {K : PySem.W.Frag} {H : Hp} : ∀ (m : MV) (n : Nat) {v : V}, fit m n = true → RM K H m v → Dp K H v (pd m)
  | .non, _, _, _, r => by unfold RM at r; subst r; exact .non
  | .bl _, _, _, _, r => by unfold RM at r; subst r; exact .bl _
  | .int _, _, _, _, r => by unfold RM at r; subst r; exact .int _
  | .str _, _, _, _, r => by unfold RM at r; subst r; exact .str _
  | .ref _, _, _, h, _ => by simp [fit] at h
  | .frz l, 0, _, h, _ => by simp [fit] at h
  | .frz l, n + 1, _, h, r => by
    unfold RM at r
    obtain ⟨a, xs, e, s, q⟩ := r
    subst e
    simp only [fit] at h
    exact .lst s.sq (dps_of l n h q)
  | .tup l, 0, _, h, _ => by simp [fit] at h
  | .tup l, n + 1, _, h, r => by
    unfold RM at r
    obtain ⟨a, xs, e, s, q⟩ := r
    subst e
    simp only [fit] at h
    exact .tup s (dps_of l n h q)
theorem dps_of {K : PySem.W.Frag} {H : Hp} : ∀ (l : List MV) (n : Nat) {xs : List V}, fits l n = true → RMs K H l xs → DpAll K H xs (pds l)
  | [], _, _, _, r => by unfold RMs at r; subst r; exact .nil
  | m :: l, n, _, h, r => by
    unfold RMs at r
    obtain ⟨x, r', e, h1, h2⟩ := r
    subst e
    simp only [fits, Bool.and_eq_true] at h
    exact .cons (dp_of m n h.1 h1) (dps_of l n h.2 h2)
end
/-- the list at a, whatever may be done with it -/
def lookL (S : Sto) (a : Addr) : Option (List MV) := match S a with
  | some (.lst l) => some l
  | some (.rl l) => some l
  | _ => none
theorem look_sq {K : PySem.W.Frag} {Z : List Addr} {S : Sto} {H : Hp} {a : Addr} {l : List MV} (r : RS K Z S H) (e : lookL S a = some l) : ∃ xs, SqL K H a xs ∧ RMs K H l xs := by
  unfold lookL at e
  cases q : S a with
  | none => rw [q] at e; cases e
  | some o =>
    have h := r.ob a o q
    rw [q] at e
    cases o with
    | lst l' =>
      cases e
      obtain ⟨xs, h1, h2⟩ := h
      exact ⟨xs, .inl (.inl h1), h2⟩
    | rl l' =>
      cases e
      obtain ⟨xs, h1, h2⟩ := h
      exact ⟨xs, .inl h1, h2⟩
    | _ => cases e
/-- what == reads of a value -/
def datL (S : Sto) (a : Addr) : Option PyData := match lookL S a with
  | some l => if fits l 59 = true then some (.list (pds l)) else none
  | none => none
def dat (S : Sto) : MV → Option PyData
  | .non => some .none
  | .bl b => some (.bool b)
  | .int i => some (.int i)
  | .str s => if PyData.strOk (so s) = true then some (.str (so s)) else none
  | .tup l => if fits l 59 = true then some (.tuple (pds l)) else none
  | .ref a => datL S a
  | .frz l => if fits l 59 = true then some (.list (pds l)) else none
theorem dat_dp {K : PySem.W.Frag} {Z : List Addr} {S : Sto} {H : Hp} (r : RS K Z S H) {m : MV} {v : V} {d : PyData} (e : dat S m = some d) (q : RM K H m v) : Dp K H v d ∧ SeqAt.shaped d = true := by
  have fin : ∀ m, fit m 60 = true → RM K H m v → Dp K H v (pd m) ∧ SeqAt.shaped (pd m) = true := fun m hf q => ⟨dp_of m 60 hf q, fit_shaped hf⟩
  cases m with
  | ref a =>
    have e : datL S a = some d := e
    unfold datL at e
    cases h : lookL S a with
    | none => rw [h] at e; cases e
    | some l =>
      rw [h] at e
      have e : (if fits l 59 = true then some (PyData.list (pds l)) else none) = some d := e
      split at e
      · rename_i hf
        cases e
        obtain ⟨xs, h1, h2⟩ := look_sq r h
        unfold RM at q; subst q
        exact ⟨.lst h1 (dps_of l 59 hf h2), fits_shaped hf⟩
      · cases e
  | frz l =>
    have e : (if fits l 59 = true then some (PyData.list (pds l)) else none) = some d := e
    split at e
    · rename_i hf; cases e
      have h := fin (.frz l) (by simpa [fit] using hf) q
      simpa [pd] using h
    · cases e
  | non => cases e; exact fin .non rfl q
  | bl b => cases e; exact fin (.bl b) rfl q
  | int i => cases e; exact fin (.int i) rfl q
  | str s =>
    have e : (if PyData.strOk (so s) = true then some (PyData.str (so s)) else none) = some d := e
    split at e
    · rename_i hf; cases e; exact fin (.str s) (by simpa [fit] using hf) q
    · cases e
  | tup l =>
    have e : (if fits l 59 = true then some (PyData.tuple (pds l)) else none) = some d := e
    split at e
    · rename_i hf; cases e
      have h := fin (.tup l) (by simpa [fit] using hf) q
      simpa [pd] using h
    · cases e
/-! ### what follows -/
section
variable {K : PySem.W.Frag} {Z : List Addr} {S : Sto} {H : Hp} {R : MK} {Q : VK}
theorem mq (hQ : ∀ v H', MQ K Z S H R v H' → Q v H') {m : MV} {v : V} (r : RM K H m v) (s : RS K Z S H) (h : R m S) : Q v H := hQ _ _ ⟨m, S, GK.refl, r, s, h⟩
theorem mq_int (hQ : ∀ v H', MQ K Z S H R v H' → Q v H') {i : Int} (s : RS K Z S H) (h : R (.int i) S) : Q (.int i) H := mq hQ (by unfold RM; rfl) s h
theorem mq_bl (hQ : ∀ v H', MQ K Z S H R v H' → Q v H') {b : Bool} (s : RS K Z S H) (h : R (.bl b) S) : Q (.bl b) H := mq hQ (by unfold RM; rfl) s h
theorem mq_non (hQ : ∀ v H', MQ K Z S H R v H' → Q v H') (s : RS K Z S H) (h : R .non S) : Q .non H := mq hQ (by unfold RM; rfl) s h
def newL (l : List MV) (S : Sto) (R : MK) : Prop := ∀ p, S p = none → R (.ref p) (supd S p (.lst l))
theorem mq_lst (hQ : ∀ v H', MQ K Z S H R v H' → Q v H') {l : List MV} {xs : List V} {p : Addr} (s : RS K Z S H) (r : RMs K H l xs) (hp : H p = none) (h : newL l S R) : Q (.ref p) (upd H p (.lst xs)) :=
  hQ _ _ ⟨.ref p, _, GK.new hp, by unfold RM; rfl, s.newL hp r, h p (s.free hp)⟩
theorem mq_tup (hQ : ∀ v H', MQ K Z S H R v H' → Q v H') {l : List MV} {xs : List V} {p : Addr} (s : RS K Z S H) (r : RMs K H l xs) (hp : H p = none) (h : R (.tup l) S) : Q (.ref p) (upd H p (.tup xs)) :=
  hQ _ _ ⟨.tup l, S, GK.hid hp, by unfold RM; exact ⟨p, xs, rfl, .inl (.inl upd_same), r.mono (GK.hid (S := S) hp)⟩, s.hid hp, h⟩
end
/-! ### the operations -/
def addV : M2 := fun x y S R => match x, y with
  | .int i, .int j => R (.int (i + j)) S
  | .tup l, .tup k => l.length + k.length ≤ sizeLine ∧ R (.tup (l ++ k)) S
  | .ref a, .ref b => (match S a, S b with
    | some (.lst l), some (.lst k) => l.length + k.length ≤ sizeLine ∧ newL (l ++ k) S R
    | _, _ => False)
  | .frz l, .frz k => l.length + k.length ≤ sizeLine ∧ newL (l ++ k) S R
  | _, _ => False
def subV : M2 := fun x y S R => match x, y with
  | .int i, .int j => R (.int (i - j)) S
  | _, _ => False
def mulV : M2 := fun x y S R => match x, y with
  | .int i, .int j => CMul i j ∧ R (.int (i * j)) S
  | _, _ => False
def modV : M2 := fun x y S R => match x, y with
  | .int i, .int j => 0 < j ∧ R (.int (i % j)) S
  | _, _ => False
def fdivV : M2 := fun x y S R => match x, y with
  | .int i, .int j => CDiv i j ∧ R (.int (i / j)) S
  | _, _ => False
def powV : M2 := fun x y S R => match x, y with
  | .int i, .int j => CPow i j ∧ R (.int (i ^ j.toNat)) S
  | _, _ => False
def ltV : M2 := fun x y S R => match x, y with
  | .int i, .int j => R (.bl (decide (i < j))) S
  | _, _ => False
def leV : M2 := fun x y S R => match x, y with
  | .int i, .int j => R (.bl (decide (i ≤ j))) S
  | _, _ => False
def gtV : M2 := fun x y S R => match x, y with
  | .int i, .int j => R (.bl (decide (j < i))) S
  | _, _ => False
def geV : M2 := fun x y S R => match x, y with
  | .int i, .int j => R (.bl (decide (j ≤ i))) S
  | _, _ => False
def eqV' : M2 := fun x y S R => match dat S x, dat S y with
  | some d, some e => R (.bl (PyData.eqv d e)) S
  | _, _ => False
def neV' : M2 := fun x y S R => match dat S x, dat S y with
  | some d, some e => R (.bl (!PyData.eqv d e)) S
  | _, _ => False
def isV : M2 := fun x y S R => match x, y with
  | .bl a, .bl b => R (.bl (decide (a = b))) S
  | .non, .non => R (.bl true) S
  | _, .non => R (.bl false) S
  | _, _ => False
def isnotV : M2 := fun x y S R => match x, y with
  | .bl a, .bl b => R (.bl (!decide (a = b))) S
  | .non, .non => R (.bl false) S
  | _, .non => R (.bl true) S
  | _, _ => False
/-- nothing within -/
def flatM : MV → Bool
  | .non => true
  | .bl _ => true
  | .int _ => true
  | .str s => PyData.strOk (so s)
  | _ => false
def inB (x : MV) (l : List MV) : Bool := l.any fun y => PyData.eqv (pd y) (pd x)
def inM : M2 := fun x y S R => match y with
  | .tup l => (flatM x && l.all flatM) = true ∧ R (.bl (inB x l)) S
  | .ref a => (match lookL S a with
    | some l => (fit x 60 && fits l 59) = true ∧ R (.bl (inB x l)) S
    | none => False)
  | .frz l => (fit x 60 && fits l 59) = true ∧ R (.bl (inB x l)) S
  | _ => False
def notInM : M2 := fun x y S R => match y with
  | .tup l => (flatM x && l.all flatM) = true ∧ R (.bl (!inB x l)) S
  | .ref a => (match lookL S a with
    | some l => (fit x 60 && fits l 59) = true ∧ R (.bl (!inB x l)) S
    | none => False)
  | .frz l => (fit x 60 && fits l 59) = true ∧ R (.bl (!inB x l)) S
  | _ => False
section
variable {X : Cx} {Z : List Addr}
theorem op_catS : OpR X (binaryOp .Add) (fun x y H Q => ∃ a b xs ys, x = .ref a ∧ y = .ref b ∧ SqL X.K H a xs ∧ SqL X.K H b ys ∧ xs.length + ys.length ≤ sizeLine ∧ ∀ p, H p = none → Q (.ref p) (upd H p (.lst (xs ++ ys)))) := by
  intro pins s σ H x y v u Q I rx ry h
  obtain ⟨a, b, xs, ys, rfl, rfl, ha, hb, hz, q⟩ := h
  cases rx
  cases ry
  obtain ⟨its, r, p1, _⟩ := I.list ha
  obtain ⟨its2, r2, p2, _⟩ := I.list hb
  obtain ⟨⟨cls, dd, data, sl⟩, ho, hc, n, hd⟩ := p1.isList
  obtain ⟨⟨cls2, dd2, data2, sl2⟩, ho2, hc2, n2, hd2⟩ := p2.isList
  simp only at hc hd hc2 hd2
  subst hc hd hc2 hd2
  have l1 := r.length
  have l2 := r2.length
  have ea : its.toArray ++ its2.toArray = (its ++ its2).toArray := by simp
  refine concat_meets ⟨_, ho, rfl⟩ ⟨_, ho2, rfl⟩ noFill_list_add seq_list_add PySem.F.slot_list_add PySem.F.entry_list_add (PySem.F.args_list_add_2 _ _) (list_addW a b its.toArray its2.toArray n n2 dd dd2 sl sl2 (by rw [List.size_toArray, List.size_toArray]; omega)) ⟨ho, ho2, ?_⟩
  rw [ea]
  exact ⟨.ref _, _, I.lnew (t' := s.toks) (r.append r2) (by rw [List.length_append]; omega), rfl, q _ I.fresh⟩
theorem ro_add : OpR X (binaryOp .Add) (rM X.K Z addV) := by
  intro pins s σ H x y v u Q I rx ry h
  obtain ⟨mx, my, S, R, r1, r2, hS, hf, hQ⟩ := h
  unfold addV at hf
  split at hf
  · unfold RM at r1 r2
    exact op_add pins s σ H x y v u Q I rx ry ⟨_, _, r1, r2, mq_int hQ hS hf⟩
  · rename_i l k
    have r1' := r1; have r2' := r2
    unfold RM at r1 r2
    obtain ⟨a, xs, e1, s1, q1⟩ := r1
    obtain ⟨b, ys, e2, s2, q2⟩ := r2
    refine op_catA pins s σ H x y v u Q I rx ry ⟨a, b, xs, ys, e1, e2, s1, s2, by rw [q1.length, q2.length]; exact hf.1, fun e => ?_, fun _ e => ?_, fun _ _ p hp => ?_⟩
    · have : l = [] := by
        have := q1.length; rw [e] at this; exact List.eq_nil_of_length_eq_zero this.symm
      subst this
      subst e2
      exact mq hQ r2' hS hf.2
    · have : k = [] := by
        have := q2.length; rw [e] at this; exact List.eq_nil_of_length_eq_zero this.symm
      subst this
      subst e1
      have hf2 := hf.2
      rw [List.append_nil] at hf2
      exact mq hQ r1' hS hf2
    · exact mq_tup hQ hS (q1.append q2) hp hf.2
  · rename_i a b
    split at hf
    · rename_i l k ea eb
      obtain ⟨xs, h1, q1⟩ := hS.lst ea
      obtain ⟨ys, h2, q2⟩ := hS.lst eb
      unfold RM at r1 r2
      exact op_cat pins s σ H x y v u Q I rx ry ⟨a, b, xs, ys, r1, r2, h1, h2, by rw [q1.length, q2.length]; exact hf.1, fun p hp => mq_lst hQ hS (q1.append q2) hp hf.2⟩
    · exact hf.elim
  · rename_i l k
    unfold RM at r1 r2
    obtain ⟨a, xs, e1, s1, q1⟩ := r1
    obtain ⟨b, ys, e2, s2, q2⟩ := r2
    exact op_catS pins s σ H x y v u Q I rx ry ⟨a, b, xs, ys, e1, e2, s1.sq, s2.sq, by rw [q1.length, q2.length]; exact hf.1, fun p hp => mq_lst hQ hS (q1.append q2) hp hf.2⟩
  · exact hf.elim
theorem roI {f : Value → Value → Sem Value} {C : Int → Int → Prop} {g : Int → Int → Int} {h2 : M2} (ho : OpR X f (rI C fun i j => .int (g i j)))
    (hh : ∀ x y S R, h2 x y S R → ∃ i j, x = .int i ∧ y = .int j ∧ C i j ∧ R (.int (g i j)) S) : OpR X f (rM X.K Z h2) := by
  intro pins s σ H x y v u Q I rx ry h
  obtain ⟨mx, my, S, R, r1, r2, hS, hf, hQ⟩ := h
  obtain ⟨i, j, e1, e2, c, q⟩ := hh _ _ _ _ hf
  subst e1; subst e2
  unfold RM at r1 r2
  exact ho pins s σ H x y v u Q I rx ry ⟨i, j, r1, r2, c, mq_int hQ hS q⟩
theorem roB {f : Value → Value → Sem Value} {g : Int → Int → Bool} {h2 : M2} (ho : OpR X f (rI0 fun i j => .bl (g i j)))
    (hh : ∀ x y S R, h2 x y S R → ∃ i j, x = .int i ∧ y = .int j ∧ R (.bl (g i j)) S) : OpR X f (rM X.K Z h2) := by
  intro pins s σ H x y v u Q I rx ry h
  obtain ⟨mx, my, S, R, r1, r2, hS, hf, hQ⟩ := h
  obtain ⟨i, j, e1, e2, q⟩ := hh _ _ _ _ hf
  subst e1; subst e2
  unfold RM at r1 r2
  exact ho pins s σ H x y v u Q I rx ry ⟨i, j, r1, r2, mq_bl hQ hS q⟩
theorem ro_sub : OpR X (binaryOp .Sub) (rM X.K Z subV) := by
  intro pins s σ H x y v u Q I rx ry h
  obtain ⟨mx, my, S, R, r1, r2, hS, hf, hQ⟩ := h
  unfold subV at hf
  split at hf
  · unfold RM at r1 r2
    exact op_sub pins s σ H x y v u Q I rx ry ⟨_, _, r1, r2, mq_int hQ hS hf⟩
  · exact hf.elim
theorem ro_mul : OpR X (binaryOp .Mult) (rM X.K Z mulV) := roI op_mul fun x y S R h => by
  unfold mulV at h; split at h
  · exact ⟨_, _, rfl, rfl, h.1, h.2⟩
  · exact h.elim
theorem ro_mod : OpR X (binaryOp .Mod) (rM X.K Z modV) := roI op_mod fun x y S R h => by
  unfold modV at h; split at h
  · exact ⟨_, _, rfl, rfl, h.1, h.2⟩
  · exact h.elim
theorem ro_fdiv : OpR X (binaryOp .FloorDiv) (rM X.K Z fdivV) := roI op_fdiv fun x y S R h => by
  unfold fdivV at h; split at h
  · exact ⟨_, _, rfl, rfl, h.1, h.2⟩
  · exact h.elim
theorem ro_pow : OpR X (binaryOp .Pow) (rM X.K Z powV) := roI op_pow fun x y S R h => by
  unfold powV at h; split at h
  · exact ⟨_, _, rfl, rfl, h.1, h.2⟩
  · exact h.elim
theorem ro_lt : OpR X (compareOp .Lt) (rM X.K Z ltV) := roB op_lt fun x y S R h => by
  unfold ltV at h; split at h
  · exact ⟨_, _, rfl, rfl, h⟩
  · exact h.elim
theorem ro_le : OpR X (compareOp .LtE) (rM X.K Z leV) := roB op_le fun x y S R h => by
  unfold leV at h; split at h
  · exact ⟨_, _, rfl, rfl, h⟩
  · exact h.elim
theorem ro_gt : OpR X (compareOp .Gt) (rM X.K Z gtV) := roB op_gt fun x y S R h => by
  unfold gtV at h; split at h
  · exact ⟨_, _, rfl, rfl, h⟩
  · exact h.elim
theorem ro_ge : OpR X (compareOp .GtE) (rM X.K Z geV) := roB op_ge fun x y S R h => by
  unfold geV at h; split at h
  · exact ⟨_, _, rfl, rfl, h⟩
  · exact h.elim
theorem ro_eq (hu : X.A.units + 64 < cLine) : OpR X (compareOp .Eq) (rM X.K Z eqV') := by
  intro pins s σ H x y v u Q I rx ry h
  obtain ⟨mx, my, S, R, r1, r2, hS, hf, hQ⟩ := h
  unfold eqV' at hf
  split at hf
  · rename_i d e e1 e2
    obtain ⟨d1, s1⟩ := dat_dp hS e1 r1
    obtain ⟨d2, s2⟩ := dat_dp hS e2 r2
    exact op_eqD hu pins s σ H x y v u Q I rx ry ⟨d, e, d1, d2, s1, s2, mq_bl hQ hS hf⟩
  · exact hf.elim
theorem ro_ne (hu : X.A.units + 64 < cLine) : OpR X (compareOp .NotEq) (rM X.K Z neV') := by
  intro pins s σ H x y v u Q I rx ry h
  obtain ⟨mx, my, S, R, r1, r2, hS, hf, hQ⟩ := h
  unfold neV' at hf
  split at hf
  · rename_i d e e1 e2
    obtain ⟨d1, s1⟩ := dat_dp hS e1 r1
    obtain ⟨d2, s2⟩ := dat_dp hS e2 r2
    exact op_neD hu pins s σ H x y v u Q I rx ry ⟨d, e, d1, d2, s1, s2, mq_bl hQ hS hf⟩
  · exact hf.elim
theorem rm_non {K : PySem.W.Frag} {H : Hp} {m : MV} {v : V} (r : RM K H m v) : (v = .non) ↔ m = .non := by
  constructor
  · intro e; subst e
    cases m with
    | non => rfl
    | tup l => unfold RM at r; obtain ⟨a, xs, e, _⟩ := r; cases e
    | frz l => unfold RM at r; obtain ⟨a, xs, e, _⟩ := r; cases e
    | _ => unfold RM at r; cases r
  · intro e; subst e; unfold RM at r; exact r
theorem ro_is : OpR X (compareOp .Is) (rM X.K Z isV) := by
  intro pins s σ H x y v u Q I rx ry h
  obtain ⟨mx, my, S, R, r1, r2, hS, hf, hQ⟩ := h
  unfold isV at hf
  split at hf
  · unfold RM at r1 r2
    exact op_isBl pins s σ H x y v u Q I rx ry ⟨_, _, r1, r2, mq_bl hQ hS hf⟩
  · exact op_isN pins s σ H x y v u Q I rx ry ⟨(rm_non r2).2 rfl, by rw [decide_eq_true ((rm_non r1).2 rfl)]; exact mq_bl hQ hS hf⟩
  · rename_i hn
    refine op_isN pins s σ H x y v u Q I rx ry ⟨(rm_non r2).2 rfl, ?_⟩
    rw [decide_eq_false (fun e => hn ((rm_non r1).1 e))]; exact mq_bl hQ hS hf
  · exact hf.elim
theorem ro_isnot : OpR X (compareOp .IsNot) (rM X.K Z isnotV) := by
  intro pins s σ H x y v u Q I rx ry h
  obtain ⟨mx, my, S, R, r1, r2, hS, hf, hQ⟩ := h
  unfold isnotV at hf
  split at hf
  · unfold RM at r1 r2
    exact op_notBl pins s σ H x y v u Q I rx ry ⟨_, _, r1, r2, mq_bl hQ hS hf⟩
  · exact op_notN pins s σ H x y v u Q I rx ry ⟨(rm_non r2).2 rfl, by rw [decide_eq_true ((rm_non r1).2 rfl)]; exact mq_bl hQ hS hf⟩
  · rename_i hn
    refine op_notN pins s σ H x y v u Q I rx ry ⟨(rm_non r2).2 rfl, ?_⟩
    rw [decide_eq_false (fun e => hn ((rm_non r1).1 e))]; exact mq_bl hQ hS hf
  · exact hf.elim
theorem flat_V {K : PySem.W.Frag} {H : Hp} {m : MV} {v : V} (f : flatM m = true) (r : RM K H m v) : flatV v = true := by
  cases m with
  | tup l => cases f
  | ref a => cases f
  | frz a => cases f
  | _ => unfold RM at r; subst r; rfl
theorem flats_V {K : PySem.W.Frag} {H : Hp} : ∀ {l : List MV} {xs : List V}, l.all flatM = true → RMs K H l xs → xs.all flatV = true
  | [], _, _, r => by unfold RMs at r; subst r; rfl
  | m :: l, _, f, r => by
    unfold RMs at r
    obtain ⟨x, r', e, h1, h2⟩ := r
    subst e
    rw [List.all_cons, Bool.and_eq_true] at f ⊢
    exact ⟨flat_V f.1 h1, flats_V f.2 h2⟩
theorem so_beq (s t : String) : (so s == so t) = (s == t) := by
  by_cases h : s = t
  · subst h; simp
  · have : so s ≠ so t := fun e => h (so_inj e)
    rw [beq_eq_false_iff_ne.mpr this, beq_eq_false_iff_ne.mpr h]
theorem eqV_eqv {K : PySem.W.Frag} {H : Hp} {m n : MV} {v u : V} (f : flatM m = true) (g : flatM n = true) (r : RM K H m v) (q : RM K H n u) : eqV v u = PyData.eqv (pd m) (pd n) := by
  cases m with
  | tup l => cases f
  | ref a => cases f
  | frz a => cases f
  | _ => cases n with
    | tup l => cases g
    | ref a => cases g
    | frz a => cases g
    | _ => unfold RM at r q; subst r; subst q; simp [eqV, pd, PyData.eqv]
theorem inV_inB {K : PySem.W.Frag} {H : Hp} {x : MV} {v : V} (f : flatM x = true) (r : RM K H x v) : ∀ {l : List MV} {xs : List V}, l.all flatM = true → RMs K H l xs → inV v xs = inB x l
  | [], _, _, q => by unfold RMs at q; subst q; rfl
  | m :: l, _, g, q => by
    unfold RMs at q
    obtain ⟨y, r', e, h1, h2⟩ := q
    subst e
    rw [List.all_cons, Bool.and_eq_true] at g
    have ih := inV_inB f r g.2 h2
    unfold inV inB at ih ⊢
    rw [List.any_cons, List.any_cons, ih, eqV_eqv g.1 f h1 r]
theorem any_pds (x : MV) : ∀ l : List MV, ((pds l).any fun z => PyData.eqv z (pd x)) = inB x l
  | [] => rfl
  | m :: l => by
    have ih := any_pds x l
    unfold inB at ih ⊢
    simp only [pds, List.any_cons, ih]
theorem ro_in (hu : X.A.units + 65 < cLine) : OpR X (compareOp .In) (rM X.K Z inM) := by
  intro pins s σ H x y v u Q I rx ry h
  obtain ⟨mx, my, S, R, r1, r2, hS, hf, hQ⟩ := h
  unfold inM at hf
  split at hf
  · rename_i l
    obtain ⟨hf1, hf2⟩ := hf
    rw [Bool.and_eq_true] at hf1
    unfold RM at r2
    obtain ⟨b, ys, e2, s2, q2⟩ := r2
    refine op_in_seq pins s σ H x y v u Q I rx ry ⟨b, ys, e2, .inr s2, flat_V hf1.1 r1, flats_V hf1.2 q2, ?_⟩
    rw [if_neg Bool.false_ne_true, inV_inB hf1.1 r1 hf1.2 q2]
    exact mq_bl hQ hS hf2
  · rename_i a
    split at hf
    · rename_i l e
      obtain ⟨hf1, hf2⟩ := hf
      rw [Bool.and_eq_true] at hf1
      unfold RM at r2; subst r2
      obtain ⟨xs, h1, h2⟩ := look_sq hS e
      refine op_inD hu pins s σ H x _ v u Q I rx ry ⟨pd mx, pds l, dp_of _ 60 hf1.1 r1, .lst h1 (dps_of l 59 hf1.2 h2), fit_shaped hf1.1, fits_shaped hf1.2, ?_⟩
      rw [any_pds]
      exact mq_bl hQ hS hf2
    · exact hf.elim
  · rename_i l
    obtain ⟨hf1, hf2⟩ := hf
    rw [Bool.and_eq_true] at hf1
    unfold RM at r2
    obtain ⟨b, ys, e2, s2, q2⟩ := r2
    subst e2
    refine op_inD hu pins s σ H x _ v u Q I rx ry ⟨pd mx, pds l, dp_of _ 60 hf1.1 r1, .lst s2.sq (dps_of l 59 hf1.2 q2), fit_shaped hf1.1, fits_shaped hf1.2, ?_⟩
    rw [any_pds]
    exact mq_bl hQ hS hf2
  · exact hf.elim
theorem ro_notin (hu : X.A.units + 65 < cLine) : OpR X (compareOp .NotIn) (rM X.K Z notInM) := by
  intro pins s σ H x y v u Q I rx ry h
  obtain ⟨mx, my, S, R, r1, r2, hS, hf, hQ⟩ := h
  unfold notInM at hf
  split at hf
  · rename_i l
    obtain ⟨hf1, hf2⟩ := hf
    rw [Bool.and_eq_true] at hf1
    unfold RM at r2
    obtain ⟨b, ys, e2, s2, q2⟩ := r2
    refine op_notIn_seq pins s σ H x y v u Q I rx ry ⟨b, ys, e2, .inr s2, flat_V hf1.1 r1, flats_V hf1.2 q2, ?_⟩
    rw [if_pos rfl, inV_inB hf1.1 r1 hf1.2 q2]
    exact mq_bl hQ hS hf2
  · rename_i a
    split at hf
    · rename_i l e
      obtain ⟨hf1, hf2⟩ := hf
      rw [Bool.and_eq_true] at hf1
      unfold RM at r2; subst r2
      obtain ⟨xs, h1, h2⟩ := look_sq hS e
      refine op_notInD hu pins s σ H x _ v u Q I rx ry ⟨pd mx, pds l, dp_of _ 60 hf1.1 r1, .lst h1 (dps_of l 59 hf1.2 h2), fit_shaped hf1.1, fits_shaped hf1.2, ?_⟩
      rw [any_pds]
      exact mq_bl hQ hS hf2
    · exact hf.elim
  · rename_i l
    obtain ⟨hf1, hf2⟩ := hf
    rw [Bool.and_eq_true] at hf1
    unfold RM at r2
    obtain ⟨b, ys, e2, s2, q2⟩ := r2
    subst e2
    refine op_notInD hu pins s σ H x _ v u Q I rx ry ⟨pd mx, pds l, dp_of _ 60 hf1.1 r1, .lst s2.sq (dps_of l 59 hf1.2 q2), fit_shaped hf1.1, fits_shaped hf1.2, ?_⟩
    rw [any_pds]
    exact mq_bl hQ hS hf2
  · exact hf.elim
end
/-! ### subscripts -/
def ixV : M2 := fun x y S R => match y with
  | .int i => (match x with
    | .tup l => (match atI l i with
      | some v => R v S
      | none => False)
    | .ref a => (match lookL S a with
      | some l => (match atI l i with
        | some v => R v S
        | none => False)
      | none => False)
    | .frz l => (match atI l i with
      | some v => R v S
      | none => False)
    | _ => False)
  | _ => False
theorem at_rel {K : PySem.W.Frag} {H : Hp} {l : List MV} {xs : List V} {i : Int} {m : MV} (r : RMs K H l xs) (h : atI l i = some m) : ∃ x, atI xs i = some x ∧ RM K H m x := by
  unfold atI at h ⊢
  rw [r.length]
  cases e : ixN l.length i with
  | none => rw [e] at h; cases h
  | some j =>
    rw [e] at h
    obtain ⟨x, h1, h2⟩ := r.get (show l[j]? = some m from h)
    exact ⟨x, h1, h2⟩
section
variable {X : Cx} {Z : List Addr}
theorem ri_ix : IxR X (rM X.K Z ixV) := by
  intro value slice pins s σ H x y v u Q I rx ry h hs
  obtain ⟨mx, my, S, R, r1, r2, hS, hf, hQ⟩ := h
  unfold ixV at hf
  split at hf
  · rename_i i
    unfold RM at r2
    split at hf
    · rename_i l
      split at hf
      · rename_i m e
        unfold RM at r1
        obtain ⟨a, xs, e1, s1, q1⟩ := r1
        obtain ⟨z, h1, h2⟩ := at_rel q1 e
        exact ix_tup value slice pins s σ H x y v u Q I rx ry ⟨a, xs, i, z, e1, r2, s1, h1, mq hQ h2 hS hf⟩ hs
      · exact hf.elim
    · rename_i a
      split at hf
      · rename_i l el
        split at hf
        · rename_i m e
          unfold RM at r1
          obtain ⟨xs, g1, g2⟩ := look_sq hS el
          obtain ⟨z, h1, h2⟩ := at_rel g2 e
          exact ix_list value slice pins s σ H x y v u Q I rx ry ⟨a, xs, i, z, r1, r2, g1, h1, mq hQ h2 hS hf⟩ hs
        · exact hf.elim
      · exact hf.elim
    · rename_i l
      split at hf
      · rename_i m e
        unfold RM at r1
        obtain ⟨a, xs, e1, s1, q1⟩ := r1
        obtain ⟨z, h1, h2⟩ := at_rel q1 e
        exact ix_list value slice pins s σ H x y v u Q I rx ry ⟨a, xs, i, z, e1, r2, s1.sq, h1, mq hQ h2 hS hf⟩ hs
      · exact hf.elim
    · exact hf.elim
  · exact hf.elim
end
end Mv

set_option Elab.async false
set_option linter.all false
set_option maxRecDepth 100000
set_option maxHeartbeats 4000000
namespace Mv
open PySem PySem.Spec PyProof.Rows L2
/-! ### truth -/
def truB (S : Sto) : MV → Option Bool
  | .non => some false
  | .bl b => some b
  | .int i => some (i != 0)
  | .str _ => none
  | .tup l => some (!l.isEmpty)
  | .ref a => (match S a with
    | some (.lst l) => some (!l.isEmpty)
    | some (.rl l) => some (!l.isEmpty)
    | some (.dct kvs) => some (!kvs.isEmpty)
    | _ => none)
  | .frz l => some (!l.isEmpty)
theorem tru_of {K : PySem.W.Frag} {Z : List Addr} {S : Sto} {H : Hp} {m : MV} {v : V} {b : Bool} (hS : RS K Z S H) (r : RM K H m v) (h : truB S m = some b) : TruV K v H b := by
  cases m with
  | non => unfold RM at r; subst r; cases h; rfl
  | bl c => unfold RM at r; subst r; cases h; rfl
  | int i => unfold RM at r; subst r; cases h; rfl
  | str s => cases h
  | frz l =>
    unfold RM at r
    obtain ⟨a, xs, e, s, q⟩ := r
    subst e
    cases h
    exact .inl ⟨xs, s.sq, by rw [q.isEmpty]⟩
  | tup l =>
    unfold RM at r
    obtain ⟨a, xs, e, s, q⟩ := r
    subst e
    cases h
    exact .inr (.inl ⟨xs, s, by rw [q.isEmpty]⟩)
  | ref a =>
    unfold RM at r; subst r
    have h : (match S a with
      | some (.lst l) => some (!l.isEmpty)
      | some (.rl l) => some (!l.isEmpty)
      | some (.dct kvs) => some (!kvs.isEmpty)
      | _ => none) = some b := h
    cases e : S a with
    | none => rw [e] at h; cases h
    | some o =>
      have q := hS.ob a o e
      rw [e] at h
      cases o with
      | lst l =>
        obtain ⟨xs, h1, h2⟩ := q
        cases h
        exact .inl ⟨xs, .inl (.inl h1), by rw [h2.isEmpty]⟩
      | rl l =>
        obtain ⟨xs, h1, h2⟩ := q
        cases h
        exact .inl ⟨xs, .inl h1, by rw [h2.isEmpty]⟩
      | dct kvs =>
        obtain ⟨ks, h1, h2, h3⟩ := q
        cases h
        refine .inr (.inr ⟨ks, h1, ?_⟩)
        have : ks.length = kvs.length := by have := congrArg List.length h2; simpa using this
        cases ks <;> cases kvs <;> simp_all
      | _ => cases h
def mTru (m : ME) : MT := fun ρ S R => m ρ S fun v S' => match truB S' v with
  | some b => R b S'
  | none => False
def mAndV (ma mb : ME) : ME := fun ρ S R => ma ρ S fun x S1 => match truB S1 x with
  | some true => mb ρ S1 R
  | some false => R x S1
  | none => False
def mOrV (ma mb : ME) : ME := fun ρ S R => ma ρ S fun x S1 => match truB S1 x with
  | some true => R x S1
  | some false => mb ρ S1 R
  | none => False
def mNotV (ma : ME) : ME := fun ρ S R => ma ρ S fun x S1 => match truB S1 x with
  | some b => R (.bl (!b)) S1
  | none => False
def mAnd (t u : MT) : MT := fun ρ S R => t ρ S fun b S1 => match b with
  | true => u ρ S1 R
  | false => R false S1
def mOr (t u : MT) : MT := fun ρ S R => t ρ S fun b S1 => match b with
  | true => R true S1
  | false => u ρ S1 R
def mNot (t : MT) : MT := fun ρ S R => t ρ S fun b S1 => R (!b) S1
def mIf (t : MT) (a b : ME) : ME := fun ρ S R => t ρ S fun c S1 => match c with
  | true => a ρ S1 R
  | false => b ρ S1 R
def mUn (f : MV → Sto → MK → Prop) (ma : ME) : ME := fun ρ S R => ma ρ S fun x S1 => f x S1 R
def negV : MV → Sto → MK → Prop := fun x S R => match x with
  | .int i => R (.int (-i)) S
  | _ => False
def mChain (f g : M2) (ma mb mc : ME) : ME := fun ρ S R => ma ρ S fun x S1 => mb ρ S1 fun y S2 => f x y S2 (asB fun b S3 => match b with
  | true => mc ρ S3 fun z S4 => g y z S4 R
  | false => R (.bl false) S3)
section
variable {K : PySem.W.Frag} {Z : List Addr}
theorem MQ.base {S0 S : Sto} {H0 H : Hp} {R : MK} (t : GK K S0 H0 S H) {v : V} {H' : Hp} (h : MQ K Z S H R v H') : MQ K Z S0 H0 R v H' :=
  let ⟨m, S', t', r, s, q⟩ := h; ⟨m, S', t.trans t', r, s, q⟩
theorem MQb.base {S0 S : Sto} {H0 H : Hp} {R : Bool → Sto → Prop} (t : GK K S0 H0 S H) {v : Bool} {H' : Hp} (h : MQb K Z S H R v H') : MQb K Z S0 H0 R v H' :=
  let ⟨S', t', s, q⟩ := h; ⟨S', t.trans t', s, q⟩
theorem MQs.base {S0 S : Sto} {H0 H : Hp} {R : List MV → Sto → Prop} (t : GK K S0 H0 S H) {v : List V} {H' : Hp} (h : MQs K Z S H R v H') : MQs K Z S0 H0 R v H' :=
  let ⟨m, S', t', r, s, q⟩ := h; ⟨m, S', t.trans t', r, s, q⟩
theorem MQd.base {S0 S : Sto} {H0 H : Hp} {R : Env → Sto → Prop} (t : GK K S0 H0 S H) {v : L2.St} {H' : Hp} (h : MQd K Z S H R v H') : MQd K Z S0 H0 R v H' :=
  let ⟨m, S', t', r, s, q⟩ := h; ⟨m, S', t.trans t', r, s, q⟩
end
section
variable {X : Cx} {Z : List Addr} {e a b c : Expr} {m ma mb mc : ME} {mt mu : MT} {pos : Pos} {rest : List Expr}
theorem et_tru (h : EE X Z e m) (he : ∀ whole, isTrue e X.env whole = (do let v ← whole; standAt e.pos; holding [v] (truthy v)) := by intro _; kernel_rfl) : ET X Z e (mTru m) :=
  et_of (pt_truth h.pe he) fun σ H ρ S R hE hS hm => by
    refine ⟨ρ, S, _, hE, hS, hm, fun v H1 ⟨x, S1, t1, r1, s1, q1⟩ => ?_⟩
    dsimp only at q1
    split at q1
    · rename_i b e1
      exact ⟨b, tru_of s1 r1 e1, S1, t1, s1, q1⟩
    · exact q1.elim
theorem ee_one {op} (h : EE X Z a m) : EE X Z (.BoolOp op [a] pos) m := ⟨fun σ H ρ S R hE hS hm pins s I => (pe_one (h.pe)).run pins s σ H _ I ⟨ρ, S, R, hE, hS, hm, fun v H' q => q⟩⟩
theorem ee_and (ha : EE X Z a ma) (hb : EE X Z (.BoolOp .And (b :: rest) pos) mb) : EE X Z (.BoolOp .And (a :: b :: rest) pos) (mAndV ma mb) :=
  ee_of (pe_andT ha.pe hb.pe) fun σ H ρ S R hE hS hm => by
    refine ⟨ρ, S, _, hE, hS, hm, fun v H1 ⟨x, S1, t1, r1, s1, q1⟩ => ?_⟩
    dsimp only at q1
    split at q1
    · rename_i e1
      refine ⟨true, tru_of s1 r1 e1, ?_⟩
      rw [if_pos rfl]
      exact ⟨ρ, S1, R, hE.mono t1, s1, q1, fun v H' q => q.base t1⟩
    · rename_i e1
      refine ⟨false, tru_of s1 r1 e1, ?_⟩
      rw [if_neg Bool.false_ne_true]
      exact ⟨x, S1, t1, r1, s1, q1⟩
    · exact q1.elim
theorem ee_or (ha : EE X Z a ma) (hb : EE X Z (.BoolOp .Or (b :: rest) pos) mb) : EE X Z (.BoolOp .Or (a :: b :: rest) pos) (mOrV ma mb) :=
  ee_of (pe_orT ha.pe hb.pe) fun σ H ρ S R hE hS hm => by
    refine ⟨ρ, S, _, hE, hS, hm, fun v H1 ⟨x, S1, t1, r1, s1, q1⟩ => ?_⟩
    dsimp only at q1
    split at q1
    · rename_i e1
      refine ⟨true, tru_of s1 r1 e1, ?_⟩
      rw [if_pos rfl]
      exact ⟨x, S1, t1, r1, s1, q1⟩
    · rename_i e1
      refine ⟨false, tru_of s1 r1 e1, ?_⟩
      rw [if_neg Bool.false_ne_true]
      exact ⟨ρ, S1, R, hE.mono t1, s1, q1, fun v H' q => q.base t1⟩
    · exact q1.elim
theorem ee_not (ha : EE X Z a ma) : EE X Z (.UnaryOp .Not a pos) (mNotV ma) :=
  ee_of (pe_notT ha.pe) fun σ H ρ S R hE hS hm => by
    refine ⟨ρ, S, _, hE, hS, hm, fun v H1 ⟨x, S1, t1, r1, s1, q1⟩ => ?_⟩
    dsimp only at q1
    split at q1
    · rename_i b e1
      exact ⟨b, tru_of s1 r1 e1, .bl (!b), S1, t1, by unfold RM; rfl, s1, q1⟩
    · exact q1.elim
/-- a test of and, or -/
structure EW (X : Cx) (Z : List Addr) (e : Expr) (m : MT) : Prop where
  pw : PW X e (tMT X.K Z m)
theorem EW.et (h : EW X Z e mt) : ET X Z e mt := ⟨fun σ H ρ S R hE hS hm pins s I => h.pw.run _ pins s σ H _ I ⟨ρ, S, R, hE, hS, hm, fun v H' q => q⟩⟩
theorem PW.imp {t t' : TT} (h : PW X e t) (k : ∀ σ H Q, t' σ H Q → t σ H Q) : PW X e t' := ⟨fun wh pins s σ H Q I hw => h.run wh pins s σ H Q I (k σ H Q hw)⟩
theorem ew_and1 (ha : ET X Z a mt) : EW X Z (.BoolOp .And [a] pos) mt := ⟨pw_and1 ha.pt⟩
theorem ew_or1 (ha : ET X Z a mt) : EW X Z (.BoolOp .Or [a] pos) mt := ⟨pw_or1 ha.pt⟩
theorem ew_and (ha : ET X Z a mt) (hb : EW X Z (.BoolOp .And (b :: rest) pos) mu) : EW X Z (.BoolOp .And (a :: b :: rest) pos) (mAnd mt mu) :=
  ⟨PW.imp (pw_and ha.pt hb.pw) fun σ H Q ⟨ρ, S, R, hE, hS, hm, hQ⟩ => by
    refine ⟨ρ, S, _, hE, hS, hm, fun k H1 ⟨S1, t1, s1, q1⟩ => ?_⟩
    cases k with
    | true => rw [if_pos rfl]; exact ⟨ρ, S1, R, hE.mono t1, s1, q1, fun v H' q => hQ _ _ (q.base t1)⟩
    | false => rw [if_neg Bool.false_ne_true]; exact hQ _ _ ⟨S1, t1, s1, q1⟩⟩
theorem ew_or (ha : ET X Z a mt) (hb : EW X Z (.BoolOp .Or (b :: rest) pos) mu) : EW X Z (.BoolOp .Or (a :: b :: rest) pos) (mOr mt mu) :=
  ⟨PW.imp (pw_or ha.pt hb.pw) fun σ H Q ⟨ρ, S, R, hE, hS, hm, hQ⟩ => by
    refine ⟨ρ, S, _, hE, hS, hm, fun k H1 ⟨S1, t1, s1, q1⟩ => ?_⟩
    cases k with
    | true => rw [if_pos rfl]; exact hQ _ _ ⟨S1, t1, s1, q1⟩
    | false => rw [if_neg Bool.false_ne_true]; exact ⟨ρ, S1, R, hE.mono t1, s1, q1, fun v H' q => hQ _ _ (q.base t1)⟩⟩
theorem et_not (ha : ET X Z a mt) : ET X Z (.UnaryOp .Not a pos) (mNot mt) :=
  et_of (pt_not ha.pt) fun σ H ρ S R hE hS hm => ⟨ρ, S, _, hE, hS, hm, fun k H1 ⟨S1, t1, s1, q1⟩ => ⟨S1, t1, s1, q1⟩⟩
theorem ee_if (hc : ET X Z c mt) (ha : EE X Z a ma) (hb : EE X Z b mb) : EE X Z (.IfExp c a b pos) (mIf mt ma mb) :=
  ee_of (pe_ifExp hc.pt ha.pe hb.pe) fun σ H ρ S R hE hS hm => by
    refine ⟨ρ, S, _, hE, hS, hm, fun k H1 ⟨S1, t1, s1, q1⟩ => ?_⟩
    cases k with
    | true => rw [if_pos rfl]; exact ⟨ρ, S1, R, hE.mono t1, s1, q1, fun v H' q => q.base t1⟩
    | false => rw [if_neg Bool.false_ne_true]; exact ⟨ρ, S1, R, hE.mono t1, s1, q1, fun v H' q => q.base t1⟩
theorem ee_neg (ha : EE X Z a ma) : EE X Z (.UnaryOp .USub a pos) (mUn negV ma) :=
  ee_of (pe_un un_neg ha.pe) fun σ H ρ S R hE hS hm => by
    refine ⟨ρ, S, _, hE, hS, hm, fun v H1 ⟨x, S1, t1, r1, s1, q1⟩ => ?_⟩
    unfold negV at q1
    dsimp only at q1
    split at q1
    · unfold RM at r1; exact ⟨_, r1, .int _, S1, t1, by unfold RM; rfl, s1, q1⟩
    · exact q1.elim
theorem ee_chain {op op' : CmpOp} {f g : M2} (ho : OpR X (compareOp op) (rM X.K Z f)) (ho' : OpR X (compareOp op') (rM X.K Z g)) (ha : EE X Z a ma) (hb : EE X Z b mb) (hc : EE X Z c mc)
    (hm : lastMarks [op, op'] [b, c] = false := by kernel_rfl) : EE X Z (.Compare a [op, op'] [b, c] pos) (mChain f g ma mb mc) :=
  ee_of (pe_chain ho ho' ha.pe hb.pe hc.pe hm) fun σ H ρ S R hE hS hm => by
    refine ⟨ρ, S, _, hE, hS, hm, fun v H1 ⟨x, S1, t1, r1, s1, q1⟩ => ?_⟩
    refine ⟨ρ, S1, _, hE.mono t1, s1, q1, fun u H2 ⟨y, S2, t2, r2, s2, q2⟩ => ?_⟩
    refine ⟨x, y, S2, _, r1.mono t2, r2, s2, q2, fun z H3 q3 => ?_⟩
    obtain ⟨k, e, S3, t3, s3, q5⟩ := asB_out q3
    subst e
    refine ⟨k, rfl, ?_⟩
    cases k with
    | true =>
      rw [if_pos rfl]
      exact ⟨ρ, S3, _, hE.mono (t1.trans (t2.trans t3)), s3, q5, fun w' H4 ⟨z, S4, t4, r4, s4, q4⟩ => ⟨y, z, S4, R, r2.mono (t3.trans t4), r4, s4, q4, fun v H' q => q.base (t1.trans (t2.trans (t3.trans t4)))⟩⟩
    | false =>
      rw [if_neg Bool.false_ne_true]
      exact ⟨.bl false, S3, t1.trans (t2.trans t3), by unfold RM; rfl, s3, q5⟩
theorem et_chain {op op' : CmpOp} {f g : M2} (ho : OpR X (compareOp op) (rM X.K Z f)) (ho' : OpR X (compareOp op') (rM X.K Z g)) (ha : EE X Z a ma) (hb : EE X Z b mb) (hc : EE X Z c mc)
    (hm : lastMarks [op, op'] [b, c] = false := by kernel_rfl) : ET X Z (.Compare a [op, op'] [b, c] pos) (mTst (mChain f g ma mb mc)) :=
  et_of (pt_chain ho ho' ha.pe hb.pe hc.pe hm) fun σ H ρ S R hE hS hm => by
    refine ⟨ρ, S, _, hE, hS, hm, fun v H1 ⟨x, S1, t1, r1, s1, q1⟩ => ?_⟩
    refine ⟨ρ, S1, _, hE.mono t1, s1, q1, fun u H2 ⟨y, S2, t2, r2, s2, q2⟩ => ?_⟩
    refine ⟨x, y, S2, _, r1.mono t2, r2, s2, q2, fun z H3 q3 => ?_⟩
    obtain ⟨k, e, S3, t3, s3, q5⟩ := asB_out q3
    subst e
    refine ⟨k, rfl, ?_⟩
    cases k with
    | true =>
      rw [if_pos rfl]
      exact ⟨ρ, S3, _, hE.mono (t1.trans (t2.trans t3)), s3, q5, fun w' H4 ⟨z, S4, t4, r4, s4, q4⟩ => ⟨y, z, S4, _, r2.mono (t3.trans t4), r4, s4, q4, fun v H' q => asB_out (q.base (t1.trans (t2.trans (t3.trans t4))))⟩⟩
    | false =>
      rw [if_neg Bool.false_ne_true]
      exact ⟨false, rfl, S3, t1.trans (t2.trans t3), s3, q5⟩
/-! ### arguments, displays -/
def maNil : MA := fun _ S R => R [] S
def maCons (m : ME) (r : MA) : MA := fun ρ S R => m ρ S fun x S1 => r ρ S1 fun xs S2 => R (x :: xs) S2
variable {es : List Expr} {mas : MA}
theorem ea_nil : EA X Z [] maNil := ⟨PA.imp pa_nil fun σ H Q ⟨ρ, S, R, hE, hS, hm, hQ⟩ => hQ _ _ ⟨[], S, GK.refl, RMs.nil, hS, hm⟩⟩
theorem ea_cons (ha : EE X Z e m) (hr : EA X Z es mas) (hs : starEach (e :: es) X.env = (false, eval e X.env) :: starEach es X.env := by kernel_rfl) : EA X Z (e :: es) (maCons m mas) :=
  ⟨PA.imp (pa_cons ha.pe hr.pa hs) fun σ H Q ⟨ρ, S, R, hE, hS, hm, hQ⟩ => by
    refine ⟨ρ, S, _, hE, hS, hm, fun v H1 ⟨x, S1, t1, r1, s1, q1⟩ => ?_⟩
    refine ⟨ρ, S1, _, hE.mono t1, s1, q1, fun vs H2 ⟨xs, S2, t2, r2, s2, q2⟩ => ?_⟩
    exact hQ _ _ ⟨x :: xs, S2, t1.trans t2, RMs.cons (r1.mono t2) r2, s2, q2⟩⟩
def mTup (ms : MA) : ME := fun ρ S R => ms ρ S fun l S1 => l.length ≤ sizeLine ∧ R (.tup l) S1
def mLst (ms : MA) : ME := fun ρ S R => ms ρ S fun l S1 => l.length ≤ sizeLine ∧ newL l S1 R
theorem ee_tup {x1} (h : EA X Z es mas) : EE X Z (.Tuple es x1 pos) (mTup mas) :=
  ee_of (pe_tup h.pa) fun σ H ρ S R hE hS hm => by
    refine ⟨ρ, S, _, hE, hS, hm, fun vs H1 ⟨l, S1, t1, r1, s1, q1⟩ => ⟨by rw [r1.length]; exact q1.1, fun p hp => ?_⟩⟩
    exact mq_tup (fun v H' q => q.base t1) s1 r1 hp q1.2
theorem ee_lst (h : EA X Z es mas) : EE X Z (.List es pos) (mLst mas) :=
  ee_of (pe_lst h.pa) fun σ H ρ S R hE hS hm => by
    refine ⟨ρ, S, _, hE, hS, hm, fun vs H1 ⟨l, S1, t1, r1, s1, q1⟩ => ⟨by rw [r1.length]; exact q1.1, fun p hp => ?_⟩⟩
    exact mq_lst (fun v H' q => q.base t1) s1 r1 hp q1.2
/-! ### attributes -/
def mFld (T : String → String → Bool) (ma : ME) (f : String) : ME := fun ρ S R => ma ρ S fun x S1 => match x with
  | .ref a => (match S1 a with
    | some (.ins c fs) => T c f = true ∧ (match fs.lookup f with
      | some v => R v S1
      | none => False)
    | _ => False)
  | _ => False
/-- the classes' attributes -/
def AtOk (K : PySem.W.Frag) (T : String → String → Bool) : Prop := ∀ c f, T c f = true → Cls K (He.ga K (so c)) ∧ NoAttr K (He.ga K (so c)) (so f)
theorem lookup_rel {K : PySem.W.Frag} {H : Hp} {f : String} {m : MV} : ∀ {fs : List (String × MV)} {xs : List (Str × V)}, xs.map (·.1) = fs.map (fun p => so p.1) → RMs K H (fs.map (·.2)) (xs.map (·.2)) → fs.lookup f = some m → ∃ x, xs.lookup (so f) = some x ∧ RM K H m x
  | [], _, _, _, h => by cases h
  | (g, n) :: fs, [], e, _, _ => by simp at e
  | (g, n) :: fs, (y, x) :: xs, e, r, h => by
    simp only [List.map_cons, List.cons.injEq] at e
    simp only [List.map_cons] at r
    unfold RMs at r
    obtain ⟨x', r', ex, h1, h2⟩ := r
    injection ex with ex1 ex2
    subst ex1; subst ex2
    rw [List.lookup_cons] at h ⊢
    rw [e.1, so_beq]
    cases hb : f == g with
    | true => rw [hb] at h; cases h; exact ⟨x, rfl, h1⟩
    | false => rw [hb] at h; exact lookup_rel e.2 h2 h
theorem lookup_none {f : String} : ∀ {fs : List (String × MV)} {xs : List (Str × V)}, xs.map (·.1) = fs.map (fun p => so p.1) → fs.lookup f = none → xs.lookup (so f) = none
  | [], xs, e, _ => by cases xs with
    | nil => rfl
    | cons a b => simp at e
  | (g, n) :: fs, [], e, _ => by simp at e
  | (g, n) :: fs, (y, x) :: xs, e, h => by
    simp only [List.map_cons, List.cons.injEq] at e
    rw [List.lookup_cons] at h ⊢
    rw [e.1, so_beq]
    cases hb : f == g with
    | true => rw [hb] at h; cases h
    | false => rw [hb] at h; exact lookup_none e.2 h
theorem RS.ins {K : PySem.W.Frag} {S : Sto} {H : Hp} {a : Addr} {c : String} {fs : List (String × MV)} (r : RS K Z S H) (e : S a = some (.ins c fs)) :
    ∃ (dx : Addr) (xs : List (Str × V)), H a = some (.ins (He.ga K (so c)) dx xs) ∧ xs.map (·.1) = fs.map (fun p => so p.1) ∧ RMs K H (fs.map (·.2)) (xs.map (·.2)) := r.ob a _ e
theorem ee_fld {f : String} {T : String → String → Bool} (hT : AtOk X.K T) (he : EE X Z e m) (hb : attributeBase e (Str.ofString f) X.env (eval e X.env) = eval e X.env := by kernel_rfl) : EE X Z (.Attribute e (Str.ofString f) pos) (mFld T m f) :=
  ee_of (pe_fld he.pe hb) fun σ H ρ S R hE hS hm => by
    refine ⟨ρ, S, _, hE, hS, hm, fun v H1 ⟨x, S1, t1, r1, s1, q1⟩ => ?_⟩
    dsimp only at q1
    split at q1
    · rename_i a
      split at q1
      · rename_i c fs e1
        obtain ⟨hc, q1⟩ := q1
        split at q1
        · rename_i m' e2
          obtain ⟨dx, xs, h1, h2, h3⟩ := s1.ins e1
          obtain ⟨y, e3, r3⟩ := lookup_rel h2 h3 e2
          unfold RM at r1
          exact ⟨a, _, dx, xs, y, r1, h1, (hT _ _ hc).1, (hT _ _ hc).2, e3, m', S1, t1, r3, s1, q1⟩
        · exact q1.elim
      · exact q1.elim
    · exact q1.elim
end
end Mv

set_option Elab.async false
set_option linter.all false
set_option maxRecDepth 100000
set_option maxHeartbeats 4000000
namespace Mv
open PySem PySem.Spec PyProof.Rows L2
/-! ### dicts with text keys -/
def putD (kvs : List (String × MV)) (k : String) (v : MV) : List (String × MV) :=
  if (kvs.any fun kv => kv.1 == k) = true then kvs.map (fun kv => if kv.1 = k then (kv.1, v) else kv) else kvs ++ [(k, v)]
def mergeD (kvs more : List (String × MV)) : List (String × MV) := more.foldl (fun acc kv => putD acc kv.1 kv.2) kvs
/-- two lists of pairs -/
structure RK (K : PySem.W.Frag) (H : Hp) (kvs : List (String × MV)) (ks : List (Key × V)) : Prop where
  keys : ks.map (·.1) = kvs.map (fun p => (Sum.inr (so p.1) : Key))
  vals : RMs K H (kvs.map (·.2)) (ks.map (·.2))
theorem inr_eq (s t : String) : ((Sum.inr (so s) : Key) = Sum.inr (so t)) ↔ s = t := ⟨fun h => so_inj (Sum.inr.inj h), fun h => by rw [h]⟩
theorem RK.nil {K : PySem.W.Frag} {H : Hp} : RK K H [] [] := ⟨rfl, RMs.nil⟩
theorem RK.cons_iff {K : PySem.W.Frag} {H : Hp} {k : String} {m : MV} {kvs : List (String × MV)} {q : Key} {x : V} {ks : List (Key × V)} : RK K H ((k, m) :: kvs) ((q, x) :: ks) ↔ q = Sum.inr (so k) ∧ RM K H m x ∧ RK K H kvs ks := by
  constructor
  · rintro ⟨h1, h2⟩
    simp only [List.map_cons, List.cons.injEq] at h1
    simp only [List.map_cons] at h2
    unfold RMs at h2
    obtain ⟨x', r, e, a, b⟩ := h2
    injection e with e1 e2
    subst e1; subst e2
    exact ⟨h1.1, a, h1.2, b⟩
  · rintro ⟨e, a, b⟩
    refine ⟨?_, ?_⟩
    · simp only [List.map_cons, e, b.keys]
    · simp only [List.map_cons]
      exact RMs.cons a b.vals
theorem RK.length {K : PySem.W.Frag} {H : Hp} {kvs : List (String × MV)} {ks : List (Key × V)} (r : RK K H kvs ks) : ks.length = kvs.length := by
  have := congrArg List.length r.keys; simpa using this
theorem RK.get {K : PySem.W.Frag} {H : Hp} {s : String} {m : MV} : ∀ {kvs : List (String × MV)} {ks : List (Key × V)}, RK K H kvs ks → kvs.lookup s = some m → ∃ x, valV ks (Sum.inr (so s) : Key) = some x ∧ RM K H m x
  | [], _, _, h => by cases h
  | (k, n) :: kvs, [], r, _ => by have := r.length; simp at this
  | (k, n) :: kvs, (q, x) :: ks, r, h => by
    obtain ⟨e, a, b⟩ := RK.cons_iff.mp r
    subst e
    rw [List.lookup_cons] at h
    by_cases hk : s = k
    · subst hk
      simp at h; subst h
      exact ⟨x, valV_pos rfl, a⟩
    · have hb : (s == k) = false := beq_eq_false_iff_ne.mpr hk
      rw [hb] at h
      obtain ⟨y, e1, e2⟩ := RK.get b h
      exact ⟨y, by rw [valV_neg (fun e => hk ((inr_eq _ _).mp e).symm)]; exact e1, e2⟩
theorem RK.any {K : PySem.W.Frag} {H : Hp} {s : String} : ∀ {kvs : List (String × MV)} {ks : List (Key × V)}, RK K H kvs ks → (ks.any fun kv => decide (kv.1 = (Sum.inr (so s) : Key))) = kvs.any fun kv => kv.1 == s
  | [], [], _ => rfl
  | [], _ :: _, r => by have := r.length; simp at this
  | _ :: _, [], r => by have := r.length; simp at this
  | (k, n) :: kvs, (q, x) :: ks, r => by
    obtain ⟨e, a, b⟩ := RK.cons_iff.mp r
    subst e
    rw [List.any_cons, List.any_cons, RK.any b]
    congr 1
    by_cases hk : k = s
    · subst hk; simp
    · rw [decide_eq_false (fun e => hk ((inr_eq _ _).mp e)), beq_eq_false_iff_ne.mpr hk]
theorem RK.repl {K : PySem.W.Frag} {H : Hp} {s : String} {m : MV} {v : V} (rv : RM K H m v) : ∀ {kvs : List (String × MV)} {ks : List (Key × V)}, RK K H kvs ks →
    RK K H (kvs.map (fun kv => if kv.1 = s then (kv.1, m) else kv)) (ks.map (fun kv => if kv.1 = (Sum.inr (so s) : Key) then (kv.1, v) else kv))
  | [], [], _ => .nil
  | [], _ :: _, r => by have := r.length; simp at this
  | _ :: _, [], r => by have := r.length; simp at this
  | (k, n) :: kvs, (q, x) :: ks, r => by
    obtain ⟨e, a, b⟩ := RK.cons_iff.mp r
    subst e
    have ih := RK.repl (s := s) rv b
    simp only [List.map_cons]
    by_cases hk : k = s
    · subst hk
      simp only [if_true]
      exact RK.cons_iff.mpr ⟨rfl, rv, ih⟩
    · rw [if_neg hk, if_neg (fun e => hk ((inr_eq _ _).mp e))]
      exact RK.cons_iff.mpr ⟨rfl, a, ih⟩
theorem RK.snoc {K : PySem.W.Frag} {H : Hp} {s : String} {m : MV} {v : V} (rv : RM K H m v) {kvs : List (String × MV)} {ks : List (Key × V)} (r : RK K H kvs ks) : RK K H (kvs ++ [(s, m)]) (ks ++ [((Sum.inr (so s) : Key), v)]) :=
  ⟨by simp [r.keys], by simpa using r.vals.append (RMs.cons rv RMs.nil)⟩
theorem RK.put {K : PySem.W.Frag} {H : Hp} {s : String} {m : MV} {v : V} (rv : RM K H m v) {kvs : List (String × MV)} {ks : List (Key × V)} (r : RK K H kvs ks) : RK K H (putD kvs s m) (putK ks (Sum.inr (so s) : Key) v) := by
  unfold putD putK
  rw [r.any]
  split
  · exact r.repl rv
  · exact r.snoc rv
theorem RK.merge {K : PySem.W.Frag} {H : Hp} : ∀ {more : List (String × MV)} {ms : List (Key × V)} {kvs : List (String × MV)} {ks : List (Key × V)}, RK K H more ms → RK K H kvs ks → RK K H (mergeD kvs more) (mergeK ks ms)
  | [], [], _, _, _, r => r
  | [], _ :: _, _, _, r, _ => by have := r.length; simp at this
  | _ :: _, [], _, _, r, _ => by have := r.length; simp at this
  | (k, n) :: more, (q, x) :: ms, kvs, ks, r, r2 => by
    obtain ⟨e, a, b⟩ := RK.cons_iff.mp r
    subst e
    show RK K H (mergeD (putD kvs k n) more) (mergeK (putK ks (Sum.inr (so k)) x) ms)
    exact RK.merge b (r2.put a)
theorem RS.dct {K : PySem.W.Frag} {Z : List Addr} {S : Sto} {H : Hp} {a : Addr} {kvs : List (String × MV)} (r : RS K Z S H) (e : S a = some (.dct kvs)) : ∃ ks, H a = some (.dK ks) ∧ RK K H kvs ks := by
  obtain ⟨ks, h1, h2, h3⟩ := r.ob a _ e
  exact ⟨ks, h1, h2, h3⟩
theorem RK.mono {K : PySem.W.Frag} {S S' : Sto} {H H' : Hp} {kvs : List (String × MV)} {ks : List (Key × V)} (r : RK K H kvs ks) (g : GK K S H S' H') : RK K H' kvs ks := ⟨r.keys, r.vals.mono g⟩
def dgetV : M2 := fun x y S R => match y with
  | .str s => (match x with
    | .ref a => (match S a with
      | some (.dct kvs) => (match kvs.lookup s with
        | some v => R v S
        | none => False)
      | _ => False)
    | _ => False)
  | _ => False
section
variable {X : Cx} {Z : List Addr} {e a b c o i value : Expr} {m ma mb mc : ME} {mt mu : MT} {pos pos' : Pos} {rest : List Expr}
theorem ee_dget (hu : X.A.units + 1 < cLine) (ho : EE X Z o ma) (hi : EE X Z i mb) (hs : NoSl i) : EE X Z (.Subscript o i pos) (mOp dgetV ma mb) :=
  ee_of (pe_dget hu ho.pe hi.pe hs) fun σ H ρ S R hE hS hm => by
    refine ⟨ρ, S, _, hE, hS, hm, fun v H1 ⟨x, S1, t1, r1, s1, q1⟩ => ?_⟩
    refine ⟨ρ, S1, _, hE.mono t1, s1, q1, fun u H2 ⟨y, S2, t2, r2, s2, q2⟩ => ?_⟩
    cases y with
    | str s =>
      cases x with
      | ref d =>
        have q2 : (match S2 d with
          | some (.dct kvs) => (match kvs.lookup s with
            | some v => R v S2
            | none => False)
          | _ => False) := q2
        split at q2
        · rename_i kvs e1
          split at q2
          · rename_i w e2
            obtain ⟨ks, h1, h2⟩ := s2.dct e1
            obtain ⟨z, e3, r3⟩ := h2.get e2
            have r1' := r1.mono t2
            unfold RM at r1' r2
            refine ⟨d, z, r1', ?_, w, S2, t1.trans t2, r3, s2, q2⟩
            rw [r2, ← e3]
            exact DGet.k (k := Sum.inr (so s)) h1
          · exact q2.elim
        · exact q2.elim
      | _ => exact False.elim q2
    | _ => exact False.elim q2
def newD (kvs : List (String × MV)) (S : Sto) (R : MK) : Prop := ∀ p, S p = none → R (.ref p) (supd S p (.dct kvs))
theorem mq_dct {K : PySem.W.Frag} {S : Sto} {H : Hp} {R : MK} {Q : VK} (hQ : ∀ v H', MQ K Z S H R v H' → Q v H') {kvs : List (String × MV)} {ks : List (Key × V)} {p : Addr} (s : RS K Z S H) (r : RK K H kvs ks) (hp : H p = none) (h : newD kvs S R) : Q (.ref p) (upd H p (.dK ks)) := by
  have g : GK K S H (supd S p (.dct kvs)) (upd H p (.dK ks)) := GK.new hp
  exact hQ _ _ ⟨.ref p, _, g, by unfold RM; rfl, s.put (TK.new hp) (fun ps e => by rw [hp] at e; cases e) ⟨ks, upd_same, r.keys, (r.mono g).vals⟩, h p (s.free hp)⟩
def mDictN : ME := fun _ S R => newD [] S R
theorem ee_dictN : EE X Z (.Dict [] [] pos) mDictN := ee_of pe_dnewK fun σ H ρ S R hE hS hm => fun p hp => mq_dct (fun v H' q => q) hS RK.nil hp hm
/-- the pairs of a display, their keys written texts -/
structure ED (X : Cx) (Z : List Addr) (pos : Pos) (keys : List (Option Expr)) (values : List Expr) (ks : List String) (m : MA) : Prop where
  ex : ∃ trs, PPs X pos keys values trs ∧ ∀ σ H ρ S R Q, RE X.K H ρ σ → RS X.K Z S H → m ρ S R →
    (∀ ps H', (∃ (kvs : List (Key × V)) (ms : List MV) (S' : Sto), GK X.K S H S' H' ∧ ps = kvs.map (fun kv => (kV kv.1, kv.2)) ∧ ms.length = ks.length ∧ RK X.K H' (ks.zip ms) kvs ∧ RS X.K Z S' H' ∧ R ms S') → Q ps H') → tPairs trs σ H Q
theorem ed_nil : ED X Z pos [] [] [] maNil := ⟨[], pps_nil, fun σ H ρ S R Q hE hS hm hQ => hQ _ _ ⟨[], [], S, GK.refl, rfl, rfl, RK.nil, hS, hm⟩⟩
theorem ed_cons {s : String} {j p1} {v : Expr} {keys : List (Option Expr)} {values : List Expr} {ks : List String} {mr : MA} (hv : EE X Z v m) (h : ED X Z pos keys values ks mr) : ED X Z pos (some (.Constant (.str (Str.ofString s)) j p1) :: keys) (v :: values) (s :: ks) (maCons m mr) := by
  obtain ⟨trs, h1, h2⟩ := h.ex
  refine ⟨_, pps_cons pe_str hv.pe h1, fun σ H ρ S R Q hE hS hm hQ => ?_⟩
  show tM X.K Z m σ H _
  refine ⟨ρ, S, _, hE, hS, hm, fun u H1 ⟨x, S1, t1, r1, s1, q1⟩ => ?_⟩
  refine h2 σ H1 ρ S1 _ _ (hE.mono t1) s1 q1 fun ps H2 ⟨kvs, ms, S2, t2, e, hl, r2, s2, q2⟩ => ?_
  refine hQ _ _ ⟨((Sum.inr (so s) : Key), u) :: kvs, x :: ms, S2, t1.trans t2, by rw [e]; rfl, by rw [List.length_cons, List.length_cons, hl], ?_, s2, q2⟩
  rw [List.zip_cons_cons]
  exact RK.cons_iff.mpr ⟨rfl, r1.mono t2, r2⟩
/-- something hidden is laid first, shown at the end -/
theorem GK.late {K : PySem.W.Frag} {S S' : Sto} {H H' : Hp} {p : Addr} {o o' : HO} {m : MO} (hp : H p = none) (t : GK K S (upd H p o) S' H') (tk : TK K H' (upd H' p o')) : GK K S H (supd S' p m) (upd H' p o') :=
  ⟨(TK.new hp).trans (t.tk.trans tk), fun a u n e nt => by
    have hne : a ≠ p := ne_of_none e hp
    obtain ⟨e1, n1⟩ := t.fr a u n (by rw [upd_ne hne]; exact e) nt
    exact ⟨by rw [upd_ne hne]; exact e1, by rw [supd_ne hne]; exact n1⟩⟩
def mDisp (ks : List String) (ms : MA) : ME := fun ρ S R => ms ρ S fun vs S1 => newD (mergeD [] (ks.zip vs)) S1 R
theorem ee_disp {keys : List (Option Expr)} {values : List Expr} {ks : List String} {mas : MA} (h : ED X Z pos keys values ks mas) (hk : ks.length ≤ 15 := by decide) (hall : keys.all (·.isSome) = true := by kernel_rfl) (hl : keys.length = values.length := by kernel_rfl) (h0 : keys ≠ [] := by intro z; cases z)
    (hk2 : keys.length ≤ 15 := by decide) : EE X Z (.Dict keys values pos) (mDisp ks mas) := by
  obtain ⟨trs, h1, h2⟩ := h.ex
  refine ee_of (pe_disp h1 hall hl h0 hk2) fun σ H ρ S R hE hS hm => fun p hp => ?_
  have g0 : GK X.K S H S (upd H p (.dK [])) := GK.hid hp
  refine h2 σ _ ρ S _ _ (hE.mono g0) (hS.hid hp) hm fun ps H' ⟨kvs, ms, S', t, e, hlen, r, s, q⟩ => ?_
  obtain ⟨k1, k2⟩ := t.fr p (.dK []) (hS.free hp) upd_same (fun ps e => by cases e)
  refine ⟨k1, kvs, e, ?_, ?_⟩
  · rw [r.length, List.length_zip, hlen, Nat.min_self]; exact hk
  · have r2 : RK X.K H' (mergeD [] (ks.zip ms)) (mergeK [] kvs) := RK.merge r RK.nil
    have g1 : GK X.K S H (supd S' p (.dct (mergeD [] (ks.zip ms)))) (upd H' p (.dK (mergeK [] kvs))) := GK.late hp t (TK.dK k1)
    exact ⟨.ref p, _, g1, by unfold RM; rfl, s.put (TK.dK k1) (fun ps e => by rw [k1] at e; cases e) ⟨_, upd_same, r2.keys, RMs.monoT (TK.dK k1) _ r2.vals⟩, q p k2⟩
/-! ### slices -/
def mPart := Env → Sto → (Option Int → Sto → Prop) → Prop
def pNo : mPart := fun _ S R => R none S
def pYes (m : ME) : mPart := fun ρ S R => m ρ S fun x S1 => match x with
  | .int i => R (some i) S1
  | _ => False
structure EO (X : Cx) (Z : List Addr) (e : Option Expr) (m : mPart) : Prop where
  po : ∃ t : TO, PO X e t ∧ ∀ σ H ρ S R Q, RE X.K H ρ σ → RS X.K Z S H → m ρ S R → (∀ o H', (∃ S', GK X.K S H S' H' ∧ RS X.K Z S' H' ∧ R o S') → Q o H') → t σ H Q
theorem eo_no : EO X Z none pNo := ⟨_, po_none, fun σ H ρ S R Q hE hS hm hQ => hQ _ _ ⟨S, GK.refl, hS, hm⟩⟩
theorem eo_yes (h : EE X Z e m) : EO X Z (some e) (pYes m) := ⟨_, po_some h.pe, fun σ H ρ S R Q hE hS hm hQ => by
  refine ⟨ρ, S, _, hE, hS, hm, fun v H1 ⟨x, S1, t1, r1, s1, q1⟩ => ?_⟩
  cases x with
  | int i => unfold RM at r1; exact ⟨i, r1, hQ _ _ ⟨S1, t1, s1, q1⟩⟩
  | _ => exact False.elim q1⟩
def cutM (l : List MV) (lo hi : Option Int) : List MV := (l.drop (HT.sIx l.length 0 lo)).take (HT.sIx l.length l.length hi - HT.sIx l.length 0 lo)
theorem cut_rel {K : PySem.W.Frag} {H : Hp} {l : List MV} {xs : List V} (r : RMs K H l xs) (lo hi : Option Int) : RMs K H (cutM l lo hi) (cutV xs lo hi) := by
  unfold cutM cutV
  rw [r.length]
  exact (r.drop _).take _
def slV (x : MV) (lo hi : Option Int) (S : Sto) (R : MK) : Prop := match x with
  | .tup l => R (.tup (cutM l lo hi)) S
  | .ref a => (match lookL S a with
    | some l => newL (cutM l lo hi) S R
    | none => False)
  | .frz l => newL (cutM l lo hi) S R
  | _ => False
def mSl (ma : ME) (lo hi : mPart) : ME := fun ρ S R => ma ρ S fun x S1 => lo ρ S1 fun l S2 => hi ρ S2 fun u S3 => slV x l u S3 R
theorem ee_slice {lo hi : Option Expr} {ml mh : mPart} {p2 : Pos} (he : EE X Z e m) (hl : EO X Z lo ml) (hh : EO X Z hi mh) : EE X Z (.Subscript e (.Slice lo hi none p2) pos) (mSl m ml mh) := by
  obtain ⟨tl, l1, l2⟩ := hl.po
  obtain ⟨th, h1, h2⟩ := hh.po
  refine ee_of (pe_slice (sl_tupA.or sl_list) he.pe l1 h1) fun σ H ρ S R hE hS hm => ?_
  refine ⟨ρ, S, _, hE, hS, hm, fun v H1 ⟨x, S1, t1, r1, s1, q1⟩ => ?_⟩
  refine l2 σ H1 ρ S1 _ _ (hE.mono t1) s1 q1 fun o H2 ⟨S2, t2, s2, q2⟩ => ?_
  refine h2 σ H2 ρ S2 _ _ (hE.mono (t1.trans t2)) s2 q2 fun o2 H3 ⟨S3, t3, s3, q3⟩ => ?_
  have r3 := r1.mono (t2.trans t3)
  have hQ : ∀ v H', MQ X.K Z S3 H3 R v H' → MQ X.K Z S H R v H' := fun v H' q => q.base (t1.trans (t2.trans t3))
  cases x with
  | tup l =>
    have r3' := r3
    unfold RM at r3
    obtain ⟨a, xs, e1, sq, rs⟩ := r3
    refine .inl ⟨a, xs, e1, sq, fun hw => ?_, fun hw p hp => ?_⟩
    · have ec : cutM l o o2 = l := by
        unfold cutM
        rw [← rs.length, hw.1, hw.2]
        rw [rs.length, List.drop_zero, Nat.sub_zero, List.take_length]
      have q3 : R (.tup (cutM l o o2)) S3 := q3
      rw [ec] at q3
      rw [← e1]
      exact mq hQ r3' s3 q3
    · exact mq_tup hQ s3 (cut_rel rs o o2) hp q3
  | ref a =>
    unfold RM at r3
    have q3 : (match lookL S3 a with
      | some l => newL (cutM l o o2) S3 R
      | none => False) := q3
    split at q3
    · rename_i l el
      obtain ⟨xs, g1, g2⟩ := look_sq s3 el
      exact .inr ⟨a, xs, r3, g1, fun p hp => mq_lst hQ s3 (cut_rel g2 o o2) hp q3⟩
    · exact q3.elim
  | frz l =>
    unfold RM at r3
    obtain ⟨a, xs, e1, sq, rs⟩ := r3
    exact .inr ⟨a, xs, e1, sq.sq, fun p hp => mq_lst hQ s3 (cut_rel rs o o2) hp q3⟩
  | _ => exact False.elim q3
def mRev (ma : ME) : ME := fun ρ S R => ma ρ S fun x S1 => match x with
  | .ref a => (match lookL S1 a with
    | some l => newL l.reverse S1 R
    | none => False)
  | .frz l => newL l.reverse S1 R
  | _ => False
theorem ee_rev {k : Nat} {p1 p2 p3 : Pos} (he : EE X Z e m) : EE X Z (.Subscript e (.Slice none none (some (.UnaryOp .USub (.Constant (.int 1) k p1) p2)) p3) pos) (mRev m) :=
  ee_of (pe_revL he.pe) fun σ H ρ S R hE hS hm => by
    refine ⟨ρ, S, _, hE, hS, hm, fun v H1 ⟨x, S1, t1, r1, s1, q1⟩ => ?_⟩
    cases x with
    | ref a =>
      unfold RM at r1
      dsimp only at q1
      split at q1
      · rename_i l el
        obtain ⟨xs, g1, g2⟩ := look_sq s1 el
        exact ⟨a, xs, r1, g1, fun p hp => mq_lst (fun v H' q => q.base t1) s1 g2.reverse hp q1⟩
      · exact q1.elim
    | frz l =>
      unfold RM at r1
      obtain ⟨a, xs, e1, sq, rs⟩ := r1
      exact ⟨a, xs, e1, sq.sq, fun p hp => mq_lst (fun v H' q => q.base t1) s1 rs.reverse hp q1⟩
    | _ => exact False.elim q1
/-! ### calls of defs -/
abbrev MW := List MV → Sto → MK → Prop
/-- the promise that is the def's own reading -/
def spM (K : PySem.W.Frag) (Z : List Addr) (n : Nat) (W : MW) : Sp := fun vs H Q _ => vs.length = n ∧ ∃ ms S R, RMs K H ms vs ∧ RS K Z S H ∧ W ms S R ∧ ∀ v H', MQ K Z S H R v H' → Q v H'
/-- a def that keeps its reading W -/
structure Cal (P : Program) (w : World) (K : PySem.W.Frag) (mg : Str → Option Value) (base : Heap) (Z : List Addr) (f : Addr) (ps : List Str) (k : Nat) (W : MW) : Prop where
  ex : ∃ fd : FuncData, FnOk P w K mg base CX0 k f fd ps (spM K Z ps.length W) ∧ PySem.W.keepIn K (.ref f) = true ∧ Binds K fd ps []
  len : ∀ ms S R, W ms S R → ms.length = ps.length
def mCall (W : MW) (ms : MA) : ME := fun ρ S R => ms ρ S fun vs S1 => W vs S1 R
section
variable {es : List Expr} {ps : List Str} {k k' : Nat} {W : MW} {mas : MA}
theorem sp_of {K : PySem.W.Frag} {S0 S : Sto} {H0 H : Hp} {n : Nat} {R : MK} {ms : List MV} {vs : List V} (hlen : ∀ ms S R, W ms S R → ms.length = n) (t : GK K S0 H0 S H) (r : RMs K H ms vs) (s : RS K Z S H) (q : W ms S R) : spM K Z n W vs H (MQ K Z S0 H0 R) E0 :=
  ⟨by rw [r.length]; exact hlen _ _ _ q, ms, S, R, r, s, q, fun v H' q => q.base t⟩
theorem ee_call {x : Str} {f : Addr} {p : Pos} (C : Cal X.prog X.w X.K X.mg X.base Z f ps k W) (hr : Room k' X.A) (hk : k ≤ k') (hg : Gl X x) (hm : X.mg x = some (.ref f)) (ha : EA X Z (e :: es) mas) (hdb : (x == ("__debug__" : Str)) = false := by kernel_rfl)
    (he : starEach (e :: es) X.env = (false, eval e X.env) :: starEach es X.env := by kernel_rfl) (hpl : (backTo pos (starEach es X.env)).any (·.1) = false := by kernel_rfl) : EE X Z (.Call (.Name x p) (e :: es) [] pos) (mCall W mas) := by
  obtain ⟨fd, F, kp, b⟩ := C.ex
  refine ee_of (pe_call F (hr.mono hk) hg hm kp b .nil pass0 ha.pa hdb he hpl) fun σ H ρ S R hE hS hm => ?_
  refine ⟨ρ, S, _, hE, hS, hm, fun vs H1 ⟨ms, S1, t1, r1, s1, q1⟩ => ?_⟩
  dsimp only
  rw [List.append_nil]
  exact sp_of C.len t1 r1 s1 q1
/-- o.m(..) of an own class -/
def mMeth (c m : String) (W : MW) (mo : ME) (ms : MA) : ME := fun ρ S R => mo ρ S fun x S1 => match x with
  | .ref a => (match S1 a with
    | some (.ins c' fs) => c' = c ∧ fs.lookup m = none ∧ ms ρ S1 fun vs S2 => W (.ref a :: vs) S2 R
    | _ => False)
  | _ => False
theorem ee_meth {c mt : String} {f : Addr} {apos : Pos} (C : Cal X.prog X.w X.K X.mg X.base Z f ps k W) (hr : Room k' X.A) (hk : k ≤ k') (cl : Cls X.K (He.ga X.K (so c))) (hmt : Meth X.K (He.ga X.K (so c)) (so mt) f) (ho : EE X Z o m) (ha : EA X Z (e :: es) mas)
    (hst : starEach (e :: es) X.env = (false, eval e X.env) :: starEach es X.env := by kernel_rfl) (hpl : (backTo pos (starEach es X.env)).any (·.1) = false := by kernel_rfl)
    (ht : eval (.Call (.Attribute o (Str.ofString mt) apos) (e :: es) [] pos) X.env = (do
      let ov ← eval o X.env
      standAt apos.atName
      let (f, first) ← holding [ov] (getMethod ov (Str.ofString mt) (do return (← importBound o X.env).getD true))
      callWith pos f first (backTo pos (starEach (e :: es) X.env)) (backToKw pos (keywordEach [] X.env))) := by kernel_rfl) : EE X Z (.Call (.Attribute o (Str.ofString mt) apos) (e :: es) [] pos) (mMeth c mt W m mas) := by
  obtain ⟨fd, F, kp, b⟩ := C.ex
  refine ee_of (pe_meth ho.pe cl hmt F (hr.mono hk) b .nil pass0 ha.pa hst hpl ht) fun σ H ρ S R hE hS hm => ?_
  refine ⟨ρ, S, _, hE, hS, hm, fun v H1 ⟨x, S1, t1, r1, s1, q1⟩ => ?_⟩
  cases x with
  | ref a =>
    unfold RM at r1
    dsimp only at q1
    split at q1
    · rename_i c' fs e1
      obtain ⟨ec, el, q1⟩ := q1
      subst ec
      obtain ⟨dx, xs, h1, h2, h3⟩ := s1.ins e1
      refine ⟨a, dx, xs, r1, h1, lookup_none h2 el, ρ, S1, _, hE.mono t1, s1, q1, fun vs H2 ⟨ms, S2, t2, r2, s2, q2⟩ => ?_⟩
      dsimp only
      rw [List.append_nil, r1]
      exact sp_of C.len (t1.trans t2) (RMs.cons (by unfold RM; rfl) r2) s2 q2
    · exact q1.elim
  | _ => exact False.elim q1
theorem ee_meth0 {c mt : String} {f : Addr} {apos : Pos} (C : Cal X.prog X.w X.K X.mg X.base Z f ps k W) (hr : Room k' X.A) (hk : k ≤ k') (cl : Cls X.K (He.ga X.K (so c))) (hmt : Meth X.K (He.ga X.K (so c)) (so mt) f) (ho : EE X Z o m)
    (ht : eval (.Call (.Attribute o (Str.ofString mt) apos) [] [] pos) X.env = (do
      let ov ← eval o X.env
      standAt apos.atName
      let (f, first) ← holding [ov] (getMethod ov (Str.ofString mt) (do return (← importBound o X.env).getD true))
      callWith pos f first (backTo pos (starEach [] X.env)) (backToKw pos (keywordEach [] X.env))) := by kernel_rfl) : EE X Z (.Call (.Attribute o (Str.ofString mt) apos) [] [] pos) (mMeth c mt W m maNil) := by
  obtain ⟨fd, F, kp, b⟩ := C.ex
  refine ee_of (pe_meth0 ho.pe cl hmt F (hr.mono hk) b .nil pass0 ht) fun σ H ρ S R hE hS hm => ?_
  refine ⟨ρ, S, _, hE, hS, hm, fun v H1 ⟨x, S1, t1, r1, s1, q1⟩ => ?_⟩
  cases x with
  | ref a =>
    unfold RM at r1
    dsimp only at q1
    split at q1
    · rename_i c' fs e1
      obtain ⟨ec, el, q1⟩ := q1
      subst ec
      obtain ⟨dx, xs, h1, h2, h3⟩ := s1.ins e1
      refine ⟨a, dx, xs, r1, h1, lookup_none h2 el, ?_⟩
      rw [r1]
      exact sp_of C.len t1 (RMs.cons (by unfold RM; rfl) RMs.nil) s1 q1
    · exact q1.elim
  | _ => exact False.elim q1
/-- C(..) of an own class -/
def mMake (c : String) (W : MW) (ms : MA) : ME := fun ρ S R => ms ρ S fun vs S1 => ∀ p, S1 p = none → W (.ref p :: vs) (supd S1 p (.ins c [])) fun v S2 => v = .non ∧ R (.ref p) S2
theorem make_st {K : PySem.W.Frag} {S : Sto} {H : Hp} {x dx : Addr} {c : String} (s : RS K Z S H) (hx : H x = none) (hdx : H dx = none) (hne : dx ≠ x) :
    GK K S H (supd S x (.ins c [])) (upd (upd H dx (.own x)) x (.ins (He.ga K (so c)) dx [])) ∧ RS K Z (supd S x (.ins c [])) (upd (upd H dx (.own x)) x (.ins (He.ga K (so c)) dx [])) := by
  have h1 : (upd H dx (.own x)) x = none := by rw [upd_ne hne.symm]; exact hx
  have g0 : GK K S H S (upd H dx (.own x)) := GK.hid hdx
  have g1 : GK K S (upd H dx (.own x)) (supd S x (.ins c [])) (upd (upd H dx (.own x)) x (.ins (He.ga K (so c)) dx [])) := GK.new h1
  refine ⟨g0.trans g1, (s.hid hdx).put (TK.new h1) (fun ps e => by rw [h1] at e; cases e) ⟨dx, [], upd_same, rfl, RMs.nil⟩⟩
theorem ee_make {x : Str} {c : String} {f : Addr} {p : Pos} (C : Cal X.prog X.w X.K X.mg X.base Z f ps k W) (M : Mk X.K (He.ga X.K (so c)) f) (hr : Room k' X.A) (hk : k + 1 ≤ k') (hg : Gl X x) (hm : X.mg x = some (.ref (He.ga X.K (so c)))) (ha : EA X Z (e :: es) mas)
    (hdb : (x == ("__debug__" : Str)) = false := by kernel_rfl) (he : starEach (e :: es) X.env = (false, eval e X.env) :: starEach es X.env := by kernel_rfl) (hpl : (backTo pos (starEach es X.env)).any (·.1) = false := by kernel_rfl) :
    EE X Z (.Call (.Name x p) (e :: es) [] pos) (mMake c W mas) := by
  obtain ⟨fd, F, kp, b⟩ := C.ex
  refine ee_of (pe_make M F (hr.mono hk) hg hm b .nil pass0 ha.pa hdb he hpl) fun σ H ρ S R hE hS hm => ?_
  refine ⟨ρ, S, _, hE, hS, hm, fun vs H1 ⟨ms, S1, t1, r1, s1, q1⟩ => fun y dx hy hdx hne => ?_⟩
  obtain ⟨g, s2⟩ := make_st (c := c) s1 hy hdx hne
  rw [List.append_nil]
  have q2 := q1 y (s1.free hy)
  refine ⟨?_, .ref y :: ms, _, _, RMs.cons (by unfold RM; rfl) (r1.mono g), s2, q2, fun v H' ⟨m, S', t', r', s', em, q'⟩ => ?_⟩
  · rw [List.length_cons, r1.length]; exact C.len _ _ _ q2
  · subst em
    unfold RM at r'
    exact ⟨r', .ref y, S', t1.trans (g.trans t'), by unfold RM; rfl, s', q'⟩
end
end
end Mv

set_option Elab.async false
set_option linter.all false
set_option maxRecDepth 100000
set_option maxHeartbeats 4000000
namespace Mv
open PySem PySem.Spec PyProof.Rows L2
/-! ### built-ins by name -/
abbrev MF := List MV → Sto → MK → Prop
def rMC (K : PySem.W.Frag) (Z : List Addr) (f : MF) : List V → Hp → VK → Prop := fun vs H Q => ∃ ms S R, RMs K H ms vs ∧ RS K Z S H ∧ f ms S R ∧ ∀ v H', MQ K Z S H R v H' → Q v H'
theorem rms1 {K : PySem.W.Frag} {H : Hp} {m : MV} {vs : List V} (r : RMs K H [m] vs) : ∃ v, vs = [v] ∧ RM K H m v := by
  unfold RMs at r; obtain ⟨v, r', e, h1, h2⟩ := r; unfold RMs at h2; subst h2; exact ⟨v, e, h1⟩
theorem rms2 {K : PySem.W.Frag} {H : Hp} {m n : MV} {vs : List V} (r : RMs K H [m, n] vs) : ∃ v u, vs = [v, u] ∧ RM K H m v ∧ RM K H n u := by
  unfold RMs at r; obtain ⟨v, r', e, h1, h2⟩ := r; obtain ⟨u, e2, h3⟩ := rms1 h2; subst e2; exact ⟨v, u, e, h1, h3⟩
def lenV : MF := fun ms S R => match ms with
  | [.tup l] => R (.int l.length) S
  | [.ref a] => (match lookL S a with
    | some l => R (.int l.length) S
    | none => False)
  | [.frz l] => R (.int l.length) S
  | _ => False
def listV : MF := fun ms S R => match ms with
  | [.tup l] => newL l S R
  | [.frz l] => newL l S R
  | [.ref a] => (match lookL S a with
    | some l => newL l S R
    | none => False)
  | _ => False
def tupleV : MF := fun ms S R => match ms with
  | [.tup l] => R (.tup l) S
  | [.ref a] => (match lookL S a with
    | some l => R (.tup l) S
    | none => False)
  | [.frz l] => R (.tup l) S
  | _ => False
def intV : MF := fun ms S R => match ms with
  | [.int i] => R (.int i) S
  | [.bl b] => R (.int (if b then 1 else 0)) S
  | _ => False
section
variable {X : Cx} {Z : List Addr} {e a b c o i value : Expr} {m ma mb mc : ME} {mt mu : MT} {pos pos' p : Pos} {rest es : List Expr} {mas : MA} {x : Str}
theorem cr_len : CallR X (.builtin "len") (rMC X.K Z lenV) := by
  intro pins s σ H xs us Q I rv h
  obtain ⟨ms, S, R, r, hS, hf, hQ⟩ := h
  unfold lenV at hf
  split at hf
  · obtain ⟨v, rfl, q⟩ := rms1 r
    unfold RM at q
    obtain ⟨a, ys, e, sq, rs⟩ := q
    exact call_len_seq pins s σ H _ us Q I rv ⟨a, ys, by rw [e], .inr sq, by rw [rs.length]; exact mq_int hQ hS hf⟩
  · obtain ⟨v, rfl, q⟩ := rms1 r
    unfold RM at q
    split at hf
    · rename_i l el
      obtain ⟨ys, g1, g2⟩ := look_sq hS el
      exact call_len_seq pins s σ H _ us Q I rv ⟨_, ys, by rw [q], .inl g1, by rw [g2.length]; exact mq_int hQ hS hf⟩
    · exact hf.elim
  · obtain ⟨v, rfl, q⟩ := rms1 r
    unfold RM at q
    obtain ⟨a, ys, e, sq, rs⟩ := q
    exact call_len_seq pins s σ H _ us Q I rv ⟨a, ys, by rw [e], .inl sq.sq, by rw [rs.length]; exact mq_int hQ hS hf⟩
  · exact hf.elim
theorem cr_list : CallR X (.type "list") (rMC X.K Z listV) := by
  intro pins s σ H xs us Q I rv h
  obtain ⟨ms, S, R, r, hS, hf, hQ⟩ := h
  unfold listV at hf
  split at hf
  · obtain ⟨v, rfl, q⟩ := rms1 r
    unfold RM at q
    obtain ⟨a, ys, e, sq, rs⟩ := q
    exact call_list_of pins s σ H _ us Q I rv ⟨a, ys, by rw [e], .inr sq, fun l hl => mq_lst hQ hS rs hl hf⟩
  · obtain ⟨v, rfl, q⟩ := rms1 r
    unfold RM at q
    obtain ⟨a, ys, e, sq, rs⟩ := q
    exact call_list_of pins s σ H _ us Q I rv ⟨a, ys, by rw [e], .inl sq.sq, fun l hl => mq_lst hQ hS rs hl hf⟩
  · obtain ⟨v, rfl, q⟩ := rms1 r
    unfold RM at q
    split at hf
    · rename_i l el
      obtain ⟨ys, g1, g2⟩ := look_sq hS el
      exact call_list_of pins s σ H _ us Q I rv ⟨_, ys, by rw [q], .inl g1, fun l hl => mq_lst hQ hS g2 hl hf⟩
    · exact hf.elim
  · exact hf.elim
theorem cr_tuple : CallR X (.type "tuple") (rMC X.K Z tupleV) := by
  intro pins s σ H xs us Q I rv h
  obtain ⟨ms, S, R, r, hS, hf, hQ⟩ := h
  unfold tupleV at hf
  split at hf
  · obtain ⟨v, rfl, q⟩ := rms1 r
    have q' := q
    unfold RM at q
    obtain ⟨a, ys, e, sq, rs⟩ := q
    exact call_tuple_of pins s σ H _ us Q I rv ⟨a, ys, by rw [e], .inr ⟨sq, by rw [← e]; exact mq hQ q' hS hf⟩⟩
  · obtain ⟨v, rfl, q⟩ := rms1 r
    unfold RM at q
    split at hf
    · rename_i l el
      obtain ⟨ys, g1, g2⟩ := look_sq hS el
      exact call_tuple_of pins s σ H _ us Q I rv ⟨_, ys, by rw [q], .inl ⟨g1, fun l hl => mq_tup hQ hS g2 hl hf⟩⟩
    · exact hf.elim
  · obtain ⟨v, rfl, q⟩ := rms1 r
    unfold RM at q
    obtain ⟨a, ys, e, sq, rs⟩ := q
    exact call_tuple_of pins s σ H _ us Q I rv ⟨a, ys, by rw [e], .inl ⟨sq.sq, fun l hl => mq_tup hQ hS rs hl hf⟩⟩
  · exact hf.elim
theorem cr_int : CallR X (.type "int") (rMC X.K Z intV) := by
  intro pins s σ H xs us Q I rv h
  obtain ⟨ms, S, R, r, hS, hf, hQ⟩ := h
  unfold intV at hf
  split at hf
  · obtain ⟨v, rfl, q⟩ := rms1 r
    unfold RM at q
    exact call_int1 pins s σ H _ us Q I rv (.inl ⟨_, by rw [q], mq_int hQ hS hf⟩)
  · obtain ⟨v, rfl, q⟩ := rms1 r
    unfold RM at q
    exact call_int1 pins s σ H _ us Q I rv (.inr ⟨_, by rw [q], mq_int hQ hS hf⟩)
  · exact hf.elim
def mCB (f : MF) (ms : MA) : ME := fun ρ S R => ms ρ S fun vs S1 => f vs S1 R
theorem ee_callB {id : String} {f : MF} (hc : CallR X (.builtin id) (rMC X.K Z f)) (hg : Gl X x) (hm : X.mg x = none) (hv : bootBuiltins x = some (.builtin id)) (ha : EA X Z (e :: es) mas) (hn : x ≠ "__name__" := by decide +kernel) (hdb : (x == ("__debug__" : Str)) = false := by kernel_rfl)
    (he : starEach (e :: es) X.env = (false, eval e X.env) :: starEach es X.env := by kernel_rfl) (hpl : (backTo pos (starEach es X.env)).any (·.1) = false := by kernel_rfl) : EE X Z (.Call (.Name x p) (e :: es) [] pos) (mCB f mas) :=
  ee_of (pe_callB hc hg hm hv ha.pa hn hdb he hpl) fun σ H ρ S R hE hS hm =>
    ⟨ρ, S, _, hE, hS, hm, fun vs H1 ⟨ms, S1, t1, r1, s1, q1⟩ => ⟨ms, S1, R, r1, s1, q1, fun v H' q => q.base t1⟩⟩
theorem ee_callTy {T : String} {f : MF} (hc : CallR X (.type T) (rMC X.K Z f)) (hg : Gl X x) (hm : X.mg x = none) (hv : bootBuiltins x = some (.type T)) (ha : EA X Z (e :: es) mas) (hn : x ≠ "__name__" := by decide +kernel) (hdb : (x == ("__debug__" : Str)) = false := by kernel_rfl)
    (he : starEach (e :: es) X.env = (false, eval e X.env) :: starEach es X.env := by kernel_rfl) (hpl : (backTo pos (starEach es X.env)).any (·.1) = false := by kernel_rfl) : EE X Z (.Call (.Name x p) (e :: es) [] pos) (mCB f mas) :=
  ee_of (pe_callTy hc hg hm hv ha.pa hn hdb he hpl) fun σ H ρ S R hE hS hm =>
    ⟨ρ, S, _, hE, hS, hm, fun vs H1 ⟨ms, S1, t1, r1, s1, q1⟩ => ⟨ms, S1, R, r1, s1, q1, fun v H' q => q.base t1⟩⟩
/-! isinstance(e, T), T a built-in type -/
def tyN (S : Sto) : MV → Option String
  | .non => some "NoneType"
  | .bl _ => some "bool"
  | .int _ => some "int"
  | .str _ => some "str"
  | .tup _ => some "tuple"
  | .ref a => (match S a with
    | some (.lst _) => some "list"
    | some (.rl _) => some "list"
    | some (.dct _) => some "dict"
    | _ => none)
  | .frz _ => some "list"
def tyB (T n : String) : Bool := n == T || (n == "bool" && T == "int")
theorem kit_all : ∀ n ∈ ["NoneType", "bool", "int", "str", "tuple", "list", "dict"], ∀ T ∈ ["bool", "int", "str", "tuple", "list", "dict"], kitB n T = some (tyB T n) := by decide +kernel
theorem tyX_of {K : PySem.W.Frag} {S : Sto} {H : Hp} {m : MV} {v : V} {n : String} (hS : RS K Z S H) (r : RM K H m v) (h : tyN S m = some n) : TyX K H v (.type n) ∧ n ∈ ["NoneType", "bool", "int", "str", "tuple", "list", "dict"] := by
  cases m with
  | frz l =>
    cases h; unfold RM at r
    obtain ⟨a, xs, e, sq, rs⟩ := r
    subst e
    refine ⟨?_, by simp⟩
    rcases sq with ⟨ob, sq⟩ | ⟨ob, its, k, h1, h2, _⟩
    · exact .base (.frz sq)
    · exact .kList h1 h2
  | non => cases h; unfold RM at r; subst r; exact ⟨.base .non, by simp⟩
  | bl b => cases h; unfold RM at r; subst r; exact ⟨.base (.bl b), by simp⟩
  | int b => cases h; unfold RM at r; subst r; exact ⟨.base (.int b), by simp⟩
  | str b => cases h; unfold RM at r; subst r; exact ⟨.base (.str _), by simp⟩
  | tup l =>
    cases h; unfold RM at r
    obtain ⟨a, xs, e, sq, rs⟩ := r
    subst e
    refine ⟨?_, by simp⟩
    rcases sq with (sq | ⟨ob, sq⟩) | ⟨ob, its, k, h1, h2, _⟩
    · exact .base (.tup sq)
    · exact .fTuple sq
    · exact .kTuple h1 h2
  | ref a =>
    unfold RM at r; subst r
    have h : (match S a with
      | some (.lst _) => some "list"
      | some (.rl _) => some "list"
      | some (.dct _) => some "dict"
      | _ => none) = some n := h
    cases e : S a with
    | none => rw [e] at h; cases h
    | some ob =>
      have q := hS.ob a ob e
      rw [e] at h
      cases ob with
      | lst l =>
        obtain ⟨xs, h1, h2⟩ := q
        cases h
        exact ⟨.base (.lst h1), by simp⟩
      | rl l =>
        obtain ⟨xs, h1, h2⟩ := q
        cases h
        rcases h1 with h1 | ⟨ob, h1⟩
        · exact ⟨.base (.lst h1), by simp⟩
        · exact ⟨.base (.frz h1), by simp⟩
      | dct kvs =>
        obtain ⟨ks, h1, h2, h3⟩ := q
        cases h
        exact ⟨.base (.dK h1), by simp⟩
      | _ => cases h
def mIsi (T : String) (m : ME) : ME := fun ρ S R => m ρ S fun x S1 => match tyN S1 x with
  | some n => R (.bl (tyB T n)) S1
  | none => False
theorem ee_isi {y : Str} {T : String} {p2 : Pos} (ha : EE X Z e m) (hg : Gl X "isinstance") (hm : X.mg "isinstance" = none) (hgT : Gl X y) (hmT : X.mg y = none) (hvT : bootBuiltins y = some (.type T)) (hT : T ∈ ["bool", "int", "str", "tuple", "list", "dict"])
    (hv : bootBuiltins "isinstance" = some (.builtin "isinstance") := by decide +kernel) (hn : y ≠ "__name__" := by decide +kernel) (hdb : (y == ("__debug__" : Str)) = false := by kernel_rfl)
    (he : starEach [e, .Name y p2] X.env = (false, eval e X.env) :: starEach [.Name y p2] X.env := by kernel_rfl) (hpl : (backTo pos (starEach [.Name y p2] X.env)).any (·.1) = false := by kernel_rfl) (hs1 : starEach [.Name y p2] X.env = (false, eval (.Name y p2) X.env) :: starEach [] X.env := by kernel_rfl) :
    EE X Z (.Call (.Name "isinstance" p) [e, .Name y p2] [] pos) (mIsi T m) :=
  ee_of (pe_callB call_isi hg hm hv (pa_cons ha.pe (pa_cons (pe_bltn hgT hmT hvT (v := .ty T) rfl hn hdb) pa_nil hs1) he) (by decide) (by decide) he hpl) fun σ H ρ S R hE hS hm => by
    refine ⟨ρ, S, _, hE, hS, hm, fun v H1 ⟨x, S1, t1, r1, s1, q1⟩ => ?_⟩
    dsimp only at q1
    split at q1
    · rename_i n en
      obtain ⟨ty, hmem⟩ := tyX_of s1 r1 en
      exact ⟨v, .ty T, .type n, .type T, tyB T n, rfl, .ty T, ty, kit_ty (kit_all n hmem T hT), .bl _, S1, t1, by unfold RM; rfl, s1, q1⟩
    · exact q1.elim
/-! ### methods of lists -/
abbrev MB := MV → List MV → Sto → MK → Prop
def isL (S : Sto) (x : MV) : Prop := match x with
  | .ref a => (lookL S a).isSome = true
  | _ => False
theorem isL_ty {K : PySem.W.Frag} {S : Sto} {H : Hp} {x : MV} {v : V} (hS : RS K Z S H) (r : RM K H x v) (h : isL S x) : tyV K "list" v H := by
  cases x with
  | ref a =>
    unfold RM at r; subst r
    have h : (lookL S a).isSome = true := h
    cases e : lookL S a with
    | none => rw [e] at h; cases h
    | some l =>
      obtain ⟨xs, g1, _⟩ := look_sq hS e
      exact .inl ⟨rfl, xs, g1⟩
  | _ => exact False.elim h
def mBM (f : MB) (mo : ME) (ms : MA) : ME := fun ρ S R => mo ρ S fun x S1 => isL S1 x ∧ ms ρ S1 fun vs S2 => f x vs S2 R
def rMB (K : PySem.W.Frag) (Z : List Addr) (f : MB) : V → List V → Hp → VK → Prop := fun v vs H Q => ∃ x ms S R, RM K H x v ∧ RMs K H ms vs ∧ RS K Z S H ∧ f x ms S R ∧ ∀ v H', MQ K Z S H R v H' → Q v H'
theorem ee_bm {name : Str} {id : String} {f : MB} {apos cpos : Pos} (pa : PlainAttrs "list") (slot : Slot "list" name id) (hty : typeOf (.builtin id) = pure (.type "method_descriptor")) (hm : MtR X id (rMB X.K Z f)) (ho : EE X Z o m) (ha : EA X Z (e :: es) mas)
    (hbase : attributeBase o name X.env (eval o X.env) = eval o X.env := by kernel_rfl)
    (hfew : ((backTo cpos (starEach (e :: es) X.env)).all (fun x => !x.1) && (backToKw cpos (keywordEach [] X.env)).all (fun x => x.1.isSome)
      && decide ((e :: es).length + ([] : List Keyword).length + (if ([] : List Keyword).isEmpty then 0 else 1) < 30)) = true := by kernel_rfl)
    (hline : (apos.endLine == cpos.line) = true := by kernel_rfl) (hs : starEach (e :: es) X.env = (false, eval e X.env) :: starEach es X.env := by kernel_rfl) (hplain : (backTo cpos (starEach es X.env)).any (·.1) = false := by kernel_rfl) :
    EE X Z (.Call (.Attribute o name apos) (e :: es) [] cpos) (mBM f m mas) :=
  ee_of (pe_bm pa slot hty hm ho.pe ha.pa hbase hfew hline hs hplain) fun σ H ρ S R hE hS hm => by
    refine ⟨ρ, S, _, hE, hS, hm, fun v H1 ⟨x, S1, t1, r1, s1, l1, q1⟩ => ⟨isL_ty s1 r1 l1, ρ, S1, _, hE.mono t1, s1, q1, fun vs H2 ⟨ms, S2, t2, r2, s2, q2⟩ => ?_⟩⟩
    exact ⟨x, ms, S2, R, r1.mono t2, r2, s2, q2, fun v H' q => q.base (t1.trans t2)⟩
theorem ee_bm0 {name : Str} {id : String} {f : MB} {apos cpos : Pos} (pa : PlainAttrs "list") (slot : Slot "list" name id) (hty : typeOf (.builtin id) = pure (.type "method_descriptor")) (hm : MtR X id (rMB X.K Z f)) (ho : EE X Z o m)
    (hbase : attributeBase o name X.env (eval o X.env) = eval o X.env := by kernel_rfl) (hline : (apos.endLine == cpos.line) = true := by kernel_rfl) : EE X Z (.Call (.Attribute o name apos) [] [] cpos) (mBM f m maNil) :=
  ee_of (pe_bm0 pa slot hty hm ho.pe hbase hline) fun σ H ρ S R hE hS hm => by
    refine ⟨ρ, S, _, hE, hS, hm, fun v H1 ⟨x, S1, t1, r1, s1, l1, q1⟩ => ⟨isL_ty s1 r1 l1, ?_⟩⟩
    exact ⟨x, [], S1, R, r1, RMs.nil, s1, q1, fun v H' q => q.base t1⟩
def appendV : MB := fun x vs S R => match x, vs with
  | .ref a, [v] => (match S a with
    | some (.lst l) => l.length < sizeLine ∧ R .non (supd S a (.lst (l ++ [v])))
    | _ => False)
  | _, _ => False
theorem mq_setL {K : PySem.W.Frag} {S : Sto} {H : Hp} {R : MK} {Q : VK} (hQ : ∀ v H', MQ K Z S H R v H' → Q v H') {m : MV} {v : V} {a : Addr} {l l' : List MV} {xs ys : List V} (s : RS K Z S H) (e : S a = some (.lst l)) (h : H a = some (.lst ys)) (r : RMs K H l' xs) (rv : RM K H m v)
    (q : R m (supd S a (.lst l'))) : Q v (upd H a (.lst xs)) := by
  have g : GK K S H (supd S a (.lst l')) (upd H a (.lst xs)) := GK.put (TK.lst h) e
  exact hQ _ _ ⟨m, _, g, rv.mono g, s.setL (l := l) h r, q⟩
theorem mr_append : MtR X "list.append" (rMB X.K Z appendV) := by
  intro pins s σ H x vs v us Q I rx rv h
  obtain ⟨mx, ms, S, R, r1, r2, hS, hf, hQ⟩ := h
  unfold appendV at hf
  split at hf
  · rename_i a w
    split at hf
    · rename_i l e
      obtain ⟨u, rfl, q⟩ := rms1 r2
      unfold RM at r1
      obtain ⟨xs, h1, h2⟩ := hS.lst e
      exact mt_append pins s σ H x _ v us Q I rx rv ⟨a, xs, u, r1, rfl, h1, by rw [h2.length]; exact hf.1, mq_setL hQ hS e h1 (h2.append (RMs.cons q RMs.nil)) (by unfold RM; rfl) hf.2⟩
    · exact hf.elim
  · exact hf.elim
/-- xs.pop(0) -/
def popV : MB := fun x vs S R => match x, vs with
  | .ref a, [.int 0] => (match S a with
    | some (.lst (v :: l)) => R v (supd S a (.lst l))
    | _ => False)
  | .ref a, [] => (match S a with
    | some (.lst l) => (match l[l.length - 1]? with
      | some v => R v (supd S a (.lst l.dropLast))
      | none => False)
    | _ => False)
  | _, _ => False
theorem RMs.dropLast {K : PySem.W.Frag} {H : Hp} {l : List MV} {xs : List V} (h : RMs K H l xs) : RMs K H l.dropLast xs.dropLast := by
  rw [List.dropLast_eq_take, List.dropLast_eq_take, h.length]
  exact h.take _
theorem mr_pop : MtR X "list.pop" (rMB X.K Z popV) := by
  intro pins s σ H x vs v us Q I rx rv h
  obtain ⟨mx, ms, S, R, r1, r2, hS, hf, hQ⟩ := h
  unfold popV at hf
  split at hf
  · rename_i a
    split at hf
    · rename_i w l e
      obtain ⟨u, rfl, q⟩ := rms1 r2
      unfold RM at r1 q
      subst q
      obtain ⟨xs, h1, h2⟩ := hS.lst e
      have h2' := h2
      unfold RMs at h2
      obtain ⟨y, r, e2, r3, r4⟩ := h2
      subst e2
      exact mt_popAt pins s σ H x _ v us Q I rx rv ⟨a, y :: r, 0, 0, y, r1, rfl, h1, by decide, by decide, (ixN_seq (n := (y :: r).length) (i := 0) (j := 0) (by unfold ixN; rw [if_pos (by decide), if_pos (by rw [List.length_cons]; omega)]; rfl)).1, rfl, mq_setL hQ hS e h1 r4 r3 hf⟩
    · exact hf.elim
  · rename_i a
    split at hf
    · rename_i l e
      split at hf
      · rename_i w e2
        unfold RMs at r2; subst r2
        unfold RM at r1
        obtain ⟨xs, h1, h2⟩ := hS.lst e
        obtain ⟨y, e3, r3⟩ := h2.get e2
        exact mt_pop pins s σ H x _ v us Q I rx rv ⟨a, xs, y, r1, rfl, h1, by rw [h2.length]; exact e3, mq_setL hQ hS e h1 h2.dropLast r3 hf⟩
      · exact hf.elim
    · exact hf.elim
  · exact hf.elim
def extendV : MB := fun x vs S R => match x, vs with
  | .ref a, [.ref b] => (match S a, S b with
    | some (.lst l), some (.lst k) => l.length + k.length ≤ sizeLine ∧ R .non (supd S a (.lst (l ++ k)))
    | _, _ => False)
  | _, _ => False
theorem mr_extend : MtR X "list.extend" (rMB X.K Z extendV) := by
  intro pins s σ H x vs v us Q I rx rv h
  obtain ⟨mx, ms, S, R, r1, r2, hS, hf, hQ⟩ := h
  unfold extendV at hf
  split at hf
  · rename_i a b
    split at hf
    · rename_i l k e e'
      obtain ⟨u, rfl, q⟩ := rms1 r2
      unfold RM at r1 q
      obtain ⟨xs, h1, h2⟩ := hS.lst e
      obtain ⟨ys, h3, h4⟩ := hS.lst e'
      exact mt_extend pins s σ H x _ v us Q I rx rv ⟨a, b, xs, ys, r1, by rw [q], h1, h3, by rw [h2.length, h4.length]; exact hf.1, mq_setL hQ hS e h1 (h2.append h4) (by unfold RM; rfl) hf.2⟩
    · exact hf.elim
  · exact hf.elim
end
end Mv

set_option Elab.async false
set_option linter.all false
set_option maxRecDepth 100000
set_option maxHeartbeats 4000000
namespace Mv
open PySem PySem.Spec PyProof.Rows L2
/-! ### statements -/
section
variable {K : PySem.W.Frag} {Z : List Addr}
theorem toE_base {S0 S : Sto} {H0 H : Hp} {D : MD} {D' : Ends} (t : GK K S0 H0 S H) (h1 : ∀ σ' H', MQd K Z S0 H0 D.nx σ' H' → D'.nx σ' H') : ∀ σ' H', MQd K Z S H D.nx σ' H' → D'.nx σ' H' := fun σ' H' q => h1 _ _ (q.base t)
end
section
variable {X : Cx} {Z : List Addr} {e a b c o i value : Expr} {m ma mb mc : ME} {mt mu : MT} {pos pos' p : Pos} {rest es : List Expr} {mas : MA} {x : Str} {st : Stmt} {sts els : List Stmt} {ms mr : MS}
/-- the four ways out, over a later state -/
theorem tMS_at {m : MS} {S S1 : Sto} {σ : L2.St} {H H1 : Hp} {ρ : Env} {D' : MD} {D : Ends} (t : GK X.K S H S1 H1) (hE : RE X.K H1 ρ σ) (hS : RS X.K Z S1 H1) (hm : m D' ρ S1)
    (h1 : ∀ σ' H', MQd X.K Z S H D'.nx σ' H' → D.nx σ' H') (h2 : ∀ v H', MQ X.K Z S H D'.rt v H' → D.rt v H')
    (h3 : ∀ σ' H', MQd X.K Z S H D'.bk σ' H' → D.bk σ' H') (h4 : ∀ σ' H', MQd X.K Z S H D'.ct σ' H' → D.ct σ' H') : tMS X.K Z m D σ H1 :=
  ⟨ρ, S1, D', hE, hS, hm, fun σ' H' q => h1 _ _ (q.base t), fun σ' H' q => h2 _ _ (q.base t), fun σ' H' q => h3 _ _ (q.base t), fun σ' H' q => h4 _ _ (q.base t)⟩
def msNil : MS := fun D ρ S => D.nx ρ S
def msSeq (a b : MS) : MS := fun D ρ S => a { D with nx := b D } ρ S
theorem eb_nil : EB X Z [] msNil := ⟨PSs.imp pss_nil fun D σ H ⟨ρ, S, D', hE, hS, hm, h1, h2, h3, h4⟩ => h1 _ _ ⟨ρ, S, GK.refl, hE, hS, hm⟩⟩
theorem eb_cons (ha : ES X Z st ms) (hb : EB X Z sts mr) : EB X Z (st :: sts) (msSeq ms mr) :=
  ⟨PSs.imp (pss_cons ha.ps hb.pss) fun D σ H ⟨ρ, S, D', hE, hS, hm, h1, h2, h3, h4⟩ =>
    ⟨ρ, S, { D' with nx := mr D' }, hE, hS, hm, fun σ' H' ⟨ρ', S', t, e', s', q⟩ => tMS_at t e' s' q h1 h2 h3 h4, h2, h3, h4⟩⟩
theorem eb_one (ha : ES X Z st ms) : EB X Z [st] ms := ⟨PSs.imp (pss_one ha.ps) fun D σ H h => h⟩
def msRet (m : ME) : MS := fun D ρ S => m ρ S D.rt
theorem es_ret (h : EE X Z e m) : ES X Z (.Return (some e) pos) (msRet m) :=
  ⟨PS.imp (ps_ret h.pe) fun D σ H ⟨ρ, S, D', hE, hS, hm, h1, h2, h3, h4⟩ => ⟨ρ, S, D'.rt, hE, hS, hm, h2⟩⟩
def msRetN : MS := fun D _ S => D.rt .non S
theorem es_retN : ES X Z (.Return none pos) msRetN :=
  ⟨PS.imp ps_retN fun D σ H ⟨ρ, S, D', hE, hS, hm, h1, h2, h3, h4⟩ => h2 _ _ ⟨.non, S, GK.refl, by unfold RM; rfl, hS, hm⟩⟩
theorem es_pass : ES X Z (.Pass pos) msNil := ⟨PS.imp ps_pass fun D σ H ⟨ρ, S, D', hE, hS, hm, h1, h2, h3, h4⟩ => h1 _ _ ⟨ρ, S, GK.refl, hE, hS, hm⟩⟩
def msBrk : MS := fun D ρ S => D.bk ρ S
def msCont : MS := fun D ρ S => D.ct ρ S
theorem es_break : ES X Z (.Break pos) msBrk := ⟨PS.imp ps_break fun D σ H ⟨ρ, S, D', hE, hS, hm, h1, h2, h3, h4⟩ => h3 _ _ ⟨ρ, S, GK.refl, hE, hS, hm⟩⟩
theorem es_cont : ES X Z (.Continue pos) msCont := ⟨PS.imp ps_continue fun D σ H ⟨ρ, S, D', hE, hS, hm, h1, h2, h3, h4⟩ => h4 _ _ ⟨ρ, S, GK.refl, hE, hS, hm⟩⟩
def msNever : MS := fun _ _ _ => False
theorem es_never : ES X Z st msNever := ⟨PS.imp ps_never fun D σ H ⟨ρ, S, D', hE, hS, hm, h1, h2, h3, h4⟩ => hm⟩
theorem es_doc {s : Str} {j} : ES X Z (.Expr (.Constant (.str s) j pos) pos') msNil := ⟨PS.imp ps_doc fun D σ H ⟨ρ, S, D', hE, hS, hm, h1, h2, h3, h4⟩ => h1 _ _ ⟨ρ, S, GK.refl, hE, hS, hm⟩⟩
def msExpr (m : ME) : MS := fun D ρ S => m ρ S fun _ S1 => D.nx ρ S1
theorem es_expr (h : EE X Z e m) (hs : swapsWith e none pos.line X.env = pure false := by kernel_rfl) : ES X Z (.Expr e pos) (msExpr m) :=
  ⟨PS.imp (ps_expr h.pe hs) fun D σ H ⟨ρ, S, D', hE, hS, hm, h1, h2, h3, h4⟩ =>
    ⟨ρ, S, _, hE, hS, hm, fun v H1 ⟨x, S1, t1, r1, s1, q1⟩ => h1 _ _ ⟨ρ, S1, t1, hE.mono t1, s1, q1⟩⟩⟩
def msIf (t : MT) (a b : MS) : MS := fun D ρ S => t ρ S fun k S1 => match k with
  | true => a D ρ S1
  | false => b D ρ S1
theorem es_if {sa sb : List Stmt} {ma mb : MS} (hc : ET X Z c mt) (ha : EB X Z sa ma) (hb : EB X Z sb mb) : ES X Z (.If c sa sb pos) (msIf mt ma mb) :=
  ⟨PS.imp (ps_if hc.pt ha.pss hb.pss) fun D σ H ⟨ρ, S, D', hE, hS, hm, h1, h2, h3, h4⟩ => by
    refine ⟨ρ, S, _, hE, hS, hm, fun k H1 ⟨S1, t1, s1, q1⟩ => ?_⟩
    cases k with
    | true => rw [if_pos rfl]; exact tMS_at t1 (hE.mono t1) s1 q1 h1 h2 h3 h4
    | false => rw [if_neg Bool.false_ne_true]; exact tMS_at t1 (hE.mono t1) s1 q1 h1 h2 h3 h4⟩
/-! ### stores -/
def msSet (i : Nat) (m : ME) : MS := fun D ρ S => m ρ S fun v S1 => D.nx (ρ.set i (some v)) S1
theorem es_set {i : Nat} (hN : X.N.Nodup) (hi : X.N[i]? = some x) (hx : Loc X.env.scope x) (he : EE X Z e m) (hs : swapsWith e (some (.Name x pos')) pos.line X.env = pure false := by kernel_rfl)
    (hf : X.fn x = true ∨ X.env.scope.names.lookup x = some .local) : ES X Z (.Assign [.Name x pos'] e pos) (msSet i m) :=
  ⟨PS.imp (ps_set hN hi hx he.pe hs hf) fun D σ H ⟨ρ, S, D', hE, hS, hm, h1, h2, h3, h4⟩ =>
    ⟨ρ, S, _, hE, hS, hm, fun v H1 ⟨x, S1, t1, r1, s1, q1⟩ => h1 _ _ ⟨_, S1, t1, (hE.mono t1).set r1, s1, q1⟩⟩⟩
def putFM (f : String) (v : MV) : List (String × MV) → List (String × MV)
  | [] => [(f, v)]
  | (g, x) :: r => if g = f then (g, v) :: r else (g, x) :: putFM f v r
theorem putF_rel {K : PySem.W.Frag} {H : Hp} {f : String} {m : MV} {v : V} (r : RM K H m v) : ∀ {fs : List (String × MV)} {xs : List (Str × V)}, xs.map (·.1) = fs.map (fun p => so p.1) → RMs K H (fs.map (·.2)) (xs.map (·.2)) →
    (putF (so f) v xs).map (·.1) = (putFM f m fs).map (fun p => so p.1) ∧ RMs K H ((putFM f m fs).map (·.2)) ((putF (so f) v xs).map (·.2))
  | [], [], _, _ => ⟨rfl, RMs.cons r RMs.nil⟩
  | [], _ :: _, e, _ => by simp at e
  | _ :: _, [], e, _ => by simp at e
  | (g, n) :: fs, (y, x) :: xs, e, q => by
    simp only [List.map_cons, List.cons.injEq] at e
    simp only [List.map_cons] at q
    unfold RMs at q
    obtain ⟨x', r', ex, q1, q2⟩ := q
    injection ex with ex1 ex2
    subst ex1; subst ex2
    unfold putF putFM
    by_cases hg : g = f
    · subst hg
      rw [if_pos e.1, if_pos rfl]
      exact ⟨by simp [e.1, e.2], RMs.cons r q2⟩
    · rw [if_neg (fun z => hg (so_inj (e.1.symm.trans z))), if_neg hg]
      obtain ⟨i1, i2⟩ := putF_rel r e.2 q2
      exact ⟨by simp [e.1, i1], RMs.cons q1 i2⟩
theorem insLen {fs : List (String × MV)} {xs : List (Str × V)} (h : xs.map (·.1) = fs.map (fun p => so p.1)) : xs.length = fs.length := by
  have := congrArg List.length h; simpa using this
/-- o.f = e -/
def fldPut (T : String → String → Bool) (f : String) (o v : MV) (S : Sto) (k : Sto → Prop) : Prop := match o with
  | .ref a => (match S a with
    | some (.ins c fs) => T c f = true ∧ fs.length < 1000 ∧ k (supd S a (.ins c (putFM f v fs)))
    | _ => False)
  | _ => False
def msFld (T : String → String → Bool) (mo : ME) (f : String) (mv : ME) : MS := fun D ρ S => mv ρ S fun v S1 => mo ρ S1 fun o S2 => fldPut T f o v S2 fun S3 => D.nx ρ S3
theorem fld_put {T : String → String → Bool} {f : String} (hT : AtOk X.K T) {S : Sto} {H : Hp} {o v : MV} {ov vv : V} {k : Sto → Prop} (hS : RS X.K Z S H) (ro : RM X.K H o ov) (rv : RM X.K H v vv) (h : fldPut T f o v S k) :
    ∃ (a C dx : Addr) (fs : List (Str × V)) (S3 : Sto), ov = .ref a ∧ H a = some (.ins C dx fs) ∧ Cls X.K C ∧ NoAttr X.K C (so f) ∧ fs.length < 1000 ∧ GK X.K S H S3 (upd H a (.ins C dx (putF (so f) vv fs))) ∧ RS X.K Z S3 (upd H a (.ins C dx (putF (so f) vv fs))) ∧ k S3 := by
  cases o with
  | ref a =>
    unfold RM at ro
    have h : (match S a with
      | some (.ins c fs) => T c f = true ∧ fs.length < 1000 ∧ k (supd S a (.ins c (putFM f v fs)))
      | _ => False) := h
    split at h
    · rename_i c fs e
      obtain ⟨hc, hl, q⟩ := h
      obtain ⟨dx, xs, h1, h2, h3⟩ := hS.ins e
      obtain ⟨p1, p2⟩ := putF_rel (f := f) rv h2 h3
      have g : GK X.K S H (supd S a (.ins c (putFM f v fs))) (upd H a (.ins (He.ga X.K (so c)) dx (putF (so f) vv xs))) := GK.put (TK.ins h1) e
      exact ⟨a, _, dx, xs, _, ro, h1, (hT _ _ hc).1, (hT _ _ hc).2, by rw [insLen h2]; exact hl, g, hS.put (TK.ins h1) (fun ps e => by rw [h1] at e; cases e) ⟨dx, _, upd_same, p1, p2.mono g⟩, q⟩
    · exact h.elim
  | _ => exact False.elim h
theorem es_fld {T : String → String → Bool} {f : String} (hT : AtOk X.K T) (ho : EE X Z o mb) (hv : EE X Z value ma) (hs : swapsWith value (some (.Attribute o (Str.ofString f) pos')) pos.line X.env = pure false := by kernel_rfl) :
    ES X Z (.Assign [.Attribute o (Str.ofString f) pos'] value pos) (msFld T mb f ma) :=
  ⟨PS.imp (ps_fld ho.pe hv.pe hs) fun D σ H ⟨ρ, S, D', hE, hS, hm, h1, h2, h3, h4⟩ => by
    refine ⟨ρ, S, _, hE, hS, hm, fun v H1 ⟨x, S1, t1, r1, s1, q1⟩ => ?_⟩
    refine ⟨ρ, S1, _, hE.mono t1, s1, q1, fun ov H2 ⟨y, S2, t2, r2, s2, q2⟩ => ?_⟩
    obtain ⟨a, C, dx, fs, S3, e1, e2, e3, e4, e5, g, s3, q3⟩ := fld_put hT s2 r2 (r1.mono t2) q2
    exact ⟨a, C, dx, fs, e1, e2, e3, e4, e5, h1 _ _ ⟨ρ, S3, t1.trans (t2.trans g), hE.mono (t1.trans (t2.trans g)), s3, q3⟩⟩⟩
/-- o[i] = e: a list, or a dict with a text key -/
def subPut (o i v : MV) (S : Sto) (k : Sto → Prop) : Prop := match o with
  | .ref a => (match S a with
    | some (.lst l) => (match i with
      | .int z => (match ixN l.length z with
        | some j => k (supd S a (.lst (l.set j v)))
        | none => False)
      | _ => False)
    | some (.dct kvs) => (match i with
      | .str s => kvs.length < sizeLine ∧ k (supd S a (.dct (putD kvs s v)))
      | _ => False)
    | _ => False)
  | _ => False
def rSetB : TSet := fun o i v H Q => rSetL o i v H Q ∨ rSetD o i v H Q
theorem set_both (hu : X.A.units + 1 < cLine) : PSet X rSetB := fun pins s σ H o i v ov iv u Q I r1 r2 r3 h => h.elim (set_list pins s σ H o i v ov iv u Q I r1 r2 r3) (set_dict hu pins s σ H o i v ov iv u Q I r1 r2 r3)
theorem sub_put {S : Sto} {H : Hp} {o i v : MV} {ov iv vv : V} {k : Sto → Prop} {Q : Hp → Prop} (hS : RS X.K Z S H) (ro : RM X.K H o ov) (ri : RM X.K H i iv) (rv : RM X.K H v vv) (h : subPut o i v S k)
    (hQ : ∀ S3 H3, GK X.K S H S3 H3 → RS X.K Z S3 H3 → k S3 → Q H3) : rSetB ov iv vv H Q := by
  cases o with
  | ref a =>
    unfold RM at ro
    unfold subPut at h
    dsimp only at h
    split at h
    · rename_i l e
      cases i with
      | int z =>
        unfold RM at ri
        dsimp only at h
        split at h
        · rename_i j ej
          obtain ⟨xs, g1, g2⟩ := hS.lst e
          have g : GK X.K S H (supd S a (.lst (l.set j v))) (upd H a (.lst (xs.set j vv))) := GK.put (TK.lst g1) e
          exact .inl ⟨a, xs, z, j, ro, ri, g1, by rw [g2.length]; exact ej, hQ _ _ g (hS.setL (l := l) g1 (RMs.set rv j g2)) h⟩
        · exact h.elim
      | _ => exact False.elim h
    · rename_i kvs e
      cases i with
      | str s =>
        unfold RM at ri
        obtain ⟨ks, g1, g2⟩ := hS.dct e
        have g : GK X.K S H (supd S a (.dct (putD kvs s v))) (upd H a (.dK (putK ks (Sum.inr (so s) : Key) vv))) := GK.put (TK.dK g1) e
        have g3 := (g2.put (s := s) rv).mono g
        exact .inr ⟨a, _, ro, by rw [ri]; exact DPut.k (k := Sum.inr (so s)) g1 (by rw [g2.length]; exact h.1), hQ _ _ g (hS.put (TK.dK g1) (fun ps e => by rw [g1] at e; cases e) ⟨_, upd_same, g3.keys, g3.vals⟩) h.2⟩
      | _ => exact False.elim h
    · exact h.elim
  | _ => exact False.elim h
def msSub (mo mi mv : ME) : MS := fun D ρ S => mv ρ S fun v S1 => mo ρ S1 fun o S2 => mi ρ S2 fun i S3 => subPut o i v S3 fun S4 => D.nx ρ S4
theorem es_sub (hu : X.A.units + 1 < cLine) (ho : EE X Z o ma) (hi : EE X Z i mb) (hv : EE X Z value mc) (hs : swapsWithSole [.Subscript o i pos'] value pos.line X.env = pure false := by kernel_rfl) (hw : swappedStores [.Subscript o i pos'] value X.env = pure none := by kernel_rfl)
    (h1 : (assignEach [.Subscript o i pos'] X.env).map (·.2) = [assign (.Subscript o i pos') X.env] := by kernel_rfl)
    (ha : ∀ v, assign (.Subscript o i pos') X.env v = (do
      let ov ← holding [v] (eval o X.env)
      let iv ← holding [v, ov] (eval i X.env)
      standAt pos'
      holding [v, ov, iv] (setItem ov iv v)
      release [v, ov, iv] []) := by intro _; kernel_rfl) : ES X Z (.Assign [.Subscript o i pos'] value pos) (msSub ma mb mc) :=
  ⟨PS.imp (ps_asg hv.pe (pg_sub ho.pe hi.pe (set_both hu) ha) hs hw h1) fun D σ H ⟨ρ, S, D', hE, hS, hm, h1, h2, h3, h4⟩ => by
    refine ⟨ρ, S, _, hE, hS, hm, fun v H1 ⟨x, S1, t1, r1, s1, q1⟩ => ?_⟩
    refine ⟨ρ, S1, _, hE.mono t1, s1, q1, fun ov H2 ⟨y, S2, t2, r2, s2, q2⟩ => ?_⟩
    refine ⟨ρ, S2, _, hE.mono (t1.trans t2), s2, q2, fun iv H3 ⟨z, S3, t3, r3, s3, q3⟩ => ?_⟩
    exact sub_put s3 (r2.mono t3) r3 (r1.mono (t2.trans t3)) q3 fun S4 H4 g s4 q4 => h1 _ _ ⟨ρ, S4, t1.trans (t2.trans (t3.trans g)), hE.mono (t1.trans (t2.trans (t3.trans g))), s4, q4⟩⟩
/-! ### op= -/
def msAug (i : Nat) (f : M2) (m : ME) : MS := fun D ρ S => match ρ[i]? with
  | some (some x) => m ρ S fun y S1 => f x y S1 fun z S2 => D.nx (ρ.set i (some z)) S2
  | _ => False
theorem pip_of {op : Operator} {f : M2} (h : OpR X (inplaceOp op) (rM X.K Z f)) : PIp X op (rM X.K Z f) := fun pins s σ H x y v u Q I r1 r2 q => h pins s σ H x y v u Q I r1 r2 q
theorem ri_add : OpR X (inplaceOp .Add) (rM X.K Z (fun x y S R => match x, y with
    | .int i, .int j => R (.int (i + j)) S
    | _, _ => False)) := by
  intro pins s σ H x y v u Q I rx ry h
  obtain ⟨mx, my, S, R, r1, r2, hS, hf, hQ⟩ := h
  split at hf
  · unfold RM at r1 r2
    exact iop_add pins s σ H x y v u Q I rx ry ⟨_, _, r1, r2, mq_int hQ hS hf⟩
  · exact hf.elim
def iaddV : M2 := fun x y S R => match x, y with
  | .int i, .int j => R (.int (i + j)) S
  | _, _ => False
theorem ri_iadd : OpR X (inplaceOp .Add) (rM X.K Z iaddV) := ri_add
theorem ri_isub : OpR X (inplaceOp .Sub) (rM X.K Z subV) := by
  intro pins s σ H x y v u Q I rx ry h
  obtain ⟨mx, my, S, R, r1, r2, hS, hf, hQ⟩ := h
  unfold subV at hf
  split at hf
  · unfold RM at r1 r2
    exact iop_sub pins s σ H x y v u Q I rx ry ⟨_, _, r1, r2, mq_int hQ hS hf⟩
  · exact hf.elim
theorem es_aug {i : Nat} {op : Operator} {f : M2} (hN : X.N.Nodup) (hi : X.N[i]? = some x) (hx : Loc X.env.scope x) (he : EE X Z e m) (ho : OpR X (inplaceOp op) (rM X.K Z f)) (hf : X.fn x = true ∨ X.env.scope.names.lookup x = some .local) :
    ES X Z (.AugAssign (.Name x pos') op e pos) (msAug i f m) :=
  ⟨PS.imp (ps_aug hN hi hx he.pe (pip_of ho) hf) fun D σ H ⟨ρ, S, D', hE, hS, hm, h1, h2, h3, h4⟩ => by
    unfold msAug at hm
    split at hm
    · rename_i w hw
      obtain ⟨vx, ex, rx⟩ := hE.at_ i w hw
      refine ⟨vx, ex, ρ, S, _, hE, hS, hm, fun v H1 ⟨y, S1, t1, r1, s1, q1⟩ => ?_⟩
      exact ⟨w, y, S1, _, rx.mono t1, r1, s1, q1, fun z H2 ⟨u, S2, t2, r2, s2, q2⟩ => h1 _ _ ⟨_, S2, t1.trans t2, (hE.mono (t1.trans t2)).set r2, s2, q2⟩⟩
    · exact hm.elim⟩
/-- o[i] op= e, o a list, i not below nought -/
theorem get_lst0 : PGet X (fun o i H Q => ∃ p xs k v, o = .ref p ∧ i = .int k ∧ 0 ≤ k ∧ SqL X.K H p xs ∧ atI xs k = some v ∧ Q v H) := by
  intro pins s σ H o i ov iv Q I rx ry h
  obtain ⟨p, xs, k, z, rfl, rfl, h0, hq, he, q⟩ := h
  cases rx
  obtain ⟨t, rfl⟩ := ry
  obtain ⟨its, r, pl, hz⟩ := I.list hq
  obtain ⟨j, h1, h2, h3, h4, h5⟩ := atI_get he
  obtain ⟨w, ew, rw'⟩ := r.get h2
  have hl := r.length
  have hn := line63
  have hj : k.toNat = j := by
    rw [seqIndex_of h0 h5] at h1
    exact Option.some.inj h1
  exact wpAny_getItem_list pl.isList h0 (by omega) (by rw [hj]; simpa using ew) ⟨z, H, I, rw', q⟩
def ixL : M2 := fun x y S R => match y with
  | .int i => (match x with
    | .ref a => (match lookL S a with
      | some l => (match atI l i with
        | some v => 0 ≤ i ∧ R v S
        | none => False)
      | none => False)
    | _ => False)
  | _ => False
def msAugS (f : M2) (mo mi m : ME) : MS := fun D ρ S => mo ρ S fun o S1 => mi ρ S1 fun i S2 => ixL o i S2 fun x S3 => m ρ S3 fun y S4 => f x y S4 fun z S5 => subPut o i z S5 fun S6 => D.nx ρ S6
theorem es_augS {op : Operator} {f : M2} (hu : X.A.units + 1 < cLine) (hp : OpR X (inplaceOp op) (rM X.K Z f)) (ho : EE X Z o ma) (hi : EE X Z i mb) (he : EE X Z e mc)
    (ha : ∀ ov iv new, augStore i ov iv new = (do holding [new, ov, iv] (setItem ov iv new); release [new, ov, iv] []; pure .next) := by intros; kernel_rfl) : ES X Z (.AugAssign (.Subscript o i pos') op e pos) (msAugS f ma mb mc) :=
  ⟨PS.imp (ps_augS ho.pe hi.pe get_lst0 he.pe (pip_of hp) (set_both hu) ha) fun D σ H ⟨ρ, S, D', hE, hS, hm, h1, h2, h3, h4⟩ => by
    refine ⟨ρ, S, _, hE, hS, hm, fun ov H1 ⟨x, S1, t1, r1, s1, q1⟩ => ?_⟩
    refine ⟨ρ, S1, _, hE.mono t1, s1, q1, fun iv H2 ⟨y, S2, t2, r2, s2, q2⟩ => ?_⟩
    unfold ixL at q2
    cases y with
    | int k =>
      cases x with
      | ref a =>
        dsimp only at q2
        split at q2
        · rename_i l el
          split at q2
          · rename_i w ew
            obtain ⟨h0, q2⟩ := q2
            obtain ⟨xs, g1, g2⟩ := look_sq s2 el
            obtain ⟨vw, hw, rw'⟩ := at_rel g2 ew
            have r1' := r1.mono t2
            have r2' := r2
            unfold RM at r1' r2'
            refine ⟨a, xs, k, vw, r1', r2', h0, g1, hw, ρ, S2, _, hE.mono (t1.trans t2), s2, q2, fun ev H3 ⟨z, S3, t3, r3, s3, q3⟩ => ?_⟩
            refine ⟨w, z, S3, _, rw'.mono t3, r3, s3, q3, fun nv H4 ⟨u, S4, t4, r4, s4, q4⟩ => ?_⟩
            exact sub_put s4 (r1.mono (t2.trans (t3.trans t4))) (r2.mono (t3.trans t4)) r4 q4 fun S5 H5 g s5 q5 => h1 _ _ ⟨ρ, S5, t1.trans (t2.trans (t3.trans (t4.trans g))), hE.mono (t1.trans (t2.trans (t3.trans (t4.trans g)))), s5, q5⟩
          · exact q2.elim
        · exact q2.elim
      | _ => exact False.elim q2
    | _ => exact False.elim q2⟩
/-! ### targets: names, and tuples of names -/
inductive Pat where
  | nm (i : Nat)
  | tp (ps : List Pat)
mutual
def Pat.slots : Pat → List Nat
  | .nm i => [i]
  | .tp ps => slotsL ps
def slotsL : List Pat → List Nat
  | [] => []
  | p :: ps => p.slots ++ slotsL ps
end
mutual
/-- a value is bound: the slots behind it -/
def bindP : Pat → MV → Sto → Env → (Env → Prop) → Prop
  | .nm i, v, _, ρ, k => k (ρ.set i (some v))
  | .tp ps, v, S, ρ, k => match v with
    | .tup l => bindL ps l S ρ k
    | .ref a => (match lookL S a with
      | some l => bindL ps l S ρ k
      | none => False)
    | .frz l => bindL ps l S ρ k
    | _ => False
def bindL : List Pat → List MV → Sto → Env → (Env → Prop) → Prop
  | [], l, _, ρ, k => l = [] ∧ k ρ
  | p :: ps, l, S, ρ, k => match l with
    | v :: r => bindP p v S ρ fun ρ' => bindL ps r S ρ' k
    | [] => False
end
mutual
theorem bindP_ex : ∀ (p : Pat) (v : MV) (S : Sto) (ρ : Env) {k : Env → Prop}, bindP p v S ρ k → ∃ ρ', k ρ'
  | .nm i, v, S, ρ, k, h => by unfold bindP at h; exact ⟨_, h⟩
  | .tp ps, v, S, ρ, k, h => by
    unfold bindP at h
    split at h
    · exact bindL_ex ps _ S ρ h
    · split at h
      · exact bindL_ex ps _ S ρ h
      · exact h.elim
    · exact bindL_ex ps _ S ρ h
    · exact h.elim
theorem bindL_ex : ∀ (ps : List Pat) (l : List MV) (S : Sto) (ρ : Env) {k : Env → Prop}, bindL ps l S ρ k → ∃ ρ', k ρ'
  | [], l, S, ρ, k, h => by unfold bindL at h; exact ⟨_, h.2⟩
  | p :: ps, [], S, ρ, k, h => by unfold bindL at h; exact h.elim
  | p :: ps, v :: r, S, ρ, k, h => by
    unfold bindL at h
    obtain ⟨ρ', h⟩ := bindP_ex p v S ρ h
    exact bindL_ex ps r S ρ' h
end
def gP (K : PySem.W.Frag) (Z : List Addr) (p : Pat) : TG := fun v σ H Q => ∃ (m : MV) (ρ : Env) (S : Sto) (k : Env → Prop), RM K H m v ∧ RE K H ρ σ ∧ RS K Z S H ∧ bindP p m S ρ k ∧ ∀ ρ' σ', RE K H ρ' σ' → (∀ j, j ∉ p.slots → σ'[j]? = σ[j]?) → σ'.length = σ.length → k ρ' → Q σ' H
def gPs (K : PySem.W.Frag) (Z : List Addr) (ps : List Pat) : TGs := fun vs σ H Q => ∃ (ms : List MV) (ρ : Env) (S : Sto) (k : Env → Prop), RMs K H ms vs ∧ RE K H ρ σ ∧ RS K Z S H ∧ bindL ps ms S ρ k ∧ ∀ ρ' σ', RE K H ρ' σ' → (∀ j, j ∉ slotsL ps → σ'[j]? = σ[j]?) → σ'.length = σ.length → k ρ' → Q σ' H
structure EG (X : Cx) (Z : List Addr) (tg : Expr) (p : Pat) : Prop where
  pg : PG X tg (gP X.K Z p)
structure EGs (X : Cx) (Z : List Addr) (tgs : List Expr) (ps : List Pat) : Prop where
  pgs : PGs X tgs (gPs X.K Z ps)
  n : tgs.length = ps.length
theorem PG.imp {tg : Expr} {t t' : TG} (h : PG X tg t) (k : ∀ v σ H Q, t' v σ H Q → t v σ H Q) : PG X tg t' := ⟨fun pins s σ H v u Q I r hw => h.run pins s σ H v u Q I r (k v σ H Q hw)⟩
theorem PGs.imp {tg : List Expr} {t t' : TGs} (h : PGs X tg t) (k : ∀ v σ H Q, t' v σ H Q → t v σ H Q) : PGs X tg t' := ⟨fun pins s σ H v u Q I r hw => h.run pins s σ H v u Q I r (k v σ H Q hw)⟩
theorem PG.or {tg : Expr} {t t' : TG} (h : PG X tg t) (h' : PG X tg t') : PG X tg (fun v σ H Q => t v σ H Q ∨ t' v σ H Q) := ⟨fun pins s σ H v u Q I r hw => hw.elim (h.run pins s σ H v u Q I r) (h'.run pins s σ H v u Q I r)⟩
theorem eg_nm {i : Nat} (hN : X.N.Nodup) (hi : X.N[i]? = some x) (hx : Loc X.env.scope x) (hf : X.fn x = true ∨ X.env.scope.names.lookup x = some .local) : EG X Z (.Name x pos) (.nm i) :=
  ⟨PG.imp (pg_name hN hi hx hf) fun v σ H Q ⟨m, ρ, S, k, r, hE, hS, hb, hQ⟩ => by
    refine hQ _ _ (hE.set r) (fun j hj => ?_) (by rw [List.length_set]) (show k (ρ.set i (some m)) by unfold bindP at hb; exact hb)
    rw [List.getElem?_set_ne]
    intro e
    exact hj (by rw [← e]; simp [Pat.slots])⟩
theorem egs_nil : EGs X Z [] [] := ⟨PGs.imp pgs_nil fun vs σ H Q ⟨ms, ρ, S, k, r, hE, hS, hb, hQ⟩ => by
  unfold bindL at hb
  obtain ⟨e, hb⟩ := hb
  subst e
  unfold RMs at r; subst r
  exact ⟨rfl, hQ _ _ hE (fun _ _ => rfl) rfl hb⟩, rfl⟩
theorem egs_cons {tg : Expr} {tgs : List Expr} {p : Pat} {ps : List Pat} (h1 : EG X Z tg p) (h2 : EGs X Z tgs ps) (hs : (assignEach (tg :: tgs) X.env).map (·.2) = assign tg X.env :: (assignEach tgs X.env).map (·.2) := by kernel_rfl) : EGs X Z (tg :: tgs) (p :: ps) :=
  ⟨PGs.imp (pgs_cons h1.pg h2.pgs hs) fun vs σ H Q ⟨ms, ρ, S, k, r, hE, hS, hb, hQ⟩ => by
    cases ms with
    | nil => unfold bindL at hb; exact False.elim hb
    | cons m ms =>
      unfold RMs at r
      obtain ⟨v, vr, e, r1, r2⟩ := r
      have hb : bindP p m S ρ fun ρ' => bindL ps ms S ρ' k := by unfold bindL at hb; exact hb
      refine ⟨v, vr, e, m, ρ, S, _, r1, hE, hS, hb, fun ρ1 σ1 e1 f1 l1 b1 => ?_⟩
      refine ⟨ms, ρ1, S, k, r2, e1, hS, b1, fun ρ2 σ2 e2 f2 l2 b2 => hQ ρ2 σ2 e2 (fun j hj => ?_) (l2.trans l1) b2⟩
      simp only [slotsL, List.mem_append, not_or] at hj
      exact (f2 j hj.2).trans (f1 j hj.1), by rw [List.length_cons, List.length_cons, h2.n]⟩
theorem eg_tp {tgs : List Expr} {k : Nat} {ps : List Pat} (hc : X.calm = true) (h : EGs X Z tgs ps) (hn : (assignEach tgs X.env).length = tgs.length := by kernel_rfl) (hst : (assignEach tgs X.env).findIdx? (·.1) = none := by kernel_rfl) : EG X Z (.Tuple tgs k pos) (.tp ps) :=
  ⟨PG.imp (PG.or (pg_tup hc h.pgs hn hst) (pg_unl hc h.pgs hn hst)) fun v σ H Q ⟨m, ρ, S, kk, r, hE, hS, hb, hQ⟩ => by
    have len : ∀ (ps : List Pat) (l : List MV) (S : Sto) (ρ : Env) (k : Env → Prop), bindL ps l S ρ k → l.length = ps.length := by
      intro ps
      induction ps with
      | nil => intro l S ρ k hb; unfold bindL at hb; rw [hb.1]; rfl
      | cons p ps ih =>
        intro l S ρ k hb
        cases l with
        | nil => unfold bindL at hb; exact False.elim hb
        | cons v r =>
          rw [List.length_cons, List.length_cons]
          unfold bindL at hb
          obtain ⟨ρ', hb⟩ := bindP_ex p v S ρ hb
          rw [ih _ _ _ _ hb]
    cases m with
    | tup l =>
      unfold RM at r
      obtain ⟨a, xs, e, sq, rs⟩ := r
      have hb : bindL ps l S ρ kk := by unfold bindP at hb; exact hb
      exact .inl ⟨a, xs, e, sq, by rw [rs.length, len _ _ _ _ _ hb, h.n], l, ρ, S, kk, rs, hE, hS, hb, hQ⟩
    | ref a =>
      unfold RM at r
      have hb : (match lookL S a with
        | some l => bindL ps l S ρ kk
        | none => False) := by unfold bindP at hb; exact hb
      split at hb
      · rename_i l el
        obtain ⟨xs, g1, g2⟩ := look_sq hS el
        exact .inr ⟨a, xs, r, g1, by rw [g2.length, len _ _ _ _ _ hb, h.n], l, ρ, S, kk, g2, hE, hS, hb, hQ⟩
      · exact hb.elim
    | frz l =>
      unfold RM at r
      obtain ⟨a, xs, e, sq, rs⟩ := r
      have hb : bindL ps l S ρ kk := by unfold bindP at hb; exact hb
      exact .inr ⟨a, xs, e, sq.sq, by rw [rs.length, len _ _ _ _ _ hb, h.n], l, ρ, S, kk, rs, hE, hS, hb, hQ⟩
    | _ => unfold bindP at hb; exact False.elim hb⟩
/-- target = e, by a pattern -/
def msPat (p : Pat) (m : ME) : MS := fun D ρ S => m ρ S fun v S1 => bindP p v S1 ρ fun ρ' => D.nx ρ' S1
theorem es_pat {tg : Expr} {p : Pat} (he : EE X Z e m) (hg : EG X Z tg p) (hs : swapsWithSole [tg] e pos.line X.env = pure false := by kernel_rfl) (hw : swappedStores [tg] e X.env = pure none := by kernel_rfl)
    (h1 : (assignEach [tg] X.env).map (·.2) = [assign tg X.env] := by kernel_rfl) : ES X Z (.Assign [tg] e pos) (msPat p m) :=
  ⟨PS.imp (ps_asg he.pe hg.pg hs hw h1) fun D σ H ⟨ρ, S, D', hE, hS, hm, h1, h2, h3, h4⟩ =>
    ⟨ρ, S, _, hE, hS, hm, fun v H1 ⟨x, S1, t1, r1, s1, q1⟩ => ⟨x, ρ, S1, _, r1, hE.mono t1, s1, q1, fun ρ' σ' e' _ _ q => h1 _ _ ⟨ρ', S1, t1, e', s1, q⟩⟩⟩⟩
end
end Mv

set_option Elab.async false
set_option linter.all false
set_option maxRecDepth 100000
set_option maxHeartbeats 4000000
namespace Mv
open PySem PySem.Spec PyProof.Rows L2
/-! ### what is walked -/
/-- the items, and the lists that must stand as they are meanwhile -/
structure Items where
  vs : List MV
  keep : List (Addr × List MV)
def keepOk (k : List (Addr × List MV)) (S : Sto) : Prop := ∀ p ∈ k, lookL S p.1 = some p.2
abbrev MI := Env → Sto → (Items → Sto → Prop) → Prop
/-- the iterator J gives the items -/
def JI (K : PySem.W.Frag) (Z : List Addr) (J : It) (I : Items) (H0 : Hp) : Prop :=
  ∀ (i : Nat) (S : Sto) (H : Hp), TK K H0 H → RS K Z S H → keepOk I.keep S →
    (∀ v, I.vs[i]? = some v → J.go i H ∧ ∀ x H', J.yld i H x H' → GK K S H S H' ∧ RS K Z S H' ∧ RM K H' v x) ∧ (I.vs.length ≤ i → J.stop i H)
structure EI (X : Cx) (Z : List Addr) (tg iter : Expr) (m : MI) : Prop where
  pi : ∃ wi, PI X tg iter wi ∧ ∀ σ H ρ S R R', RE X.K H ρ σ → RS X.K Z S H → m ρ S R →
    (∀ J H', (∃ I S', GK X.K S H S' H' ∧ RS X.K Z S' H' ∧ JI X.K Z J I H' ∧ R I S') → R' J H') → wi σ H R'
theorem PI.or {X : Cx} {tg iter : Expr} {w w' : TI} (h : PI X tg iter w) (h' : PI X tg iter w') : PI X tg iter (fun σ H R => w σ H R ∨ w' σ H R) := ⟨fun pins s σ H R I hw => hw.elim (h.run pins s σ H R I) (h'.run pins s σ H R I)⟩
section
variable {K : PySem.W.Frag} {Z : List Addr}
theorem look_at {S : Sto} {H : Hp} {a : Addr} {l : List MV} {i : Nat} {v : MV} (hS : RS K Z S H) (e : lookL S a = some l) (h : l[i]? = some v) : ∃ xs x, SqL K H a xs ∧ xs[i]? = some x ∧ RM K H v x := by
  obtain ⟨xs, g1, g2⟩ := look_sq hS e
  obtain ⟨x, h1, h2⟩ := g2.get h
  exact ⟨xs, x, g1, h1, h2⟩
theorem ji_list {a : Addr} {l : List MV} {H0 : Hp} : JI K Z (Itl K a) ⟨l, [(a, l)]⟩ H0 := fun i S H t hS hk => by
  have e : lookL S a = some l := hk (a, l) (by simp)
  refine ⟨fun v hv => ?_, fun hl => ?_⟩
  · obtain ⟨xs, x, g1, h1, h2⟩ := look_at hS e hv
    refine ⟨⟨xs, x, g1, h1⟩, fun y H' ⟨eH, hy⟩ => ?_⟩
    subst eH
    have := hy xs g1
    rw [h1] at this; cases this
    exact ⟨GK.refl, hS, h2⟩
  · obtain ⟨xs, g1, g2⟩ := look_sq hS e
    exact ⟨xs, g1, by rw [g2.length]; exact hl⟩
theorem ji_tup {a : Addr} {l : List MV} {xs : List V} {H0 : Hp} (sq : SqT K H0 a xs) (r : RMs K H0 l xs) : JI K Z (Itt K a) ⟨l, []⟩ H0 := fun i S H t hS hk => by
  have sq' := t.tup _ _ sq
  refine ⟨fun v hv => ?_, fun hl => ?_⟩
  · obtain ⟨x, h1, h2⟩ := r.get hv
    refine ⟨⟨xs, x, sq', h1⟩, fun y H' ⟨eH, hy⟩ => ?_⟩
    subst eH
    have := hy xs sq'
    rw [h1] at this; cases this
    exact ⟨GK.refl, hS, RM.monoT t _ h2⟩
  · exact ⟨xs, sq', by rw [r.length]; exact hl⟩
theorem ji_frz {a : Addr} {l : List MV} {xs : List V} {H0 : Hp} (sq : FzL K H0 a xs) (r : RMs K H0 l xs) : JI K Z (Itl K a) ⟨l, []⟩ H0 := fun i S H t hS hk => by
  have sq' := (t.frz _ _ sq).sq
  refine ⟨fun v hv => ?_, fun hl => ?_⟩
  · obtain ⟨x, h1, h2⟩ := r.get hv
    refine ⟨⟨xs, x, sq', h1⟩, fun y H' ⟨eH, hy⟩ => ?_⟩
    subst eH
    have := hy xs sq'
    rw [h1] at this; cases this
    exact ⟨GK.refl, hS, RM.monoT t _ h2⟩
  · exact ⟨xs, sq', by rw [r.length]; exact hl⟩
def rngM (lo : Int) (n : Nat) : List MV := (List.range n).map fun (k : Nat) => MV.int (lo + (k : Int))
theorem ji_range {lo : Int} {n : Nat} {H0 : Hp} : JI K Z (Itr lo n) ⟨rngM lo n, []⟩ H0 := fun i S H t hS hk => by
  refine ⟨fun v hv => ?_, fun hl => ?_⟩
  · have hi : i < n := by
      have := (List.getElem?_eq_some_iff.mp hv).1
      simpa [rngM] using this
    have ev : v = .int (lo + (i : Int)) := by
      have : (rngM lo n)[i]? = some (.int (lo + (i : Int))) := by simp [rngM, hi]
      rw [this] at hv; cases hv; rfl
    refine ⟨hi, fun y H' ⟨eH, hy⟩ => ?_⟩
    subst eH; subst hy; subst ev
    exact ⟨GK.refl, hS, by unfold RM; rfl⟩
  · show n ≤ i
    simpa [rngM] using hl
theorem ji_rev {a : Addr} {l : List MV} {n : Nat} {H0 : Hp} (hn : n = l.length) : JI K Z (Itv K a n) ⟨l.reverse, [(a, l)]⟩ H0 := fun i S H t hS hk => by
  subst hn
  have e : lookL S a = some l := hk (a, l) (by simp)
  refine ⟨fun v hv => ?_, fun hl => ?_⟩
  · have hi : i < l.length := by have := (List.getElem?_eq_some_iff.mp hv).1; simpa using this
    have hv' : l[l.length - 1 - i]? = some v := by rw [← hv, List.getElem?_reverse hi]
    obtain ⟨xs, x, g1, h1, h2⟩ := look_at hS e hv'
    refine ⟨⟨hi, xs, x, g1, h1⟩, fun y H' ⟨eH, hy⟩ => ?_⟩
    subst eH
    have := hy xs g1
    rw [h1] at this; cases this
    exact ⟨GK.refl, hS, h2⟩
  · show l.length ≤ i
    simpa using hl
theorem ji_revF {a : Addr} {l : List MV} {xs : List V} {n : Nat} {H0 : Hp} (hn : n = l.length) (sq : FzL K H0 a xs) (r : RMs K H0 l xs) : JI K Z (Itv K a n) ⟨l.reverse, []⟩ H0 := fun i S H t hS hk => by
  subst hn
  have sq' := (t.frz _ _ sq).sq
  refine ⟨fun v hv => ?_, fun hl => ?_⟩
  · have hi : i < l.length := by have := (List.getElem?_eq_some_iff.mp hv).1; simpa using this
    have hv' : l[l.length - 1 - i]? = some v := by rw [← hv, List.getElem?_reverse hi]
    obtain ⟨x, h1, h2⟩ := r.get hv'
    refine ⟨⟨hi, xs, x, sq', h1⟩, fun y H' ⟨eH, hy⟩ => ?_⟩
    subst eH
    have := hy xs sq'
    rw [h1] at this; cases this
    exact ⟨GK.refl, hS, RM.monoT t _ h2⟩
  · show l.length ≤ i
    simpa using hl
theorem ji_revT {a : Addr} {l : List MV} {xs : List V} {n : Nat} {H0 : Hp} (hn : n = l.length) (sq : SqT K H0 a xs) (r : RMs K H0 l xs) : JI K Z (RT.ItvT K a n) ⟨l.reverse, []⟩ H0 := fun i S H t hS hk => by
  subst hn
  have sq' := t.tup _ _ sq
  refine ⟨fun v hv => ?_, fun hl => ?_⟩
  · have hi : i < l.length := by have := (List.getElem?_eq_some_iff.mp hv).1; simpa using this
    have hv' : l[l.length - 1 - i]? = some v := by rw [← hv, List.getElem?_reverse hi]
    obtain ⟨x, h1, h2⟩ := r.get hv'
    refine ⟨⟨hi, xs, x, sq', h1⟩, fun y H' ⟨eH, hy⟩ => ?_⟩
    subst eH
    have := hy xs sq'
    rw [h1] at this; cases this
    exact ⟨GK.refl, hS, RM.monoT t _ h2⟩
  · show l.length ≤ i
    simpa using hl
/-- (i, x) of a list -/
def enumM : Nat → List MV → List MV
  | _, [] => []
  | n, v :: l => .tup [.int (n : Int), v] :: enumM (n + 1) l
theorem enumM_length : ∀ (n : Nat) (l : List MV), (enumM n l).length = l.length
  | _, [] => rfl
  | n, v :: l => by unfold enumM; rw [List.length_cons, List.length_cons, enumM_length]
theorem enumM_get : ∀ (n : Nat) (l : List MV) (i : Nat) (w : MV), (enumM n l)[i]? = some w → ∃ v, l[i]? = some v ∧ w = .tup [.int ((n + i : Nat) : Int), v]
  | n, [], i, w, h => by simp [enumM] at h
  | n, v :: l, 0, w, h => by simp [enumM] at h; exact ⟨v, rfl, by rw [← h]; rfl⟩
  | n, v :: l, i + 1, w, h => by
    obtain ⟨u, e1, e2⟩ := enumM_get (n + 1) l i w (by simpa [enumM] using h)
    refine ⟨u, by simpa using e1, ?_⟩
    rw [e2, show n + 1 + i = n + (i + 1) by omega]
theorem ji_enum {a : Addr} {l : List MV} {H0 : Hp} : JI K Z (Ite K a) ⟨enumM 0 l, [(a, l)]⟩ H0 := fun i S H t hS hk => by
  have e : lookL S a = some l := hk (a, l) (by simp)
  refine ⟨fun w hw => ?_, fun hl => ?_⟩
  · obtain ⟨v, hv, ew⟩ := enumM_get 0 l i w hw
    obtain ⟨xs, x, g1, h1, h2⟩ := look_at hS e hv
    refine ⟨⟨xs, x, g1, h1⟩, fun y H' ⟨T, x', ey, nT, eH, hy⟩ => ?_⟩
    have := hy xs g1
    rw [h1] at this; cases this
    subst eH
    have g : GK K S H S (upd H T (.tup [.int (i : Nat), x])) := GK.hid nT
    refine ⟨g, hS.hid nT, ?_⟩
    rw [ew, Nat.zero_add]
    unfold RM
    exact ⟨T, _, ey, .inl (.inl upd_same), RMs.cons (by unfold RM; rfl) (RMs.cons (h2.mono g) RMs.nil)⟩
  · obtain ⟨xs, g1, g2⟩ := look_sq hS e
    rw [enumM_length] at hl
    exact ⟨xs, g1, by rw [g2.length]; exact hl⟩
def zipM (l k : List MV) : List MV := (l.zip k).map fun p => MV.tup [p.1, p.2]
theorem zipM_get {l k : List MV} {i : Nat} {w : MV} (h : (zipM l k)[i]? = some w) : ∃ u v, l[i]? = some u ∧ k[i]? = some v ∧ w = .tup [u, v] := by
  unfold zipM at h
  rw [List.getElem?_map] at h
  cases e : (l.zip k)[i]? with
  | none => rw [e] at h; cases h
  | some p =>
    rw [e] at h
    obtain ⟨u, v⟩ := p
    have := List.getElem?_zip_eq_some.mp e
    exact ⟨u, v, this.1, this.2, by cases h; rfl⟩
theorem zipM_length (l k : List MV) : (zipM l k).length = min l.length k.length := by simp [zipM]
theorem pair_rel {S : Sto} {H : Hp} {T : Addr} {x y : V} {u v : MV} (hS : RS K Z S H) (nT : H T = none) (r1 : RM K H u x) (r2 : RM K H v y) :
    GK K S H S (upd H T (.tup [x, y])) ∧ RS K Z S (upd H T (.tup [x, y])) ∧ RM K (upd H T (.tup [x, y])) (.tup [u, v]) (.ref T) := by
  have g : GK K S H S (upd H T (.tup [x, y])) := GK.hid nT
  refine ⟨g, hS.hid nT, ?_⟩
  unfold RM
  exact ⟨T, _, rfl, .inl (.inl upd_same), RMs.cons (r1.mono g) (RMs.cons (r2.mono g) RMs.nil)⟩
theorem ji_zip {a b : Addr} {l k : List MV} {H0 : Hp} : JI K Z (Itz K a b) ⟨zipM l k, [(a, l), (b, k)]⟩ H0 := fun i S H t hS hk => by
  have e : lookL S a = some l := hk (a, l) (by simp)
  have e' : lookL S b = some k := hk (b, k) (by simp)
  refine ⟨fun w hw => ?_, fun hl => ?_⟩
  · obtain ⟨u, v, hu, hv, ew⟩ := zipM_get hw
    obtain ⟨xs, x, g1, h1, h2⟩ := look_at hS e hu
    obtain ⟨ys, y, g3, h3, h4⟩ := look_at hS e' hv
    refine ⟨⟨xs, ys, x, y, g1, g3, h1, h3⟩, fun z H' ⟨T, x', y', ez, nT, eH, hx, hy⟩ => ?_⟩
    have q1 := hx xs g1
    have q2 := hy ys g3
    rw [h1] at q1; cases q1
    rw [h3] at q2; cases q2
    subst eH; subst ez; subst ew
    exact pair_rel hS nT h2 h4
  · obtain ⟨xs, g1, g2⟩ := look_sq hS e
    obtain ⟨ys, g3, g4⟩ := look_sq hS e'
    rw [zipM_length] at hl
    have hl : min l.length k.length ≤ i := hl
    exact ⟨xs, ys, g1, g3, by rw [g2.length, g4.length]; omega⟩
theorem ji_zipT {a b : Addr} {l k : List MV} {xs ys : List V} {H0 : Hp} (s1 : SqT K H0 a xs) (r1 : RMs K H0 l xs) (s2 : SqT K H0 b ys) (r2 : RMs K H0 k ys) : JI K Z (RZ.ItzT K a b) ⟨zipM l k, []⟩ H0 := fun i S H t hS hk => by
  have s1' := t.tup _ _ s1
  have s2' := t.tup _ _ s2
  refine ⟨fun w hw => ?_, fun hl => ?_⟩
  · obtain ⟨u, v, hu, hv, ew⟩ := zipM_get hw
    obtain ⟨x, h1, h2⟩ := r1.get hu
    obtain ⟨y, h3, h4⟩ := r2.get hv
    refine ⟨⟨xs, ys, x, y, s1', s2', h1, h3⟩, fun z H' ⟨T, x', y', ez, nT, eH, hx, hy⟩ => ?_⟩
    have q1 := hx xs s1'
    have q2 := hy ys s2'
    rw [h1] at q1; cases q1
    rw [h3] at q2; cases q2
    subst eH; subst ez; subst ew
    exact pair_rel hS nT (RM.monoT t _ h2) (RM.monoT t _ h4)
  · rw [zipM_length] at hl
    have hl : min l.length k.length ≤ i := hl
    exact ⟨xs, ys, s1', s2', by rw [r1.length, r2.length]; omega⟩
end
def mIter (m : ME) : MI := fun ρ S R => m ρ S fun x S1 => match x with
  | .tup l => R ⟨l, []⟩ S1
  | .ref a => (match lookL S1 a with
    | some l => R ⟨l, [(a, l)]⟩ S1
    | none => False)
  | .frz l => R ⟨l, []⟩ S1
  | _ => False
def mRng1 (ms : MA) : MI := fun ρ S R => ms ρ S fun vs S1 => match vs with
  | [.int j] => (-(2 ^ 62) ≤ j ∧ j < 2 ^ 62) ∧ R ⟨rngM 0 j.toNat, []⟩ S1
  | _ => False
def mRng2 (ms : MA) : MI := fun ρ S R => ms ρ S fun vs S1 => match vs with
  | [.int i, .int j] => (-(2 ^ 62) ≤ i ∧ i < 2 ^ 62 ∧ -(2 ^ 62) ≤ j ∧ j < 2 ^ 62) ∧ R ⟨rngM i (j - i).toNat, []⟩ S1
  | _ => False
def mReversed (m : ME) : MI := fun ρ S R => m ρ S fun x S1 => match x with
  | .tup l => R ⟨l.reverse, []⟩ S1
  | .ref a => (match lookL S1 a with
    | some l => R ⟨l.reverse, [(a, l)]⟩ S1
    | none => False)
  | .frz l => R ⟨l.reverse, []⟩ S1
  | _ => False
section
variable {X : Cx} {Z : List Addr} {e a b tg iter : Expr} {m ma mb : ME} {pos p : Pos} {es : List Expr} {mas : MA}
/-- a list or a tuple -/
def iSeq (K : PySem.W.Frag) (te : TE) : TI := fun σ H R => te σ H fun x H1 => ∃ d : Addr, x = .ref d ∧ ((∃ xs, SqL K H1 d xs ∧ R (Itl K d) H1) ∨ ∃ xs, SqT K H1 d xs ∧ R (Itt K d) H1)
theorem pi_seq {te : TE} (h : PE X e te) : PI X tg e (iSeq X.K te) :=
  ⟨fun pins s σ H R I hw => thn (h.run pins s σ H _ I hw) fun v s1 ⟨x, H1, I1, r1, q1⟩ => by
    obtain ⟨d, ex, q1⟩ := q1
    subst ex
    cases r1
    rcases q1 with ⟨xs, sq, q⟩ | ⟨xs, sq, q⟩
    · obtain ⟨its, _, pl, _⟩ := I1.list sq
      exact wpAny_pyIter_list pl.isList (pi_one I1 _ (turn_list d _) ⟨_, Heap.get?_push_size _ rfl, rfl, rfl⟩ q)
    · obtain ⟨its, _, pl, _⟩ := I1.tuple sq
      exact wpAny_pyIter_tuple (show s1.heap.IsTuple d its.toArray from pl) (pi_one I1 _ (turn_tuple d _) ⟨_, Heap.get?_push_size _ rfl, rfl, rfl⟩ q)⟩
theorem ei_of (h : EE X Z e m) : EI X Z tg e (mIter m) := ⟨_, pi_seq h.pe, fun σ H ρ S R R' hE hS hm hQ => by
  refine ⟨ρ, S, _, hE, hS, hm, fun v H1 ⟨x, S1, t1, r1, s1, q1⟩ => ?_⟩
  cases x with
  | tup l =>
    unfold RM at r1
    obtain ⟨d, xs, ex, sq, rs⟩ := r1
    exact ⟨d, ex, .inr ⟨xs, sq, hQ _ _ ⟨_, S1, t1, s1, ji_tup sq rs, q1⟩⟩⟩
  | ref d =>
    unfold RM at r1
    dsimp only at q1
    split at q1
    · rename_i l el
      obtain ⟨xs, g1, g2⟩ := look_sq s1 el
      exact ⟨d, r1, .inl ⟨xs, g1, hQ _ _ ⟨_, S1, t1, s1, ji_list, q1⟩⟩⟩
    · exact q1.elim
  | frz l =>
    unfold RM at r1
    obtain ⟨d, xs, ex, sq, rs⟩ := r1
    exact ⟨d, ex, .inl ⟨xs, sq.sq, hQ _ _ ⟨_, S1, t1, s1, ji_frz sq rs, q1⟩⟩⟩
  | _ => exact False.elim q1⟩
theorem ei_rng1 {p pos : Pos} (hg : Gl X "range") (hm : X.mg "range" = none) (ha : EA X Z [a] mas) (hs : starEach [a] X.env = [(false, eval a X.env)] := by kernel_rfl) : EI X Z tg (.Call (.Name "range" p) [a] [] pos) (mRng1 mas) :=
  ⟨_, pi_range1 hg hm ha.pa hs, fun σ H ρ S R R' hE hS hm hQ => by
    refine ⟨ρ, S, _, hE, hS, hm, fun vs H1 ⟨ms, S1, t1, r1, s1, q1⟩ => ?_⟩
    dsimp only at q1
    split at q1
    · rename_i j
      obtain ⟨v, rfl, r⟩ := rms1 r1
      unfold RM at r
      subst r
      exact ⟨j, rfl, q1.1.1, q1.1.2, hQ _ _ ⟨_, S1, t1, s1, ji_range, q1.2⟩⟩
    · exact q1.elim⟩
theorem ei_rng2 {p pos : Pos} (hg : Gl X "range") (hm : X.mg "range" = none) (ha : EA X Z [a, b] mas) (hs : starEach [a, b] X.env = [(false, eval a X.env), (false, eval b X.env)] := by kernel_rfl) (hs2 : starEach [b] X.env = [(false, eval b X.env)] := by kernel_rfl) :
    EI X Z tg (.Call (.Name "range" p) [a, b] [] pos) (mRng2 mas) :=
  ⟨_, pi_range2 hg hm ha.pa hs hs2, fun σ H ρ S R R' hE hS hm hQ => by
    refine ⟨ρ, S, _, hE, hS, hm, fun vs H1 ⟨ms, S1, t1, r1, s1, q1⟩ => ?_⟩
    dsimp only at q1
    split at q1
    · rename_i i j
      obtain ⟨v, u, rfl, r, r2⟩ := rms2 r1
      unfold RM at r r2
      subst r; subst r2
      exact ⟨i, j, rfl, q1.1, hQ _ _ ⟨_, S1, t1, s1, ji_range, q1.2⟩⟩
    · exact q1.elim⟩
theorem ei_rev {p pos : Pos} (hg : Gl X "reversed") (hm : X.mg "reversed" = none) (he : EE X Z e m) (hs : starEach [e] X.env = (false, eval e X.env) :: starEach [] X.env := by kernel_rfl) : EI X Z tg (.Call (.Name "reversed" p) [e] [] pos) (mReversed m) :=
  ⟨_, RT.pi_revA hg hm he.pe hs, fun σ H ρ S R R' hE hS hm hQ => by
    refine ⟨ρ, S, _, hE, hS, hm, fun v H1 ⟨x, S1, t1, r1, s1, q1⟩ => ?_⟩
    cases x with
    | tup l =>
      unfold RM at r1
      obtain ⟨d, xs, ex, sq, rs⟩ := r1
      exact ⟨d, xs, ex, .inr ⟨sq, hQ _ _ ⟨_, S1, t1, s1, ji_revT rs.length sq rs, q1⟩⟩⟩
    | ref d =>
      unfold RM at r1
      dsimp only at q1
      split at q1
      · rename_i l el
        obtain ⟨xs, g1, g2⟩ := look_sq s1 el
        exact ⟨d, xs, r1, .inl ⟨g1, hQ _ _ ⟨_, S1, t1, s1, ji_rev g2.length, q1⟩⟩⟩
      · exact q1.elim
    | frz l =>
      unfold RM at r1
      obtain ⟨d, xs, ex, sq, rs⟩ := r1
      exact ⟨d, xs, ex, .inl ⟨sq.sq, hQ _ _ ⟨_, S1, t1, s1, ji_revF rs.length sq rs, q1⟩⟩⟩
    | _ => exact False.elim q1⟩
/-! ### for -/
def forL (k : List (Addr × List MV)) (pt : Pat) (body : MS) (D : MD) : List MV → Env → Sto → Prop
  | [], ρ, S => keepOk k S ∧ D.nx ρ S
  | v :: r, ρ, S => keepOk k S ∧ bindP pt v S ρ fun ρ' => body { D with nx := forL k pt body D r, ct := forL k pt body D r, bk := D.nx } ρ' S
def msFor (mi : MI) (pt : Pat) (body : MS) : MS := fun D ρ S => mi ρ S fun I S1 => forL I.keep pt body D I.vs ρ S1
theorem es_for {body : List Stmt} {mi : MI} {pt : Pat} {mb : MS} (hp : PassesOwn (model X.prog X.w) X.A X.env X.xe) (hc : X.calm = true) (hi : EI X Z tg iter mi) (hg : EG X Z tg pt) (hb : EB X Z body mb) (hs : ∀ x, foldedSetIterable iter X.env x = pure x := by intro _; kernel_rfl) :
    ES X Z (.For tg iter body [] pos) (msFor mi pt mb) := by
  obtain ⟨wi, w1, w2⟩ := hi.pi
  refine ⟨PS.imp (ps_for hp hc w1 hg.pg hb.pss hs) fun D σ H ⟨ρ, S, D', hE, hS, hm, h1, h2, h3, h4⟩ => ?_⟩
  refine w2 σ H ρ S _ _ hE hS hm fun J H1 ⟨I, S1, t1, s1, j1, q1⟩ => ?_
  refine ⟨fun i n σ2 H2 => n = I.vs.length - i ∧ i ≤ I.vs.length ∧ ∃ ρ2 S2, GK X.K S H S2 H2 ∧ TK X.K H1 H2 ∧ RE X.K H2 ρ2 σ2 ∧ RS X.K Z S2 H2 ∧ forL I.keep pt mb D' (I.vs.drop i) ρ2 S2, ⟨_, rfl, Nat.zero_le _, ρ, S1, t1, TK.refl, hE.mono t1, s1, q1⟩, ?_⟩
  rintro i n σ2 H2 ⟨rfl, hi, ρ2, S2, g2, k2, e2, s2, q2⟩
  by_cases hlt : i < I.vs.length
  · rw [List.drop_eq_getElem_cons hlt] at q2
    unfold forL at q2
    obtain ⟨kp, q2⟩ := q2
    obtain ⟨go, yl⟩ := (j1 i S2 H2 k2 s2 kp).1 _ (List.getElem?_eq_getElem hlt)
    refine .inr ⟨go, fun σ3 H3 => ∃ ρ3 S3, GK X.K S H S3 H3 ∧ TK X.K H1 H3 ∧ RE X.K H3 ρ3 σ3 ∧ RS X.K Z S3 H3 ∧ forL I.keep pt mb D' (I.vs.drop (i + 1)) ρ3 S3, fun σ3 H3 ⟨ρ3, S3, a1, a2, a3, a4, a5⟩ => ⟨_, by omega, rfl, hlt, ρ3, S3, a1, a2, a3, a4, a5⟩, fun x H3 hy => ?_⟩
    obtain ⟨g3, s3, r3⟩ := yl x H3 hy
    refine ⟨_, ρ2, S2, _, r3, e2.mono g3, s3, q2, fun ρ4 σ4 e4 _ _ b4 => ?_⟩
    have t4 : GK X.K S H S2 H3 := g2.trans g3
    refine ⟨ρ4, S2, _, e4, s3, b4, fun σ5 H5 ⟨ρ5, S5, g5, e5, s5, q5⟩ => ⟨ρ5, S5, t4.trans g5, k2.trans (g3.tk.trans g5.tk), e5, s5, q5⟩, fun v H5 q => h2 _ _ (q.base t4), fun σ5 H5 q => h1 _ _ (q.base t4),
      fun σ5 H5 ⟨ρ5, S5, g5, e5, s5, q5⟩ => ⟨ρ5, S5, t4.trans g5, k2.trans (g3.tk.trans g5.tk), e5, s5, q5⟩⟩
  · have ei : i = I.vs.length := by omega
    subst ei
    rw [List.drop_length] at q2
    unfold forL at q2
    obtain ⟨kp, q2⟩ := q2
    exact .inl ⟨(j1 _ S2 H2 k2 s2 kp).2 (Nat.le_refl _), h1 _ _ ⟨ρ2, S2, g2, e2, s2, q2⟩⟩
/-! ### while -/
def whileN (c : MT) (body : MS) (D : MD) : Nat → Env → Sto → Prop
  | 0, _, _ => False
  | n + 1, ρ, S => c ρ S fun b S1 => match b with
    | true => body { D with nx := whileN c body D n, ct := whileN c body D n, bk := D.nx } ρ S1
    | false => D.nx ρ S1
def msWhile (c : MT) (body : MS) : MS := fun D ρ S => ∃ n, whileN c body D n ρ S
theorem es_while {c : Expr} {body : List Stmt} {mc : MT} {mb : MS} (hp : PassesOwn (model X.prog X.w) X.A X.env X.xe) (hc : ET X Z c mc) (hb : EB X Z body mb) : ES X Z (.While c body [] pos) (msWhile mc mb) := by
  refine ⟨PS.imp (ps_while hp hc.pt hb.pss) fun D σ H ⟨ρ, S, D', hE, hS, ⟨n0, hm⟩, h1, h2, h3, h4⟩ => ?_⟩
  refine ⟨fun n σ2 H2 => ∃ ρ2 S2, GK X.K S H S2 H2 ∧ RE X.K H2 ρ2 σ2 ∧ RS X.K Z S2 H2 ∧ whileN mc mb D' n ρ2 S2, ⟨n0, ρ, S, GK.refl, hE, hS, hm⟩, ?_⟩
  rintro n σ2 H2 ⟨ρ2, S2, g2, e2, s2, q2⟩
  cases n with
  | zero => exact False.elim q2
  | succ n =>
    unfold whileN at q2
    refine ⟨ρ2, S2, _, e2, s2, q2, fun b H3 ⟨S3, g3, s3, q3⟩ => ?_⟩
    have t3 : GK X.K S H S3 H3 := g2.trans g3
    cases b with
    | true =>
      dsimp only at q3 ⊢
      rw [if_pos rfl]
      refine ⟨fun σ4 H4 => ∃ ρ4 S4, GK X.K S H S4 H4 ∧ RE X.K H4 ρ4 σ4 ∧ RS X.K Z S4 H4 ∧ whileN mc mb D' n ρ4 S4, fun σ4 H4 h => ⟨n, Nat.lt_succ_self n, h⟩, ?_⟩
      refine ⟨ρ2, S3, _, e2.mono g3, s3, q3, fun σ5 H5 ⟨ρ5, S5, g5, e5, s5, q5⟩ => ⟨ρ5, S5, t3.trans g5, e5, s5, q5⟩, fun v H5 q => h2 _ _ (q.base t3), fun σ5 H5 q => h1 _ _ (q.base t3),
        fun σ5 H5 ⟨ρ5, S5, g5, e5, s5, q5⟩ => ⟨ρ5, S5, t3.trans g5, e5, s5, q5⟩⟩
    | false =>
      dsimp only at q3 ⊢
      rw [if_neg Bool.false_ne_true]
      exact h1 _ _ ⟨ρ2, S3, t3, e2.mono g3, s3, q3⟩
/-! ### comprehensions -/
def lcL (k : List (Addr × List MV)) (pt : Pat) (tt : MT) (te : ME) (ρ : Env) (Q : List MV → Sto → Prop) : List MV → List MV → Sto → Prop
  | [], acc, S => keepOk k S ∧ Q acc S
  | v :: r, acc, S => keepOk k S ∧ bindP pt v S ρ fun ρ' => tt ρ' S fun b S1 => match b with
    | true => te ρ' S1 fun y S2 => acc.length < sizeLine ∧ lcL k pt tt te ρ Q r (acc ++ [y]) S2
    | false => lcL k pt tt te ρ Q r acc S1
def mLc (mi : MI) (pt : Pat) (tt : MT) (te : ME) (vs : List Nat) : ME := fun ρ S R => mi ρ S fun I S1 => lcL I.keep pt tt te (wipeM ρ vs) (fun l S2 => newL l S2 R) I.vs [] S1
def mYes : MT := fun _ S R => R true S
structure ETs (X : Cx) (Z : List Addr) (ifs : List Expr) (m : MT) : Prop where
  pts : PTs X ifs (tMT X.K Z m)
theorem PTs.imp {ifs : List Expr} {t t' : TT} (h : PTs X ifs t) (k : ∀ σ H Q, t' σ H Q → t σ H Q) : PTs X ifs t' := ⟨fun pins s σ H Q I hw => h.run pins s σ H Q I (k σ H Q hw)⟩
theorem ets_nil : ETs X Z [] mYes := ⟨PTs.imp pts_nil fun σ H Q ⟨ρ, S, R, hE, hS, hm, hQ⟩ => hQ _ _ ⟨S, GK.refl, hS, hm⟩⟩
theorem ets_one {c : Expr} {mt : MT} (h : ET X Z c mt) : ETs X Z [c] mt := ⟨pts_one h.pt⟩
theorem wipe_eq {vs : List Nat} {σ σ' : L2.St} (hl : σ'.length = σ.length) (h : ∀ j, j ∉ vs → σ'[j]? = σ[j]?) : L2.wipe σ' vs = L2.wipe σ vs := by
  apply List.ext_getElem?
  intro j
  have key : ∀ (τ : L2.St) (vs : List Nat), j ∈ vs → j < τ.length → (L2.wipe τ vs)[j]? = some none := by
    intro τ vs
    induction vs with
    | nil => intro h _; cases h
    | cons v vs ih =>
      intro hj hlt
      unfold L2.wipe
      by_cases e : v = j
      · subst e
        rw [List.getElem?_set_self (by rw [wipe_length]; exact hlt)]
      · rw [List.getElem?_set_ne e]
        exact ih ((List.mem_cons.mp hj).resolve_left (fun z => e z.symm)) hlt
  by_cases hj : j ∈ vs
  · by_cases hlt : j < σ.length
    · rw [key σ' vs hj (by rw [hl]; exact hlt), key σ vs hj hlt]
    · rw [List.getElem?_eq_none (by rw [wipe_length]; omega), List.getElem?_eq_none (by rw [wipe_length]; omega)]
  · rw [wipe_out hj, wipe_out hj]
    exact h j hj
theorem wipe_wipe (σ : L2.St) (vs : List Nat) : L2.wipe (L2.wipe σ vs) vs = L2.wipe σ vs := by
  refine wipe_eq (wipe_length σ vs) fun j hj => wipe_out hj
theorem RS.showL {K : PySem.W.Frag} {S : Sto} {H : Hp} {p : Addr} {l : List MV} {xs : List V} (r : RS K Z S H) (h : H p = some (.lst xs)) (q : RMs K H l xs) : RS K Z (supd S p (.lst l)) H :=
  ⟨fun b u e => by
    by_cases hb : b = p
    · subst hb; rw [supd_same] at e; cases e; exact ⟨xs, h, q⟩
    · rw [supd_ne hb] at e; exact r.ob b u e, r.tab⟩
theorem GK.over {K : PySem.W.Frag} {S S' : Sto} {H H' : Hp} {p : Addr} {o : HO} (g : GK K S H S' H') (hp : H p = none) (tk : TK K H' (upd H' p o)) : GK K S H S' (upd H' p o) :=
  ⟨g.tk.trans tk, fun a u n e nt => by
    obtain ⟨e1, n1⟩ := g.fr a u n e nt
    exact ⟨by rw [upd_ne (ne_of_none e hp)]; exact e1, n1⟩⟩
theorem GK.showL {K : PySem.W.Frag} {S S' : Sto} {H H' : Hp} {p : Addr} {l : List MV} (g : GK K S H S' H') (hp : H p = none) : GK K S H (supd S' p (.lst l)) H' :=
  ⟨g.tk, fun a u n e nt => by
    obtain ⟨e1, n1⟩ := g.fr a u n e nt
    exact ⟨e1, by rw [supd_ne (ne_of_none e hp)]; exact n1⟩⟩
theorem lc_read {K : PySem.W.Frag} {mi : MI} {pt : Pat} {tt : MT} {te : ME} {vs : List Nat} {wi : TI} {σ : L2.St} {H : Hp} {ρ : Env} {S : Sto} {R : MK} {Q : VK}
    (w2 : ∀ σ H ρ S R R', RE K H ρ σ → RS K Z S H → mi ρ S R → (∀ J H', (∃ I S', GK K S H S' H' ∧ RS K Z S' H' ∧ JI K Z J I H' ∧ R I S') → R' J H') → wi σ H R') (hsl : ∀ j ∈ pt.slots, j ∈ vs)
    (hE : RE K H ρ σ) (hS : RS K Z S H) (hm : mLc mi pt tt te vs ρ S R) (hQ : ∀ v H', MQ K Z S H R v H' → Q v H') : tLc wi (gP K Z pt) (tMT K Z tt) (tM K Z te) vs σ H Q := by
  refine w2 σ H ρ S _ _ hE hS hm fun J H1 ⟨I, S1, t1, s1, j1, q1⟩ D hD => ?_
  refine ⟨fun i n H2 => n = I.vs.length - i ∧ i ≤ I.vs.length ∧ ∃ (acc : List MV) (xs : List V) (S2 : Sto), S2 D = none ∧ H2 D = some (.lst xs) ∧ RMs K H2 acc xs ∧ RS K Z S2 H2 ∧ GK K S1 H1 S2 H2 ∧ lcL I.keep pt tt te (wipeM ρ vs) (fun l S2 => newL l S2 R) (I.vs.drop i) acc S2,
    ⟨_, rfl, Nat.zero_le _, [], [], S1, s1.free hD, upd_same, RMs.nil, s1.hid hD, GK.hid hD, q1⟩, ?_⟩
  rintro i n H2 ⟨rfl, hi, acc, xs, S2, nD, eD, ra, s2, g2, q2⟩
  by_cases hlt : i < I.vs.length
  · rw [List.drop_eq_getElem_cons hlt] at q2
    unfold lcL at q2
    obtain ⟨kp, q2⟩ := q2
    obtain ⟨go, yl⟩ := (j1 i S2 H2 g2.tk s2 kp).1 _ (List.getElem?_eq_getElem hlt)
    refine .inr ⟨go, fun H3 => ∃ (acc : List MV) (xs : List V) (S3 : Sto), S3 D = none ∧ H3 D = some (.lst xs) ∧ RMs K H3 acc xs ∧ RS K Z S3 H3 ∧ GK K S1 H1 S3 H3 ∧ lcL I.keep pt tt te (wipeM ρ vs) (fun l S2 => newL l S2 R) (I.vs.drop (i + 1)) acc S3,
      fun H3 ⟨a1, a2, a3, a4⟩ => ⟨_, by omega, rfl, hlt, a1, a2, a3, a4⟩, fun x H3 hy => ?_⟩
    obtain ⟨g3, s3, r3⟩ := yl x H3 hy
    have e3 : RE K H3 (wipeM ρ vs) (L2.wipe σ vs) := ((hE.mono t1).mono (g2.trans g3)).wiped vs
    refine ⟨_, wipeM ρ vs, S2, _, r3, e3, s3, q2, fun ρ4 σ4 e4 f4 l4 b4 => ⟨?_, ?_⟩⟩
    · rw [← wipe_wipe σ vs]
      exact wipe_eq l4 fun j hj => f4 j fun z => hj (hsl j z)
    · refine ⟨ρ4, S2, _, e4, s3, b4, fun b H4 ⟨S4, g4, s4, q4⟩ => ?_⟩
      have g34 := g3.trans g4
      cases b with
      | true =>
        dsimp only at q4 ⊢
        rw [if_pos rfl]
        refine ⟨ρ4, S4, _, e4.mono g4, s4, q4, fun y H5 ⟨my, S5, g5, r5, s5, hl, q5⟩ => ?_⟩
        have g35 := g34.trans g5
        obtain ⟨k1, k2⟩ := g35.fr D _ nD eD (fun ps z => by cases z)
        have tk := TK.lst (K := K) (o := .lst (xs ++ [y])) k1
        refine ⟨xs, k1, by rw [ra.length]; exact hl, acc ++ [my], xs ++ [y], S5, k2, upd_same, RMs.monoT tk _ ((ra.mono g35).append (RMs.cons r5 RMs.nil)), s5.hidW k1 k2, (g2.trans g35).over hD tk, q5⟩
      | false =>
        dsimp only at q4 ⊢
        rw [if_neg Bool.false_ne_true]
        obtain ⟨k1, k2⟩ := g34.fr D _ nD eD (fun ps z => by cases z)
        exact ⟨acc, xs, S4, k2, k1, ra.mono g34, s4, g2.trans g34, q4⟩
  · have ei : i = I.vs.length := by omega
    subst ei
    rw [List.drop_length] at q2
    unfold lcL at q2
    obtain ⟨kp, q2⟩ := q2
    refine .inl ⟨(j1 _ S2 H2 g2.tk s2 kp).2 (Nat.le_refl _), hQ _ _ ⟨.ref D, _, t1.trans (g2.showL (l := acc) hD), by unfold RM; rfl, s2.showL eD ra, q2 D nD⟩⟩
section
variable {elt : Expr} {ifs : List Expr} {scope : Scope} {own : List (Str × Nat)} {vs : List Nat} {mi : MI} {pt : Pat} {tt : MT} {te : ME}
theorem ee_lc (hc : X.calm = true) (hN : X.N.Nodup) (hi : EI X Z tg iter mi) (ok : BlkOk X.N X.env.scope scope own)
    (hg : ∀ (s : Shared) (H : Hp) (C : Addr) (cl : List (Str × Addr)) (fp : List Addr), EG (X.blk s H scope (compEnvC scope cl C X.env) fp) Z tg pt)
    (ht : ∀ (s : Shared) (H : Hp) (C : Addr) (cl : List (Str × Addr)) (fp : List Addr), ETs (X.blk s H scope (compEnvC scope cl C X.env) fp) Z ifs tt)
    (he : ∀ (s : Shared) (H : Hp) (C : Addr) (cl : List (Str × Addr)) (fp : List Addr), EE (X.blk s H scope (compEnvC scope cl C X.env) fp) Z elt te)
    (hvs : own.map (·.2) = vs := by rfl) (hsl : ∀ j ∈ pt.slots, j ∈ vs := by decide) (hs : ∀ x, foldedSetIterable iter X.env x = pure x := by intro _; kernel_rfl) : EE X Z (.ListComp elt [⟨tg, iter, ifs, 0⟩] scope pos) (mLc mi pt tt te vs) := by
  subst hvs
  obtain ⟨wi, w1, w2⟩ := hi.pi
  exact ee_of (pe_lc hc hN w1 ok (fun a b c d f => (hg a b c d f).pg) (fun a b c d f => (ht a b c d f).pts) (fun a b c d f => (he a b c d f).pe) hs) fun σ H ρ S R hE hS hm => lc_read w2 hsl hE hS hm fun v H' q => q
theorem es_setlc {i : Nat} {y : Str} {py spos : Pos} (hc : X.calm = true) (hN : X.N.Nodup) (hy : X.N[i]? = some y) (hyl : X.env.scope.names.lookup y = some .local)
    (hsw : swapsWith (.ListComp elt [⟨tg, iter, ifs, 0⟩] scope pos) (some (.Name y py)) spos.line X.env = pure true) (hi : EI X Z tg iter mi) (ok : BlkOk X.N X.env.scope scope own)
    (hg : ∀ (s : Shared) (H : Hp) (C : Addr) (cl : List (Str × Addr)) (fp : List Addr), EG (X.blk s H scope (compEnvC scope cl C X.env) fp) Z tg pt)
    (ht : ∀ (s : Shared) (H : Hp) (C : Addr) (cl : List (Str × Addr)) (fp : List Addr), ETs (X.blk s H scope (compEnvC scope cl C X.env) fp) Z ifs tt)
    (he : ∀ (s : Shared) (H : Hp) (C : Addr) (cl : List (Str × Addr)) (fp : List Addr), EE (X.blk s H scope (compEnvC scope cl C X.env) fp) Z elt te)
    (hvs : own.map (·.2) = vs := by rfl) (hsl : ∀ j ∈ pt.slots, j ∈ vs := by decide) (hs : ∀ x, foldedSetIterable iter X.env x = pure x := by intro _; kernel_rfl) :
    ES X Z (.Assign [.Name y py] (.ListComp elt [⟨tg, iter, ifs, 0⟩] scope pos) spos) (msSet i (mLc mi pt tt te vs)) := by
  subst hvs
  obtain ⟨wi, w1, w2⟩ := hi.pi
  exact ⟨PS.imp (ps_setLc hc hN hy hyl hsw w1 ok (fun a b c d f => (hg a b c d f).pg) (fun a b c d f => (ht a b c d f).pts) (fun a b c d f => (he a b c d f).pe) hs) fun D σ H ⟨ρ, S, D', hE, hS, hm, h1, h2, h3, h4⟩ =>
    lc_read w2 hsl hE hS hm fun v H1 ⟨x, S1, t1, r1, s1, q1⟩ => h1 _ _ ⟨_, S1, t1, (hE.mono t1).set r1, s1, q1⟩⟩
end
end
/-! ### a def by its body -/
def startM (n : Nat) (ms : List MV) : Env := ms.map some ++ List.replicate (n - ms.length) none
theorem start_rel {K : PySem.W.Frag} {H : Hp} {N : List Str} {ms : List MV} {vs : List V} (r : RMs K H ms vs) : RE K H (startM N.length ms) (L2.start N vs) := by
  refine ⟨?_, fun i m h => ?_⟩
  · unfold startM L2.start
    simp [r.length]
  · unfold startM at h
    unfold L2.start
    by_cases hi : i < ms.length
    · rw [List.getElem?_append_left (by simpa using hi), List.getElem?_map] at h
      rw [List.getElem?_append_left (by simpa [r.length] using hi), List.getElem?_map]
      cases e : ms[i]? with
      | none => rw [e] at h; cases h
      | some m' =>
        rw [e] at h
        cases h
        obtain ⟨x, e1, e2⟩ := r.get e
        exact ⟨x, by rw [e1]; rfl, e2⟩
    · rw [List.getElem?_append_right (by simpa using hi)] at h
      have := List.mem_of_getElem? h
      simp at this
/-- the reading of a def: np parameters, n names, its body -/
def defW (np n : Nat) (body : MS) : MW := fun ms S R => ms.length = np ∧ body { nx := fun _ S' => dropK R .non S', rt := dropK R } (startM n ms) S
section
variable {P : Program} {w : World} {K : PySem.W.Frag} {mg : Str → Option Value} {base : Heap} {Z : List Addr} {x qual : Str} {params : Arguments} {body : List Stmt} {scope : Scope} {f : Addr} {fd : FuncData}
theorem fn_sp {N ps : List Str} {k : Nat} {mb : MS} {dvs : List V} {kws : List (Str × V)} (F : FunD K x qual params body scope dvs kws f fd) (Sc : FnScope N ps scope)
    (hb : ∀ (cdv : Value) (A : Around) (outer : List PySem.Env) (s : Shared) (H : Hp) (E : XK), Room k (A.deeper (envOfC qual scope s.heap.objs.size f cdv)) → EB (cxOf CX0 P w K mg base N qual scope f cdv A outer s H E).nox Z body mb) :
    FnOk P w K mg base CX0 (k + 1) f fd ps (spM K Z ps.length (defW ps.length N.length mb)) := by
  refine F.ok Sc (fun vs H Q E h => h.1) fun cdv A outer s H vs Q E hr h => ?_
  obtain ⟨hl, ms, S, R, rm, hS, ⟨hn, hm⟩, hQ⟩ := h
  refine ⟨_, PSs.nox (hb cdv A outer s H E hr).pss, startM N.length ms, S, _, start_rel rm, hS, hm, fun σ' H' ⟨ρ', S', t, e', s', q⟩ => hQ _ _ (MQ.drop ⟨.non, S', t, by unfold RM; rfl, s', q⟩), fun v H' q => hQ _ _ (MQ.drop q), fun σ' H' ⟨ρ', S', t, e', s', q⟩ => False.elim q, fun σ' H' ⟨ρ', S', t, e', s', q⟩ => False.elim q⟩
theorem cal_mk {N ps : List Str} {k : Nat} {mb : MS} (F : FunD K x qual params body scope [] [] f fd) (Sc : FnScope N ps scope) (bnd : Binds K fd ps [])
    (hb : ∀ (cdv : Value) (A : Around) (outer : List PySem.Env) (s : Shared) (H : Hp) (E : XK), Room k (A.deeper (envOfC qual scope s.heap.objs.size f cdv)) → EB (cxOf CX0 P w K mg base N qual scope f cdv A outer s H E).nox Z body mb) :
    Cal P w K mg base Z f ps (k + 1) (defW ps.length N.length mb) :=
  ⟨⟨fd, fn_sp F Sc hb, F.kp, bnd⟩, fun ms S R h => h.1⟩
end
end Mv

set_option Elab.async false
set_option linter.all false
set_option maxRecDepth 100000
set_option maxHeartbeats 4000000
namespace Mv
open PySem PySem.Spec PyProof.Rows L2
theorem hu1 {A : Around} {k : Nat} (hr : Room k A) : A.units + 1 < cLine := by have := hr.un; omega
theorem hu64 {A : Around} {k : Nat} (hr : Room k A) : A.units + 64 < cLine := by have := hr.un; omega
theorem hu65 {A : Around} {k : Nat} (hr : Room k A) : A.units + 65 < cLine := by have := hr.un; omega
section
variable {X : Cx} {Z : List Addr} {pos : Pos} {x : Str}
theorem glk (h : X.env.kindOf x = some .globalImplicit) : Gl X x := h
theorem evl (i : Nat) (hN : X.N[i]? = some x := by kernel_rfl) (hv : X.env.scope.names.lookup x = some .local := by kernel_rfl) (hd : (x == ("__debug__" : Str)) = false := by kernel_rfl) (hcd : (x == ("__classdict__" : Str)) = false := by kernel_rfl) : EE X Z (.Name x pos) (mVar i) :=
  ee_var (pe_var hN (.inl hv) hd hcd)
theorem evc (i : Nat) (hN : X.N[i]? = some x := by kernel_rfl) (hv : X.env.scope.names.lookup x = some .cell := by kernel_rfl) (hd : (x == ("__debug__" : Str)) = false := by kernel_rfl) (hcd : (x == ("__classdict__" : Str)) = false := by kernel_rfl) : EE X Z (.Name x pos) (mVar i) :=
  ee_var (pe_var hN (.inr (.inl hv)) hd hcd)
/-- a module's int -/
theorem ee_gint {i : Int} (hg : Gl X x) (hm : ∃ t, X.mg x = some (.int i t)) (hd : (x == ("__debug__" : Str)) = false := by kernel_rfl) : EE X Z (.Name x pos) (mC (.int i)) := by
  obtain ⟨t, hm⟩ := hm
  exact ee_c (pe_glob (v := .int i) hg hm ⟨t, rfl⟩ hd) fun _ => by unfold RM; rfl
/-- a module's tuple -/
theorem ee_gtup {l : List MV} {a : Addr} {xs : List V} (hg : Gl X x) (hm : X.mg x = some (.ref a)) (sq : ∀ H, SqT X.K H a xs) (r : ∀ H, RMs X.K H l xs) (hd : (x == ("__debug__" : Str)) = false := by kernel_rfl) : EE X Z (.Name x pos) (mC (.tup l)) :=
  ee_c (pe_glob (v := .ref a) hg hm rfl hd) fun H => by unfold RM; exact ⟨a, xs, rfl, sq H, r H⟩
end
/-! ### the end -/
def sto0 : Sto := fun _ => none
theorem rms_ints {K : PySem.W.Frag} {H : Hp} : ∀ ns : List Int, RMs K H (ns.map MV.int) (ns.map V.int)
  | [] => RMs.nil
  | n :: ns => RMs.cons (by unfold RM; rfl) (rms_ints ns)
theorem rm_script {K : PySem.W.Frag} {H : Hp} {a : Addr} {ns : List Int} (h : SqL K H a (ns.map V.int)) (ho : Only H) : RM K H (.frz (ns.map MV.int)) (.ref a) := by
  unfold RM
  refine ⟨a, _, rfl, ?_, rms_ints ns⟩
  rcases h with (h | h) | h
  · rcases ho a with e | ⟨o, xs, e⟩ <;> (rw [h] at e; cases e)
  · exact .inl h
  · exact .inr h
theorem rs0 {K : PySem.W.Frag} {H : Hp} : RS K [] sto0 H := ⟨fun b o e => (by cases e), fun P hP => (by cases hP)⟩
end Mv

set_option Elab.async false
set_option linter.all false
set_option maxRecDepth 100000
set_option maxHeartbeats 4000000
/-! enumerate and zip over lists and tuples alike. -/
namespace Mv
open PySem PySem.Spec PyProof.Rows L2
open Sem (wp)
def SqK (K : PySem.W.Frag) (H : Hp) (k : Bool) (a : Addr) (xs : List V) : Prop := match k with
  | true => SqL K H a xs
  | false => SqT K H a xs
def SeqAt (k : Bool) (h : Heap) (a : Addr) (items : Array Value) : Prop := match k with
  | true => h.IsList a items
  | false => h.IsTuple a items
def IterAt (k : Bool) (h : Heap) (it a : Addr) (i : Nat) : Prop := match k with
  | true => h.IsListIter it a i
  | false => h.IsTupleIter it a i
def iterO (k : Bool) (a : Addr) : Obj := match k with
  | true => { cls := .type "list_iterator", data := .fields #[.ref a, .int 0 0] }
  | false => { cls := .type "tuple_iterator", data := .fields #[.ref a, .int 0 0] }
theorem IterAt.obj {k : Bool} {h : Heap} {it a : Addr} {i : Nat} (st : IterAt k h it a i) : ∃ o, h.get? it = some o ∧ ∀ v, o.data ≠ .cell v := by
  cases k
  · obtain ⟨o, ho, _, hd⟩ := st
    exact ⟨o, ho, fun v q => by rw [hd] at q; cases q⟩
  · obtain ⟨o, ho, _, hd⟩ := st
    exact ⟨o, ho, fun v q => by rw [hd] at q; cases q⟩
theorem IterAt.keep {k : Bool} {h h' : Heap} {it a : Addr} {i : Nat} (st : IterAt k h it a i) (kp : ∀ o, h.get? it = some o → h'.get? it = some o) : IterAt k h' it a i := by
  cases k
  · exact Heap.IsTupleIter.at st kp
  · exact Heap.IsListIter.at st kp
theorem IterAt.zero {k : Bool} {h : Heap} {it a : Addr} (e : h.get? it = some (iterO k a)) : IterAt k h it a 0 := by
  cases k
  · exact ⟨_, e, rfl, rfl⟩
  · exact ⟨_, e, rfl, rfl⟩
theorem begins_k (k : Bool) (a : Addr) (items : Array Value) : Begins (.ref a) (iterO k a) fun h => SeqAt k h a items := by
  cases k
  · exact begins_tuple a items
  · exact begins_list a items
theorem draws_k {prog : Program} {w : World} {A : Around} (hh : A.handled = none) (k : Bool) (it a : Addr) (hne : a ≠ it) (items : Array Value) :
    Draws prog w A it [it, a] items.size (fun i v => items[i]? = some v) (fun i h => IterAt k h it a i ∧ SeqAt k h a items) := by
  cases k
  · exact Draws.tuple hh it a hne items
  · exact Draws.list hh it a hne items
section
variable {X : Cx} {pins : List (Addr × Obj)} {σ : L2.St} {H : Hp} {s : Shared}
theorem seq_k {k : Bool} {a : Addr} {xs : List V} (I : Inv X pins σ H s) (h : SqK X.K H k a xs) : ∃ its : List Value, Vals xs its ∧ SeqAt k s.heap a its.toArray ∧ a < s.heap.objs.size := by
  cases k
  · obtain ⟨its, rv, p, _⟩ := I.tuple h
    obtain ⟨o, ho, _⟩ := id p
    exact ⟨its, rv, p, Heap.lt_size ho⟩
  · obtain ⟨its, rv, p, _⟩ := I.list h
    exact ⟨its, rv, p.isList, p.lt⟩
theorem seq_inj {k : Bool} {a : Addr} {xs ys : List V} (I : Inv X pins σ H s) (h : SqK X.K H k a xs) (h' : SqK X.K H k a ys) : xs = ys := by
  cases k
  · exact I.tuple_inj h h'
  · exact I.list_inj h h'
end
theorem nextOf_k_end {prog : Program} {w : World} {A : Around} {E : Value → Shared → Prop} {s : Shared} {k : Bool} {it l : Addr} {i : Nat} {items : Array Value} {Q : Value → Shared → Prop} (hh : A.handled = none)
    (hit : IterAt k s.heap it l i) (hl : SeqAt k s.heap l items) (hx : items[i]? = none)
    (hE : ∀ h' e, Heap.ExtBut it s.heap h' → (∃ o, h'.get? e = some o ∧ o.cls = .type "StopIteration") → E (.ref e) { s with heap := h' }) :
    wpAny (model prog w) A (Builtin.SmallTypes.nextOf (.ref it)) Q E s := by
  cases k
  · exact wpAny_nextOf_tuple_end hh hit hl hx hE
  · exact wpAny_nextOf_list_end hh hit hl hx hE
theorem draws_end {prog : Program} {w : World} {A : Around} (hh : A.handled = none) (k : Bool) (it a : Addr) (hne : a ≠ it) (items : Array Value) {i : Nat} (hx : items[i]? = none) :
    Draws prog w A it [it, a] i (fun _ _ => False) (fun t h => t = i ∧ IterAt k h it a t ∧ SeqAt k h a items) where
  live := fun t h st => by
    obtain ⟨o, ho, _⟩ := st.2.1.obj
    exact ⟨o, ho⟩
  frame := fun t h h' st hk => ⟨st.1, ((draws_k (prog := prog) (w := w) hh k it a hne items).frame t h h' st.2 hk)⟩
  item := fun t s Q E ht st _ => by
    have := st.1
    omega
  done := fun s Q E st hE => nextOf_k_end hh st.2.1 st.2.2 hx hE
/-! enumerate -/
theorem enum_endK {prog : Program} {w : World} {A : Around} {E : Value → Shared → Prop} {s : Shared} {k : Bool} {e it l : Addr} {i : Nat} {items : Array Value} {old : Value} {Q : Option Value → Shared → Prop} (hh : A.in1.handled = none)
    (he : IsEnum s.heap e it i old) (hit : IterAt k s.heap it l i) (hl : SeqAt k s.heap l items) (hx : items[i]? = none)
    (hQ : ∀ h', Heap.ExtBut it s.heap h' → Q none { s with heap := h' }) : wpAny (model prog w) A (pyNext (.ref e)) Q E s := by
  have hT : s.TypeIs (.ref e) "enumerate" := ⟨_, he, rfl⟩
  unfold pyNext
  refine wpAny_bind (wpAny_attempt (wpAny_callSpecial?_slot (name := Str.ofString "__next__") hT F.slot_enumerate_next
    (wpAny_call_entry F.slot_enumerate_next hT F.entry_enumerate_next ?_ (F.args_enumerate_next_1 _))))
  show wpAny _ _ (field (.ref e) 2 >>= _) _ _ _
  refine wpAny_bind (wpAny_field he rfl (x := .ref it) rfl ?_)
  refine wpAny_bind (nextOf_k_end hh hit hl hx fun h' x he' hx' => ?_)
  obtain ⟨o, ho, hc⟩ := hx'
  refine wpAny_bind (wpAny_isInstance (T := "StopIteration") (b := true) ⟨o, ho, hc⟩ isSubtype_stop ?_)
  exact wpAny_pure (hQ _ he')
/-- enumerate(v): its two new cells -/
theorem meets_enum1 {v : Value} {o : Obj} {H : Heap → Prop} (B : Begins v o H) :
    Meets (Builtin.«enumerate.__new__» ⟨[.type "enumerate", v], []⟩) (fun _ R s => H s.heap ∧
      R (.ok (.ret (.ref (s.heap.push o).objs.size))) { s with heap := (s.heap.push o).push { cls := .type "enumerate", data := .fields #[.none, .bool false, .ref s.heap.objs.size, rawInt 0, .none, .none] } }) :=
  .of_wp fun prog w A R s h => by
    obtain ⟨hp, g, d, tk, os⟩ := s; obtain ⟨h1, h⟩ := h
    have hsub := sub_enumerate
    have q1 : ∀ {A' : Around} {E : Value → Shared → Prop} {Q : Value → Shared → Prop}, Q (.ref hp.objs.size) ⟨hp.push o, g, d, tk, os⟩ → wpAny (model prog w) A' (pyIter v) Q E ⟨hp, g, d, tk, os⟩ :=
      fun q => B.iter prog w _ _ ⟨hp, g, d, tk, os⟩ _ h1 q
    wp_walk using q1
    refine wpAny_stack_any fun st => wpAny_pure ?_
    split
    · rename_i c _ _ _ _ _
      cases (c == Value.type "enumerate")
      · wp_walk using q1
        exact ⟨_, rfl, h⟩
      · wp_walk using q1
        exact ⟨_, rfl, h⟩
    · wp_walk using q1
      exact ⟨_, rfl, h⟩
theorem enum1_begins {prog : Program} {w : World} {A : Around} {E : Value → Shared → Prop} {s : Shared} {v : Value} {o : Obj} {H : Heap → Prop} {Q : Value → Shared → Prop} (B : Begins v o H) (h1 : H s.heap)
    (h : ∀ h', IsEnum h' (s.heap.objs.size + 1) s.heap.objs.size 0 .none → h'.get? s.heap.objs.size = some o → h'.objs.size = s.heap.objs.size + 2 →
      (∀ b o, s.heap.get? b = some o → h'.get? b = some o) → Q (.ref (s.heap.objs.size + 1)) { s with heap := h' }) :
    wpAny (model prog w) A (call (.type "enumerate") [v]) Q E s := by
  refine callType_new F.called_enumerate (by decide) (F.typeCall_enumerate_1 _) (F.newCall_enumerate_1 _) (fun obj => F.args_object_init_2 obj _) F.entry_enumerate_new
    (meets_enum1 B) ⟨h1, ?_⟩
  have hz : (s.heap.push o).objs.size = s.heap.objs.size + 1 := Heap.size_push ..
  show _ ∧ _
  rw [hz]
  have he : IsEnum ((s.heap.push o).push { cls := .type "enumerate", data := .fields #[.none, .bool false, .ref s.heap.objs.size, rawInt 0, .none, .none] }) (s.heap.objs.size + 1) s.heap.objs.size 0 .none := by
    have := Heap.get?_push_size (s.heap.push o) (o := { cls := .type "enumerate", data := .fields #[.none, .bool false, .ref s.heap.objs.size, rawInt 0, .none, .none] }) rfl
    rw [hz] at this; exact this
  refine ⟨⟨_, he, rfl⟩, h _ he (Heap.get?_push_of_some _ (Heap.get?_push_size _ B.free)) (by rw [Heap.size_push, hz]) fun b o x => Heap.get?_push_of_some _ (Heap.get?_push_of_some _ x)⟩
def IteK (K : PySem.W.Frag) (k : Bool) (a : Addr) : It :=
  ⟨fun i H => ∃ (xs : List V) (x : V), SqK K H k a xs ∧ xs[i]? = some x, fun i H v H' => ∃ T x, v = .ref T ∧ H T = none ∧ H' = upd H T (.tup [.int (i : Nat), x]) ∧ ∀ xs, SqK K H k a xs → xs[i]? = some x, fun i H => ∃ xs : List V, SqK K H k a xs ∧ xs.length ≤ i⟩
theorem turn_enumK {P : Program} {w : World} {K : PySem.W.Frag} {elts : List Expr} {kk : Nat} {tpos : Pos} (k : Bool) (a e it : Addr) (hae : a ≠ e) (hai : a ≠ it) :
    Turn P w K (.Tuple elts kk tpos) (IteK K k a) [e, it] e (fun i h => (∃ old, IsEnum h e it ((i : Nat) : Int) old) ∧ IterAt k h it a i ∧ e ≠ it) where
  mem := by simp
  obj := fun i h st b hb => by
    obtain ⟨⟨old, he⟩, hit, _⟩ := st
    have e' : b = e ∨ b = it := by simpa using hb
    rcases e' with z | z
    · rw [z]; exact ⟨_, he, fun v q => nomatch q⟩
    · rw [z]; exact hit.obj
  keep := fun i h h' st kp => let ⟨⟨old, he⟩, hi, hne⟩ := st; ⟨⟨old, kp e (by simp) _ he⟩, hi.keep fun o q => kp it (by simp) o q, hne⟩
  item := by
    intro X hP hw hK hc i pins s σ H E I hf st hg
    subst hP hw hK
    obtain ⟨⟨old, he⟩, hit, hne⟩ := st
    obtain ⟨xs, x, hq, hx⟩ := hg
    obtain ⟨its, rv, p, hal⟩ := seq_k I hq
    obtain ⟨u, hu, ru⟩ := rv.get hx
    have hel : e < s.heap.objs.size := Heap.lt_size he
    have hil : it < s.heap.objs.size := by obtain ⟨o, q, _⟩ := hit.obj; exact Heap.lt_size q
    have hh : X.A.in1.handled = none := I.ok.hd hc
    have D := draws_k (prog := X.prog) (w := X.w) hh k it a hai its.toArray
    have hlt : i < its.toArray.size := by
      have := (List.getElem?_eq_some_iff.mp hu).1
      simpa using this
    refine wpAny_pyNext_enum_itemD D he ⟨hit, p⟩ hlt hne (by simp [hne, hae.symm]) fun u' h' tk hu' ho hit' hT hsz hk => ?_
    have eu : u' = u := by
      have q1 : its[i]? = some u' := by simpa using hu'
      rw [hu] at q1; exact (Option.some.inj q1).symm
    subst eu
    refine ⟨_, rfl, wpAny_letOwnedTupleGo_enum (s := { s with heap := h', toks := tk + 1 }) ho fun h'' he' sb => ?_⟩
    have hT2 : h''.get? s.heap.objs.size = some { cls := .type "tuple", data := .seq #[.int i tk, u'] } := (sb.2 _ (Nat.ne_of_gt hel)).trans hT
    have new : ObjOk X.prog X.w (upd H s.heap.objs.size (.tup [.int (i : Nat), x])) h'' s.heap.objs.size (.tup [.int (i : Nat), x]) :=
      ⟨by show 2 ≤ sizeLine; decide, [.int i tk, u'], .cons ⟨_, rfl⟩ (.cons ru .nil), ⟨_, hT2, rfl, _, rfl⟩⟩
    have I1 : Inv X pins σ (upd H s.heap.objs.size (.tup [.int (i : Nat), x])) { s with heap := h'', toks := tk + 1 } :=
      I.turnedNew (ch := [e, it]) (fun b ob hb q => (sb.2 b (fun z => hb (by simp [z]))).trans (hk b ob (fun z => hb (by simp [z])) (fun z => hb (by simp [z])) q)) hf (Nat.le_refl _) new
    refine ⟨.ref s.heap.objs.size, _, I1, rfl, ⟨_, x, rfl, I.hok.fresh (Nat.le_refl _), rfl, fun ys hy => by rw [seq_inj I hy hq]; exact hx⟩, ⟨⟨u', ?_⟩, hit'.1.keep fun o q => (sb.2 it (Ne.symm hne)).trans q, hne⟩, fun b hb => ?_⟩
    · have e1 : ((i + 1 : Nat) : Int) = (i : Int) + 1 := by omega
      rw [e1]; exact he'
    · have hb' : b < s.heap.objs.size := by
        have e' : b = e ∨ b = it := by simpa using hb
        rcases e' with z | z
        · rw [z]; exact hel
        · rw [z]; exact hil
      rw [upd_ne (Nat.ne_of_lt hb')]
      exact (hf b hb).1
  done := by
    intro X hP hw hK hc i pins s σ H E I hf st hg
    subst hP hw hK
    obtain ⟨⟨old, he⟩, hit, hne⟩ := st
    obtain ⟨xs, hq, hx⟩ := hg
    obtain ⟨its, rv, p, hal⟩ := seq_k I hq
    obtain ⟨f0, f1, f2, f3, f4, f5⟩ := hf it (by simp)
    have hl := rv.length
    exact enum_endK (I.ok.hd hc) he hit p (by simp; omega) fun h' eb => ⟨rfl, I.turned (t' := s.toks) (fun b o hb q => eb b o hb q) f0 f1 f3 f4 f5⟩
  self := fun A i s Q E st h => let ⟨⟨_, he⟩, _⟩ := st; wpAny_pyIter_enum he h
def iEnumK (K : PySem.W.Frag) (ta : TA) : TI := fun σ H R => ta σ H fun vs H1 => ∃ a xs k, vs = [.ref a] ∧ SqK K H1 k a xs ∧ R (IteK K k a) H1
theorem pi_enumK {X : Cx} {e : Expr} {ta : TA} {p pos tpos : Pos} {elts : List Expr} {kk : Nat} (hg : Gl X "enumerate") (hm : X.mg "enumerate" = none) (ha : PA X [e] ta) (hs : starEach [e] X.env = [(false, eval e X.env)] := by kernel_rfl) :
    PI X (.Tuple elts kk tpos) (.Call (.Name "enumerate" p) [e] [] pos) (iEnumK X.K ta) := by
  refine ⟨fun pins s σ H R I h => ?_⟩
  refine Call_ (ld_blt I hg hm boot_enumerate (PyProof.Rows.callWith_type1 (thn (ha.run pos pins s σ H _ I h) fun us s1 ⟨vs, H1, I1, r1, q1⟩ => ?_) hs rfl))
  obtain ⟨a, xs, k, ex, hq, q⟩ := q1
  subst ex
  cases r1 with
  | cons r rr =>
    cases rr
    cases r
    obtain ⟨its, rv, p', hal⟩ := seq_k I1 hq
    refine enum1_begins (begins_k k a its.toArray) p' fun h' he hit hsz hk => wpAny_pyIter_enum he ?_
    have I2 : Inv X pins σ H1 { s1 with heap := h' } := I1.kept (t' := s1.toks) hk
    refine ⟨s1.heap.objs.size + 1, [s1.heap.objs.size + 1, s1.heap.objs.size], _, _, H1, rfl, I2, turn_enumK k a (s1.heap.objs.size + 1) s1.heap.objs.size (Nat.ne_of_lt (Nat.lt_succ_of_lt hal)) (Nat.ne_of_lt hal), ⟨⟨.none, he⟩, IterAt.zero hit, Nat.succ_ne_self _⟩, fun b hb => ?_, q⟩
    have e' : b = s1.heap.objs.size + 1 ∨ b = s1.heap.objs.size := by simpa using hb
    have hle : s1.heap.objs.size ≤ b := by
      rcases e' with z | z
      · rw [z]; exact Nat.le_add_right _ _
      · rw [z]; exact Nat.le_refl _
    exact I1.fpOk hle (I1.hok.fresh hle)
/-! zip -/
def ItzK (K : PySem.W.Frag) (k j : Bool) (a b : Addr) : It :=
  ⟨fun i H => ∃ (xs ys : List V) (x y : V), SqK K H k a xs ∧ SqK K H j b ys ∧ xs[i]? = some x ∧ ys[i]? = some y,
    fun i H v H' => ∃ T x y, v = .ref T ∧ H T = none ∧ H' = upd H T (.tup [x, y]) ∧ (∀ xs, SqK K H k a xs → xs[i]? = some x) ∧ ∀ ys, SqK K H j b ys → ys[i]? = some y,
    fun i H => ∃ xs ys : List V, SqK K H k a xs ∧ SqK K H j b ys ∧ (xs.length ≤ i ∨ ys.length ≤ i)⟩
theorem turn_zipK {P : Program} {w : World} {K : PySem.W.Frag} {elts : List Expr} {kk : Nat} {tpos : Pos} {k j : Bool} {a b z TI TO i1 i2 : Addr} (D : ZipSep2 z TI TO i1 i2 [i1, a] [i2, b]) (n1 : a ≠ i1) (n2 : b ≠ i2) :
    Turn P w K (.Tuple elts kk tpos) (ItzK K k j a b) [z, TI, TO, i1, i2] z (fun i h => IsZip h z TI TO .none ∧ IsTupOf2 h TI (.ref i1) (.ref i2) ∧ (∃ x y, IsTupOf2 h TO x y) ∧ IterAt k h i1 a i ∧ IterAt j h i2 b i) where
  mem := by simp
  obj := fun i h st c hc => by
    obtain ⟨hz, hTI, ⟨x, y, hTO⟩, h1, h2⟩ := st
    have e' : c = z ∨ c = TI ∨ c = TO ∨ c = i1 ∨ c = i2 := by simpa using hc
    rcases e' with q | q | q | q | q
    · rw [q]; exact ⟨_, hz, fun v q => nomatch q⟩
    · rw [q]; exact ⟨_, hTI, fun v q => nomatch q⟩
    · rw [q]; exact ⟨_, hTO, fun v q => nomatch q⟩
    · rw [q]; exact h1.obj
    · rw [q]; exact h2.obj
  keep := fun i h h' st kp => by
    obtain ⟨hz, hTI, ⟨x, y, hTO⟩, h1, h2⟩ := st
    exact ⟨kp z (by simp) _ hz, kp TI (by simp) _ hTI, ⟨x, y, kp TO (by simp) _ hTO⟩, h1.keep fun o q => kp i1 (by simp) o q, h2.keep fun o q => kp i2 (by simp) o q⟩
  item := by
    intro X hP hw hK hc i pins s σ H E I hf st hg
    subst hP hw hK
    obtain ⟨hz, hTI, ⟨x0, y0, hTO⟩, h1, h2⟩ := st
    obtain ⟨xs, ys, x, y, hqx, hqy, hx, hy⟩ := hg
    obtain ⟨its, rv, p, hal⟩ := seq_k I hqx
    obtain ⟨its2, rv2, p2, hbl⟩ := seq_k I hqy
    obtain ⟨u, hu, ru⟩ := rv.get hx
    obtain ⟨u2, hu2, ru2⟩ := rv2.get hy
    have hzl : z < s.heap.objs.size := Heap.lt_size hz
    have hh : X.A.in1.handled = none := I.ok.hd hc
    have D1 := draws_k (prog := X.prog) (w := X.w) hh k i1 a n1 its.toArray
    have D2 := draws_k (prog := X.prog) (w := X.w) hh j i2 b n2 its2.toArray
    have l1 : i < its.toArray.size := by have := (List.getElem?_eq_some_iff.mp hu).1; simpa using this
    have l2 : i < its2.toArray.size := by have := (List.getElem?_eq_some_iff.mp hu2).1; simpa using this
    refine wpAny_pyNext_zipD2_item D D1 D2 hz hTI hTO ⟨h1, p⟩ ⟨h2, p2⟩ l1 l2 fun w1 w2 h' tk e1 e2 z' TO' s1' s2' hT hsz hk => ?_
    have q1 : w1 = u := by
      have q1 : its[i]? = some w1 := by simpa using e1
      rw [hu] at q1; exact (Option.some.inj q1).symm
    have q2 : w2 = u2 := by
      have q2 : its2[i]? = some w2 := by simpa using e2
      rw [hu2] at q2; exact (Option.some.inj q2).symm
    subst q1; subst q2
    refine ⟨_, rfl, wpAny_letOwnedTupleGo_zip (s := { s with heap := h', toks := tk }) z' fun h'' z'' sb => ?_⟩
    have hT2 : h''.get? s.heap.objs.size = some { cls := .type "tuple", data := .seq #[w1, w2] } := (sb.2 _ (Nat.ne_of_gt hzl)).trans hT
    have new : ObjOk X.prog X.w (upd H s.heap.objs.size (.tup [x, y])) h'' s.heap.objs.size (.tup [x, y]) :=
      ⟨by show 2 ≤ sizeLine; decide, [w1, w2], .cons ru (.cons ru2 .nil), ⟨_, hT2, rfl, _, rfl⟩⟩
    have I1 : Inv X pins σ (upd H s.heap.objs.size (.tup [x, y])) { s with heap := h'', toks := tk } :=
      I.turnedNew (t' := tk) (ch := [z, TI, TO, i1, i2]) (fun c o hb q => (sb.2 c (fun q' => hb (by simp [q']))).trans (hk c o (fun q' => hb (by simp [q'])) (fun q' => hb (by simp [q'])) (fun q' => hb (by simp [q'])) (fun q' => hb (by simp [q'])) q)) hf (Nat.le_refl _) new
    refine ⟨.ref s.heap.objs.size, _, I1, rfl, ⟨_, x, y, rfl, I.hok.fresh (Nat.le_refl _), rfl, fun l hl => by rw [seq_inj I hl hqx]; exact hx, fun l hl => by rw [seq_inj I hl hqy]; exact hy⟩, ⟨z'', ?_, ⟨w1, w2, ?_⟩, ?_, ?_⟩, fun c hcm => ?_⟩
    · exact (sb.2 _ D.TIz).trans (hk _ _ D.TIz D.TITO D.TIi1 D.TIi2 hTI)
    · exact (sb.2 _ D.TOz).trans TO'
    · exact s1'.1.keep fun o q => (sb.2 _ D.zi1.symm).trans q
    · exact s2'.1.keep fun o q => (sb.2 _ D.zi2.symm).trans q
    · have hlt : c < s.heap.objs.size := by
        have e' : c = z ∨ c = TI ∨ c = TO ∨ c = i1 ∨ c = i2 := by simpa using hcm
        rcases e' with q | q | q | q | q
        · rw [q]; exact hzl
        · rw [q]; exact Heap.lt_size hTI
        · rw [q]; exact Heap.lt_size hTO
        · rw [q]; obtain ⟨o, e1, _⟩ := h1.obj; exact Heap.lt_size e1
        · rw [q]; obtain ⟨o, e2, _⟩ := h2.obj; exact Heap.lt_size e2
      rw [upd_ne (Nat.ne_of_lt hlt)]
      exact (hf c hcm).1
  done := by
    intro X hP hw hK hc i pins s σ H E I hf st hg
    subst hP hw hK
    obtain ⟨hz, hTI, ⟨x0, y0, hTO⟩, h1, h2⟩ := st
    obtain ⟨xs, ys, hqx, hqy, hend⟩ := hg
    obtain ⟨its, rv, p, hal⟩ := seq_k I hqx
    obtain ⟨its2, rv2, p2, hbl⟩ := seq_k I hqy
    have l1 := rv.length
    have l2 := rv2.length
    have hh : X.A.in1.handled = none := I.ok.hd hc
    have fin : ∀ h' tk, (∀ c o, c ≠ z → c ≠ TO → c ≠ i1 → c ≠ i2 → s.heap.get? c = some o → h'.get? c = some o) → (none : Option Value) = none ∧ Inv X pins σ H { s with heap := h', toks := tk } := fun h' tk hk => ⟨rfl, I.turnedL (t' := tk) (ch := [z, TI, TO, i1, i2]) (fun c o hb q =>
      hk c o (fun q' => hb (by simp [q'])) (fun q' => hb (by simp [q'])) (fun q' => hb (by simp [q'])) (fun q' => hb (by simp [q'])) q) hf⟩
    have E1 : its.toArray[i]? = none → Draws X.prog X.w X.A.in1 i1 [i1, a] i (fun _ _ => False) (fun t h => t = i ∧ IterAt k h i1 a t ∧ SeqAt k h a its.toArray) := draws_end hh k i1 a n1 its.toArray
    have E2 : its2.toArray[i]? = none → Draws X.prog X.w X.A.in1 i2 [i2, b] i (fun _ _ => False) (fun t h => t = i ∧ IterAt j h i2 b t ∧ SeqAt j h b its2.toArray) := draws_end hh j i2 b n2 its2.toArray
    by_cases c1 : xs.length ≤ i
    · have D1 := E1 (by simp; omega)
      by_cases c2 : ys.length ≤ i
      · have D2 := E2 (by simp; omega)
        exact wpAny_pyNext_zipD2_end D D1 D2 hz hTI hTO ⟨rfl, h1, p⟩ ⟨rfl, h2, p2⟩ (Nat.le_refl _) (Nat.le_refl _) (.inl rfl) fun h' tk hk => fin h' tk hk
      · have D2 := draws_k (prog := X.prog) (w := X.w) hh j i2 b n2 its2.toArray
        exact wpAny_pyNext_zipD2_end D D1 D2 hz hTI hTO ⟨rfl, h1, p⟩ ⟨h2, p2⟩ (Nat.le_refl _) (by simp; omega) (.inl rfl) fun h' tk hk => fin h' tk hk
    · have D1 := draws_k (prog := X.prog) (w := X.w) hh k i1 a n1 its.toArray
      have D2 := E2 (by simp; omega)
      exact wpAny_pyNext_zipD2_end D D1 D2 hz hTI hTO ⟨h1, p⟩ ⟨rfl, h2, p2⟩ (by simp; omega) (Nat.le_refl _) (.inr rfl) fun h' tk hk => fin h' tk hk
  self := fun A i s Q E st h => wpAny_pyIter_zip st.1 h
def iZipK (K : PySem.W.Frag) (ta : TA) : TI := fun σ H R => ta σ H fun vs H1 => ∃ a b xs ys k j, vs = [.ref a, .ref b] ∧ SqK K H1 k a xs ∧ SqK K H1 j b ys ∧ R (ItzK K k j a b) H1
theorem pi_zipK {X : Cx} {e e2 : Expr} {ta : TA} {p pos tpos : Pos} {elts : List Expr} {kk : Nat} (hg : Gl X "zip") (hm : X.mg "zip" = none) (ha : PA X [e, e2] ta)
    (hs : starEach [e, e2] X.env = (false, eval e X.env) :: starEach [e2] X.env := by kernel_rfl) (hpl : (backTo pos (starEach [e2] X.env)).any (·.1) = false := by kernel_rfl) :
    PI X (.Tuple elts kk tpos) (.Call (.Name "zip" p) [e, e2] [] pos) (iZipK X.K ta) := by
  refine ⟨fun pins s σ H R I h => ?_⟩
  refine Call_ (ld_blt I hg hm PyProof.Rows.boot_zip (PyProof.Rows.callWith_type1 (thn (ha.run pos pins s σ H _ I h) fun us s1 ⟨vs, H1, I1, r1, q1⟩ => ?_) hs hpl))
  obtain ⟨a, b, xs, ys, k, j, ex, hqx, hqy, q⟩ := q1
  subst ex
  cases r1 with
  | cons r rr =>
    cases rr with
    | cons r' rr =>
      cases rr
      cases r
      cases r'
      have fresh5 : ∀ c, c ∈ [s1.heap.objs.size + 4, s1.heap.objs.size + 2, s1.heap.objs.size + 3, s1.heap.objs.size, s1.heap.objs.size + 1] → FpOk X pins H1 c := fun c hcm => by
        have e' : c = s1.heap.objs.size + 4 ∨ c = s1.heap.objs.size + 2 ∨ c = s1.heap.objs.size + 3 ∨ c = s1.heap.objs.size ∨ c = s1.heap.objs.size + 1 := by simpa using hcm
        have hle : s1.heap.objs.size ≤ c := by
          rcases e' with z | z | z | z | z
          · rw [z]; exact Nat.le_add_right _ _
          · rw [z]; exact Nat.le_add_right _ _
          · rw [z]; exact Nat.le_add_right _ _
          · rw [z]; exact Nat.le_refl _
          · rw [z]; exact Nat.le_add_right _ _
        exact I1.fpOk hle (I1.hok.fresh hle)
      obtain ⟨its, rv, p1, hal⟩ := seq_k I1 hqx
      obtain ⟨its2, rv2, p2, hbl⟩ := seq_k I1 hqy
      refine zip_begins2 (begins_k k a its.toArray) (begins_k j b its2.toArray) p1 p2 fun h' hz hTI hTO h1 h2 hsz hk => wpAny_pyIter_zip hz ?_
      have I2 : Inv X pins σ H1 { s1 with heap := h' } := I1.kept (t' := s1.toks) hk
      have sep : ZipSep2 (s1.heap.objs.size + 4) (s1.heap.objs.size + 2) (s1.heap.objs.size + 3) s1.heap.objs.size (s1.heap.objs.size + 1) [s1.heap.objs.size, a] [s1.heap.objs.size + 1, b] :=
        zip_sep2 (N := s1.heap.objs.size) (fp1 := [a]) (fp2 := [b]) (fun c hc => by cases List.mem_singleton.mp hc; exact hal) (fun c hc => by cases List.mem_singleton.mp hc; exact hbl)
      exact ⟨s1.heap.objs.size + 4, [s1.heap.objs.size + 4, s1.heap.objs.size + 2, s1.heap.objs.size + 3, s1.heap.objs.size, s1.heap.objs.size + 1], _, _, H1, rfl, I2, turn_zipK sep (Nat.ne_of_lt hal) (Nat.ne_of_lt (Nat.lt_succ_of_lt hbl)), ⟨hz, hTI, ⟨_, _, hTO⟩, IterAt.zero h1, IterAt.zero h2⟩, fresh5, q⟩
/-! over the value layer -/
def Src (K : PySem.W.Frag) (Z : List Addr) (k : Bool) (a : Addr) (l : List MV) (kp : List (Addr × List MV)) (H0 : Hp) : Prop :=
  ∀ S H, TK K H0 H → RS K Z S H → keepOk kp S → ∃ xs, SqK K H k a xs ∧ RMs K H l xs
/-- what is walked: its items, and what must stay -/
def seqI (S : Sto) : MV → Option (List MV × List (Addr × List MV))
  | .tup l => some (l, [])
  | .ref a => (lookL S a).map fun l => (l, [(a, l)])
  | .frz l => some (l, [])
  | _ => none
section
variable {K : PySem.W.Frag} {Z : List Addr}
theorem src_of {S : Sto} {H : Hp} {m : MV} {v : V} {l : List MV} {kp : List (Addr × List MV)} (hS : RS K Z S H) (r : RM K H m v) (e : seqI S m = some (l, kp)) : ∃ a xs k, v = .ref a ∧ SqK K H k a xs ∧ Src K Z k a l kp H := by
  cases m with
  | tup l' =>
    cases e
    unfold RM at r
    obtain ⟨a, xs, ev, sq, rs⟩ := r
    exact ⟨a, xs, false, ev, sq, fun S' H' t _ _ => ⟨xs, t.tup _ _ sq, RMs.monoT t _ rs⟩⟩
  | ref a =>
    have e : Option.map (fun l => (l, [(a, l)])) (lookL S a) = some (l, kp) := e
    unfold RM at r
    cases el : lookL S a with
    | none => rw [el] at e; cases e
    | some l' =>
      rw [el] at e
      cases e
      obtain ⟨xs, g1, g2⟩ := look_sq hS el
      exact ⟨a, xs, true, r, g1, fun S' H' t s' k' => look_sq s' (k' (a, l) (by simp))⟩
  | frz l' =>
    cases e
    unfold RM at r
    obtain ⟨a, xs, ev, sq, rs⟩ := r
    exact ⟨a, xs, true, ev, sq.sq, fun S' H' t _ _ => ⟨xs, (t.frz _ _ sq).sq, RMs.monoT t _ rs⟩⟩
  | _ => cases e
theorem ji_enumK {k : Bool} {a : Addr} {l : List MV} {kp : List (Addr × List MV)} {H0 : Hp} (src : Src K Z k a l kp H0) : JI K Z (IteK K k a) ⟨enumM 0 l, kp⟩ H0 := fun i S H t hS hk => by
  obtain ⟨xs, g1, g2⟩ := src S H t hS hk
  refine ⟨fun w hw => ?_, fun hl => ?_⟩
  · obtain ⟨v, hv, ew⟩ := enumM_get 0 l i w hw
    obtain ⟨x, h1, h2⟩ := g2.get hv
    refine ⟨⟨xs, x, g1, h1⟩, fun y H' ⟨T, x', ey, nT, eH, hy⟩ => ?_⟩
    have := hy xs g1
    rw [h1] at this; cases this
    subst eH
    have g : GK K S H S (upd H T (.tup [.int (i : Nat), x])) := GK.hid nT
    refine ⟨g, hS.hid nT, ?_⟩
    rw [ew, Nat.zero_add]
    unfold RM
    exact ⟨T, _, ey, .inl (.inl upd_same), RMs.cons (by unfold RM; rfl) (RMs.cons (h2.mono g) RMs.nil)⟩
  · rw [enumM_length] at hl
    exact ⟨xs, g1, by rw [g2.length]; exact hl⟩
theorem ji_zipK {k j : Bool} {a b : Addr} {l m : List MV} {k1 k2 : List (Addr × List MV)} {H0 : Hp} (s1 : Src K Z k a l k1 H0) (s2 : Src K Z j b m k2 H0) : JI K Z (ItzK K k j a b) ⟨zipM l m, k1 ++ k2⟩ H0 := fun i S H t hS hk => by
  obtain ⟨xs, g1, g2⟩ := s1 S H t hS (fun p hp => hk p (List.mem_append_left _ hp))
  obtain ⟨ys, g3, g4⟩ := s2 S H t hS (fun p hp => hk p (List.mem_append_right _ hp))
  refine ⟨fun w hw => ?_, fun hl => ?_⟩
  · obtain ⟨u, v, hu, hv, ew⟩ := zipM_get hw
    obtain ⟨x, h1, h2⟩ := g2.get hu
    obtain ⟨y, h3, h4⟩ := g4.get hv
    refine ⟨⟨xs, ys, x, y, g1, g3, h1, h3⟩, fun z H' ⟨T, x', y', ez, nT, eH, hx, hy⟩ => ?_⟩
    have q1 := hx xs g1
    have q2 := hy ys g3
    rw [h1] at q1; cases q1
    rw [h3] at q2; cases q2
    subst eH; subst ez; subst ew
    exact pair_rel hS nT h2 h4
  · rw [zipM_length] at hl
    have hl : min l.length m.length ≤ i := hl
    exact ⟨xs, ys, g1, g3, by rw [g2.length, g4.length]; omega⟩
end
def mEnum (ms : MA) : MI := fun ρ S R => ms ρ S fun vs S1 => match vs with
  | [x] => (match seqI S1 x with
    | some (l, kp) => R ⟨enumM 0 l, kp⟩ S1
    | none => False)
  | _ => False
def mZip (ms : MA) : MI := fun ρ S R => ms ρ S fun vs S1 => match vs with
  | [x, y] => (match seqI S1 x, seqI S1 y with
    | some (l, k1), some (m, k2) => R ⟨zipM l m, k1 ++ k2⟩ S1
    | _, _ => False)
  | _ => False
section
variable {X : Cx} {Z : List Addr} {a b : Expr} {m : ME} {mas : MA} {elts : List Expr} {kk : Nat} {tpos : Pos}
theorem ei_enum {p pos : Pos} (hg : Gl X "enumerate") (hm : X.mg "enumerate" = none) (ha : EA X Z [a] mas) (hs : starEach [a] X.env = [(false, eval a X.env)] := by kernel_rfl) : EI X Z (.Tuple elts kk tpos) (.Call (.Name "enumerate" p) [a] [] pos) (mEnum mas) :=
  ⟨_, pi_enumK hg hm ha.pa hs, fun σ H ρ S R R' hE hS hm hQ => by
    refine ⟨ρ, S, _, hE, hS, hm, fun vs H1 ⟨ms, S1, t1, r1, s1, q1⟩ => ?_⟩
    dsimp only at q1
    split at q1
    · rename_i x
      obtain ⟨v, rfl, r⟩ := rms1 r1
      split at q1
      · rename_i l kp e
        obtain ⟨a, xs, k, ev, sq, src⟩ := src_of s1 r e
        exact ⟨a, xs, k, by rw [ev], sq, hQ _ _ ⟨_, S1, t1, s1, ji_enumK src, q1⟩⟩
      · exact q1.elim
    · exact q1.elim⟩
theorem ei_zip {p pos : Pos} (hg : Gl X "zip") (hm : X.mg "zip" = none) (ha : EA X Z [a, b] mas) (hs : starEach [a, b] X.env = (false, eval a X.env) :: starEach [b] X.env := by kernel_rfl) (hpl : (backTo pos (starEach [b] X.env)).any (·.1) = false := by kernel_rfl) :
    EI X Z (.Tuple elts kk tpos) (.Call (.Name "zip" p) [a, b] [] pos) (mZip mas) :=
  ⟨_, pi_zipK hg hm ha.pa hs hpl, fun σ H ρ S R R' hE hS hm hQ => by
    refine ⟨ρ, S, _, hE, hS, hm, fun vs H1 ⟨ms, S1, t1, r1, s1, q1⟩ => ?_⟩
    dsimp only at q1
    split at q1
    · rename_i x y
      obtain ⟨v, u, rfl, r, r2⟩ := rms2 r1
      split at q1
      · rename_i l k1 n k2 e1 e2
        obtain ⟨a, xs, k, ev, sq, src⟩ := src_of s1 r e1
        obtain ⟨b, ys, j, eu, sq2, src2⟩ := src_of s1 r2 e2
        subst ev; subst eu
        exact ⟨a, b, xs, ys, k, j, rfl, sq, sq2, hQ _ _ ⟨_, S1, t1, s1, ji_zipK src src2, q1⟩⟩
      · exact q1.elim
    · exact q1.elim⟩
end
end Mv

set_option Elab.async false
set_option linter.all false
set_option maxRecDepth 100000
set_option maxHeartbeats 4000000
/-! all(number_test(x, lo, hi) for x in xs): the test walked wherever it is called; the generator over a list or a tuple; the call of all. -/
namespace An
open PySem PySem.Spec PyProof.Rows L2 Mv
/-- a number or a bool -/
def numB (v : MV) (a b : Int) : Bool := match v with
  | .int i => decide (a ≤ i) && decide (i ≤ b)
  | _ => false
def NumV : MV → Prop
  | .int _ => True
  | .bl _ => True
  | _ => False
def NumU (v : MV) (u : Value) : Prop := match v with
  | .int i => ∃ t, u = .int i t
  | .bl b => u = .bool b
  | _ => False
/-- the body, but for its places -/
structure NumBody (body : List Stmt) (x lo hi : Str) : Prop where
  sh : ∃ (p4 p5 p6 p7 p8 p9 q1 q2 q3 q4 q5 q6 q7 q8 q9 : Pos),
    body = [.Return (some (.BoolOp .And
      [.Call (.Name "isinstance" p4) [.Name x p5, .Name "int" p6] [] p7,
       .UnaryOp .Not (.Call (.Name "isinstance" p8) [.Name x p9, .Name "bool" q1] [] q2) q3,
       .Compare (.Name lo q4) [.LtE, .LtE] [.Name x q5, .Name hi q6] q7] q8)) q9]
section
variable {prog : Program} {w : World} {A : Around} {env : PySem.Env} {mg mb m : Str → Option Value}
/-- what the frame's names give -/
structure Fr3 (env : PySem.Env) (mg m : Str → Option Value) (x lo hi : Str) (h : Heap) (mb : Str → Option Value) : Prop where
  kind : env.scope.kind = .function
  kx : env.kindOf x = some .local
  klo : env.kindOf lo = some .local
  khi : env.kindOf hi = some .local
  ki : env.kindOf "isinstance" = some .globalImplicit
  kint : env.kindOf "int" = some .globalImplicit
  kbool : env.kindOf "bool" = some .globalImplicit
  ns : h.Ns env.locals m
  g : h.Ns env.globals mg
  b : h.Ns env.builtins mb
  mi : mg "isinstance" = none
  mint : mg "int" = none
  mbool : mg "bool" = none
  bi : mb "isinstance" = some (.builtin "isinstance")
  bint : mb "int" = some (.type "int")
  bbool : mb "bool" = some (.type "bool")
  dx : (x == ("__debug__" : Str)) = false
  dlo : (lo == ("__debug__" : Str)) = false
  dhi : (hi == ("__debug__" : Str)) = false
theorem ev_isi {x lo hi y : Str} {s : Shared} {p4 p5 p6 p7 : Pos} {u : Value} {T : String} {Q E : Value → Shared → Prop} (F : Fr3 env mg m x lo hi s.heap mb) (hu : m x = some u) (ky : env.kindOf y = some .globalImplicit) (my : mg y = none) (by_ : mb y = some (.type T)) (dy : (y == ("__debug__" : Str)) = false)
    (h : wpAny (model prog w) A (call (.builtin "isinstance") [u, .type T]) Q E s) : wpAny (model prog w) A (eval (.Call (.Name "isinstance" p4) [.Name x p5, .Name y p6] [] p7) env) Q E s := by
  refine wpAny_Call_Name_kw (Calls.Name_function_global F.kind F.ki (Calls.loadGlobal_builtin F.g F.mi F.b F.bi ?_))
  refine PyProof.Rows.callWith_builtin1 (e := .Name x p5) (rest := [.Name y p6]) ?_ rfl rfl
  show wpAny _ _ (spliced ((false, eval (.Name x p5) env) :: (false, eval (.Name y p6) env) :: [])) _ _ s
  refine Calls.spliced_cons (wpAny_Name (wpAny_loadName_local F.kind F.kx F.ns hu ?_) F.dx)
  refine Calls.spliced_cons (Calls.Name_function_global F.kind ky (Calls.loadGlobal_builtin F.g my F.b by_ ?_) dy)
  exact Calls.spliced_nil h
theorem run_num {body : List Stmt} {x lo hi : Str} {s : Shared} {v : MV} {u : Value} {a b : Int} {ta tb : Tok} {Q : Flow → Shared → Prop} {E : Value → Shared → Prop} (B : NumBody body x lo hi) (F : Fr3 env mg m x lo hi s.heap mb) (hu : m x = some u) (hv : NumU v u) (hlo : m lo = some (.int a ta)) (hhi : m hi = some (.int b tb))
    (hint : interactive env = false)
    (h : ∀ tk, Q (.ret (.bool (numB v a b))) { s with toks := tk }) : wpAny (model prog w) A (execs body env) Q E s := by
  obtain ⟨p4, p5, p6, p7, p8, p9, q1, q2, q3, q4, q5, q6, q7, q8, q9, rfl⟩ := B.sh
  have F1 : ∀ tk, Fr3 env mg m x lo hi ({ s with toks := tk } : Shared).heap mb := fun tk => F
  have Fn : ∀ tk, (∀ c : Bool, Q (.ret (.bool c)) { s with toks := tk } → True) := fun _ _ _ => trivial
  refine wpAny_execs_cons (wpAny_Return_some ?_)
  refine BoolOp_and (ev_isi (F1 _) hu F.kint F.mint F.bint (by decide) ?_)
  cases v with
  | int i =>
    obtain ⟨t, rfl⟩ := (show ∃ t, u = .int i t from hv)
    refine IsiPair.int_int (wpAny_truthy_bool (ite_tt ?_))
    refine BoolOp_and (UnaryOp_ (ev_isi (F1 _) hu F.kbool F.mbool F.bbool (by decide) ?_))
    refine IsiPair.int_bool (not_of (wpAny_truthy_bool (wpAny_truthy_bool (ite_tt ?_))))
    refine BoolOp_one (Compare_chain (wpAny_Name (wpAny_loadName_local F.kind F.klo F.ns hlo ?_) F.dlo))
    refine chain_link (wpAny_Name (wpAny_loadName_local F.kind F.kx F.ns hu ?_) F.dx)
    refine PySem.P.le_int (wpAny_truthy_bool ?_)
    by_cases c : a ≤ i
    · rw [decide_eq_true c]
      refine ite_tt (chain_last (wpAny_Name (wpAny_loadName_local F.kind F.khi F.ns hhi ?_) F.dhi))
      refine PySem.P.le_int ?_
      have e : numB (.int i) a b = decide (i ≤ b) := by unfold numB; simp [c]
      rw [← e]
      exact h _
    · rw [decide_eq_false c]
      refine ite_ff ?_
      have e : numB (.int i) a b = false := by unfold numB; simp [c]
      rw [← e]
      exact h _
  | bl c =>
    obtain rfl := (show u = .bool c from hv)
    refine IsiPair.bool_int (wpAny_truthy_bool (ite_tt ?_))
    refine BoolOp_and (UnaryOp_ (ev_isi (F1 _) hu F.kbool F.mbool F.bbool (by decide) ?_))
    refine IsiPair.bool_bool (not_of (wpAny_truthy_bool (wpAny_truthy_bool (ite_ff ?_))))
    exact h _
  | _ => exact hv.elim
end
end An
namespace An
open PySem PySem.Spec PyProof.Rows L2 Mv
/-- the number test's names -/
structure NumSc (scope : Scope) : Prop where
  kind : scope.kind = .function
  co : scope.isCoroutine = false
  gen : scope.isGenerator = false
  cell : ∀ y ∈ scope.names, y.2 ≠ .cell
  kx : scope.names.lookup ("value" : Str) = some .local
  klo : scope.names.lookup ("least" : Str) = some .local
  khi : scope.names.lookup ("most" : Str) = some .local
  ki : scope.names.lookup ("isinstance" : Str) = some .globalImplicit
  kint : scope.names.lookup ("int" : Str) = some .globalImplicit
  kbool : scope.names.lookup ("bool" : Str) = some .globalImplicit
/-- the number test, where it stands -/
structure NumFn (K : PySem.W.Frag) (mg : Str → Option Value) (base : Heap) (f : Addr) (fd : FuncData) : Prop where
  ex : ∃ (x qual : Str) (params : Arguments) (body : List Stmt) (scope : Scope), FunD K x qual params body scope [] [] f fd ∧ NumSc scope ∧ NumBody body "value" "least" "most"
  mi : mg "isinstance" = none
  mint : mg "int" = none
  mbool : mg "bool" = none
  bind : ∀ (s : Shared) (u v t : Value), BindsTo s fd ⟨[u, v, t], []⟩ [("value", u), ("least", v), ("most", t)]
section
variable {prog : Program} {w : World} {A : Around} {K : PySem.W.Frag} {mg : Str → Option Value} {base : Heap} {f : Addr} {fd : FuncData} {s : Shared}
theorem call_num (F : NumFn K mg base f fd) (M : L2.Mod K mg base) (kb : ∀ b o, base.get? b = some o → s.heap.get? b = some o) (hroom : A.depth < recursionLimit) {v : MV} {u : Value} {a b : Int} {ta tb : Tok} (hv : NumU v u) :
    codeAny (model prog w) A (.call (.ref f) ⟨[u, .int a ta, .int b tb], []⟩) (fun r s' => r = .ok (.ret (.bool (numB v a b))) ∧ Keeps s s') s := by
  obtain ⟨x, qual, params, body, scope, FD, Sc, B⟩ := F.ex
  obtain ⟨oc, od, dV, kV, doc, pm, an, cdv, ct, osl, rfl, lk, hcd, _, _⟩ := FD.ex
  have KX : K.In s.heap := M.kin.keeps kb
  have lim : s.heap.NoLimit := M.nolimit.keeps kb
  obtain ⟨mb, hb1, hb2⟩ := M.blt
  refine codeAny_call_def hroom (KX _ _ lk) rfl lim (PySem.W.codeRec_of KX hcd) rfl (F.bind s u (.int a ta) (.int b tb)) Sc.cell (fun y hy => ?_) (fun h₀ hns hk => ?_) Sc.co Sc.gen Sc.kind
  · rcases hy with _ | ⟨_, _ | ⟨_, _ | ⟨_, hy⟩⟩⟩
    · exact Sc.kx
    · exact Sc.klo
    · exact Sc.khi
    · cases hy
  · have kb0 : ∀ b o, base.get? b = some o → h₀.get? b = some o := fun b o e => hk b o (kb b o e)
    refine run_num B ⟨Sc.kind, Sc.kx, Sc.klo, Sc.khi, Sc.ki, Sc.kint, Sc.kbool, hns, M.glob.keeps kb0, hb1.keeps kb0, F.mi, F.mint, F.mbool, (hb2 _ (by decide)).trans boot_isinstance, (hb2 _ (by decide)).trans boot_int, (hb2 _ (by decide)).trans boot_bool, by decide, by decide, by decide⟩ (by rfl) hv (by rfl) (by rfl) ?_ fun tk => ?_
    · show (scope.kind == .module && _) = false
      rw [Sc.kind]; rfl
    · exact ⟨rfl, h₀, tk, rfl, hk⟩
end
end An
namespace An
open PySem PySem.Spec PyProof.Rows L2 Mv
/-- the generator's names -/
structure GenSc (env : PySem.Env) (scope : Scope) : Prop where
  S : GxR.GenS env scope "value"
  ft : (("least" : Str), NameKind.free) ∈ scope.names
  mt : (("most" : Str), NameKind.free) ∈ scope.names
  kl : scope.names.lookup ("least" : Str) = some .free
  km : scope.names.lookup ("most" : Str) = some .free
  kf : scope.names.lookup ("is_number" : Str) = some .globalImplicit
def numTr (l : List MV) (a b : Int) (j : Nat) : Bool := match l[j]? with
  | some m => numB m a b
  | none => false
theorem all_numTr (l : List MV) (a b : Int) : (List.range l.length).all (numTr l a b) = l.all fun m => numB m a b := by
  rw [Bool.eq_iff_iff, List.all_eq_true, List.all_eq_true]
  constructor
  · intro h m hm
    obtain ⟨j, hj, e⟩ := List.getElem_of_mem hm
    have q := h j (List.mem_range.mpr hj)
    unfold numTr at q
    rw [List.getElem?_eq_getElem hj, e] at q
    exact q
  · intro h j hj
    have hj' := List.mem_range.mp hj
    unfold numTr
    rw [List.getElem?_eq_getElem hj']
    exact h _ (List.getElem_mem hj')
theorem num_rel {K : PySem.W.Frag} {H : Hp} {m : MV} {v : V} {u : Value} (n : NumV m) (r : RM K H m v) (q : RelV v u) : NumU m u := by
  cases m with
  | int i => unfold RM at r; subst r; exact q
  | bl b => unfold RM at r; subst r; exact q
  | _ => exact n.elim
section
variable {prog : Program} {w : World} {A : Around} {K : PySem.W.Frag} {mg : Str → Option Value} {base : Heap} {f : Addr} {fd : FuncData} {s : Shared}
theorem elt_num {env : PySem.Env} {m : Str → Option Value} {p1 p2 p3 p4 p5 : Pos} {E : Value → Shared → Prop} (F : NumFn K mg base f fd) (M : L2.Mod K mg base) (hf : mg "is_number" = some (.ref f)) (hkp : PySem.W.keepIn K (.ref f) = true) (kb : ∀ b o, base.get? b = some o → s.heap.get? b = some o) (hroom : A.depth < recursionLimit)
    (hg : env.globals = mainGlobals) (hk : env.scope.kind = .function) (kf : env.kindOf "is_number" = some .globalImplicit) (kx : env.kindOf "value" = some .local) (kl : env.kindOf "least" = some .free) (km : env.kindOf "most" = some .free)
    {v : MV} {u : Value} {a b : Int} {ta tb : Tok} {c1 c2 : Addr} (hn : s.heap.Ns env.locals m) (hu : m "value" = some u) (hv : NumU v u) (h1 : env.cells.lookup ("least" : Str) = some c1) (h2 : env.cells.lookup ("most" : Str) = some c2) (g1 : s.heap.IsCell c1 (some (.int a ta))) (g2 : s.heap.IsCell c2 (some (.int b tb))) :
    wpAny (model prog w) A (eval (.Call (.Name "is_number" p1) [.Name "value" p2, .Name "least" p3, .Name "most" p4] [] p5) env) (fun y s3 => y = .bool (numB v a b) ∧ Keeps s s3) E s := by
  refine wpAny_Call_Name_kw (Calls.Name_function_global hk kf (Calls.loadGlobal_global (by rw [hg]; exact M.glob.keeps kb) hf ?_))
  refine PySem.W.callWith_K (h₀ := base) (e := .Name "value" p2) (rest := [.Name "least" p3, .Name "most" p4]) M.kin hkp ?_ rfl rfl
  show wpAny _ _ (spliced ((false, eval (.Name "value" p2) env) :: (false, eval (.Name "least" p3) env) :: (false, eval (.Name "most" p4) env) :: [])) _ _ s
  refine Calls.spliced_cons (wpAny_Name (wpAny_loadName_local hk kx hn hu ?_))
  refine Calls.spliced_cons (wpAny_Name (wpAny_loadName_free hk kl h1 g1 ?_))
  refine Calls.spliced_cons (wpAny_Name (wpAny_loadName_free hk km h2 g2 ?_))
  refine Calls.spliced_nil ⟨M.kin.keeps kb, wpAny_call (codeAny_mono (call_num F M kb hroom hv) fun r s' hq => ?_)⟩
  obtain ⟨e, kp⟩ := hq
  subst e
  exact ⟨rfl, kp⟩
end
section
variable {X : Cx} {pins : List (Addr × Obj)} {σ : L2.St} {H : Hp} {s : Shared}
/-- the generator g over the values l, ready to be walked -/
def ReadyN (X : Cx) (pins : List (Addr × Obj)) (σ : L2.St) (H1 : Hp) (P : Addr) (l : List MV) (a b : Int) (g : Addr) (s5 : Shared) : Prop :=
  ∃ (fp wr : List Addr) (G : Array GenState → Array GenState → Prop) (F : Nat → Value → Prop) (St : Nat → Shared → Prop),
    WalksS X.prog X.w X.A.in1 g fp wr G l.length F St ∧ St 0 s5 ∧ TruthOf X.prog X.w X.A.in1 F (numTr l a b) ∧
    ∀ s', Moved wr G s5 s' → ∃ H2, GxR.Tabbed P H1 H2 ∧ Inv X pins σ H2 s'
theorem seq_keep {k : Bool} {h h' : Heap} {a : Addr} {its : Array Value} (st : SeqAt k h a its) (kp : ∀ o, h.get? a = some o → h'.get? a = some o) : SeqAt k h' a its := by
  cases k
  · exact Heap.IsTuple.at st kp
  · exact Heap.IsList.at st kp
theorem seq_no_fields {k : Bool} {h : Heap} {a : Addr} {its ps : Array Value} {P : Prop} (st : SeqAt k h a its) (e : h.get? a = some { cls := .none, data := .fields ps }) : P := by
  cases k
  · obtain ⟨o, ho, hc, _⟩ := st
    rw [e] at ho; cases ho; cases hc
  · obtain ⟨o, ho, hc, _⟩ := st
    rw [e] at ho; cases ho; cases hc
theorem cell_keep {h h' : Heap} {a : Addr} {v : Option Value} (st : h.IsCell a v) (kp : ∀ o, h.get? a = some o → h'.get? a = some o) : h'.IsCell a v := by
  obtain ⟨o, ho, r⟩ := st
  exact ⟨o, kp o ho, r⟩
theorem cell_no_fields {h : Heap} {a : Addr} {v : Option Value} {ps : Array Value} {P : Prop} (st : h.IsCell a v) (e : h.get? a = some { cls := .none, data := .fields ps }) : P := by
  obtain ⟨o, ho, r⟩ := st
  rw [e] at ho; cases ho; cases r
theorem walks_k {prog : Program} {w : World} {A : Around} (hh : A.handled = none) (k : Bool) (it a : Addr) (hne : a ≠ it) (items : Array Value) :
    Walks prog w A it [it, a] [it] items.size (fun i v => items[i]? = some v) (fun i h => IterAt k h it a i ∧ SeqAt k h a items) := by
  cases k
  · exact Walks.tuple hh it a hne items
  · exact Walks.list hh it a hne items
theorem look_cell {x : Str} {u : Value} {h : Heap} {m : Str → Option Value} (k : X.env.kindOf x = some .cell) (lk : Look X.env h m x u) : ∃ c, X.env.cells.lookup x = some c ∧ h.IsCell c (some u) := by
  rcases lk with ⟨e, _⟩ | ⟨_, c, h1, h2⟩
  · rw [k] at e; cases e
  · exact ⟨c, h1, h2⟩
theorem gen_num {c P f : Addr} {fd : FuncData} {iter : Expr} {px gpos p1 p2 p3 p4 p5 : Pos} {scope : Scope} {te : TE} {k i1 i2 : Nat} {Q' : Value → Shared → Prop} {R : List MV → Int → Int → Hp → Prop}
    (hr : Room k X.A) (TB : GxR.TabB X.base X.mg c P) (hcode : X.env.code = .ref c) (S : GenSc X.env scope) (F : NumFn X.K X.mg X.base f fd) (hf : X.mg "is_number" = some (.ref f)) (hkp : PySem.W.keepIn X.K (.ref f) = true) (hi : PE X iter te)
    (kl : X.env.kindOf "least" = some .cell) (km : X.env.kindOf "most" = some .cell) (n1 : X.N[i1]? = some ("least" : Str)) (n2 : X.N[i2]? = some ("most" : Str))
    (hs : ∀ v, genFold iter X.env v = pure v) (I : Inv X pins σ H s)
    (h : te σ H fun v H1 => ∃ (d : Addr) (kd : Bool) (xs : List V) (l : List MV) (a b : Int), v = .ref d ∧ SqK X.K H1 kd d xs ∧ RMs X.K H1 l xs ∧ (∀ m ∈ l, NumV m) ∧ σ[i1]? = some (some (.int a)) ∧ σ[i2]? = some (some (.int b)) ∧ GxR.TabG H1 P ∧ R l a b H1)
    (hQ : ∀ l a b H1 g s5, R l a b H1 → ReadyN X pins σ H1 P l a b g s5 → Q' (.ref g) s5) :
    wpAny (model X.prog X.w) X.A (eval (.GeneratorExp (.Call (.Name "is_number" p1) [.Name "value" p2, .Name "least" p3, .Name "most" p4] [] p5) [⟨.Name "value" px, iter, [], 0⟩] scope gpos) X.env) Q' X.xe s := by
  refine wpAny_GeneratorExp_walksQD hr.hd S.S.co (closure_ok S.S.free) S.S.cell S.S.dot S.S.loc S.S.kind (by have := hr.dp; omega) ?_ hs
  refine thn (hi.run pins s σ H _ I h) fun xv s1 ⟨v, H1, I1, r1, q1⟩ => ?_
  obtain ⟨d, kd, xs, l, a, b, rfl, hd, hl, hnum, ha, hb, ⟨ps, hP, ht⟩, q1⟩ := q1
  obtain rfl : xv = Value.ref d := r1
  obtain ⟨its, rv, hseq, hdl⟩ := seq_k I1 hd
  have hlen : its.length = l.length := by rw [← rv.length, ← hl.length]
  obtain ⟨ml, hml, hloc⟩ := I1.loc
  obtain ⟨ua, rua, lka⟩ := hloc i1 "least" (.int a) n1 ha (.inr (.inl kl))
  obtain ⟨ub, rub, lkb⟩ := hloc i2 "most" (.int b) n2 hb (.inr (.inl km))
  obtain ⟨ta, rfl⟩ := (show ∃ t, ua = Value.int a t from rua)
  obtain ⟨tb, rfl⟩ := (show ∃ t, ub = Value.int b t from rub)
  obtain ⟨c1, hc1, g1⟩ := look_cell kl lka
  obtain ⟨c2, hc2, g2⟩ := look_cell km lkb
  have hat : ∀ (i : Nat) (v : Value), its.toArray[i]? = some v → ∃ m, l[i]? = some m ∧ NumU m v := fun i v hv => by
    have hv2 : its[i]? = some v := by simpa using hv
    have hi2 : i < its.length := (List.getElem?_eq_some_iff.mp hv2).1
    obtain ⟨m, hm⟩ : ∃ m, l[i]? = some m := ⟨l[i]'(by omega), List.getElem?_eq_getElem _⟩
    obtain ⟨x, hx, rx⟩ := hl.get hm
    obtain ⟨u, hu, ru⟩ := rv.get hx
    rw [hv2] at hu
    cases hu
    exact ⟨m, hm, num_rel (hnum m (List.mem_of_getElem? hm)) rx ru⟩
  refine (begins_k kd d its.toArray).iter _ _ _ _ _ _ hseq ?_
  have ofree : (iterO kd d).isFreed = false := (begins_k kd d its.toArray).free
  generalize ho : iterO kd d = o at ofree
  have hitr : IterAt kd (s1.heap.push o) s1.heap.objs.size d 0 := by
    subst ho
    exact IterAt.zero (Heap.get?_push_size _ ofree)
  have hPs : s1.heap.get? P = some { cls := .none, data := .fields ps } := I1.hok P _ hP
  have hPlt : P < s1.heap.objs.size := Heap.lt_size hPs
  have hP2 : (s1.heap.push o).get? P = some { cls := .none, data := .fields ps } := Heap.get?_push_of_some _ hPs
  have cd : PySem.W.CodeHd (s1.heap.push o) c P := TB.code.keeps fun b u e => Heap.get?_push_of_some _ (I1.bk b u e)
  have lim2 : (s1.heap.push o).NoLimit := I1.nolimit.push o
  have cont : ∀ (code : Value) (h3 : Heap) (tk : Nat) (ps' : Array Value), Heap.ExtBut P (s1.heap.push o) h3 → (s1.heap.push o).objs.size ≤ h3.objs.size → h3.get? P = some { cls := .none, data := .fields ps' } → (∃ more, ps' = ps ++ more) → TriplesOk ps'.toList →
      wpAny (model X.prog X.w) X.A (builtinsFor X.env.globals X.env.builtins) (fun bi s₄ =>
        ∃ Ia fp wr n₀ Pf St₀ pz F, Value.ref s1.heap.objs.size = .ref Ia ∧ (∀ A' : Around, A'.handled = none → Walks X.prog X.w A' Ia fp wr n₀ Pf St₀) ∧ St₀ 0 s₄.heap ∧ (∀ b ∈ fp, b < s₄.heap.objs.size) ∧ s₄.heap.NoLimit ∧ cStatics ∉ wr ∧
          (∀ href : Heap, (∀ b o, s₄.heap.get? b = some o → href.get? b = some o) →
            QuietGenD X.prog X.w (genEnv scope (cloFrom X.env.cells scope.names []) s₄.heap.objs.size code bi X.env) "value" [] (.Call (.Name "is_number" p1) [.Name "value" p2, .Name "least" p3, .Name "most" p4] [] p5) (List.range s₄.heap.objs.size) wr Pf pz F href (X.A.depth + 1) (X.A.units + 8)) ∧
          (∀ a h₅ tk gs, gs.bare = true → s₄.heap.objs.size < a → h₅.objs.size = a + 1 → (∀ b o, s₄.heap.get? b = some o → h₅.get? b = some o) →
            WalksS X.prog X.w X.A.in4 a (a :: s₄.heap.objs.size :: List.range s₄.heap.objs.size) (s₄.heap.objs.size :: wr) (GenOnlyQ s₄.gens.size) (passing pz n₀ 0).length
              (fun j y => ∃ i, (passing pz n₀ 0)[j]? = some i ∧ F i y) (GenAt X.prog X.w X.A.in4 a s₄.gens.size s₄.heap.objs.size (List.range s₄.heap.objs.size) wr pz n₀ F) →
            GenAt X.prog X.w X.A.in4 a s₄.gens.size s₄.heap.objs.size (List.range s₄.heap.objs.size) wr pz n₀ F 0 { s₄ with gens := s₄.gens.push gs, toks := tk, heap := h₅ } →
            Q' (.ref a) { s₄ with gens := s₄.gens.push gs, toks := tk, heap := h₅ })) X.xe { s1 with heap := h3, toks := tk } := by
    intro code h3 tk ps' hx hsz hP3 hmore ht3
    obtain ⟨bm, ob, e1, e2, e3, e4, e5, e6, e7, e8⟩ := TB.bm
    have hcP : cStatics ≠ P := fun e => by
      obtain ⟨_, hns, _⟩ := I1.nolimit
      obtain ⟨o', es, ep, ho, hd, _⟩ := hns
      rw [e, hPs] at ho
      cases ho
      cases hd
    have hcl : cStatics < s1.heap.objs.size := let ⟨_, hns, _⟩ := I1.nolimit; hns.lt
    have sz2 : (s1.heap.push o).objs.size = s1.heap.objs.size + 1 := Heap.size_push ..
    have keep3 : ∀ b u, b ≠ P → s1.heap.get? b = some u → h3.get? b = some u := fun b u hb e => hx b u hb (Heap.get?_push_of_some _ e)
    refine wpAny_builtinsFor (m := X.mg) (by rw [I1.ok.glob]; exact ((I1.mod.glob.keeps I1.bk).push o).extBut hx TB.gP) e1 e2 (keep3 _ _ e4 (I1.bk _ _ e5)) e6 e7 e8 ?_
    have hseq3 : SeqAt kd h3 d its.toArray := by
      refine seq_keep hseq fun ob e => keep3 _ _ (fun z => ?_) e
      rw [z] at e hseq
      exact seq_no_fields hseq hPs
    have hItr3 : IterAt kd h3 s1.heap.objs.size d 0 := hitr.keep fun u e => hx _ u (Nat.ne_of_gt hPlt) e
    refine ⟨s1.heap.objs.size, [s1.heap.objs.size, d], [s1.heap.objs.size], its.toArray.size, (fun i v => its.toArray[i]? = some v), (fun i h => IterAt kd h s1.heap.objs.size d i ∧ SeqAt kd h d its.toArray), (fun _ => true),
      (fun i y => ∃ m, l[i]? = some m ∧ y = .bool (numB m a b)), rfl, (fun A' hA => walks_k hA kd _ _ (Nat.ne_of_lt hdl) _), ⟨hItr3, hseq3⟩, ?_, lim2.extBut hx hcP, ?_, ?_, ?_⟩
    · intro b hb
      rcases List.mem_cons.mp hb with z | z
      · rw [z]
        show s1.heap.objs.size < h3.objs.size
        omega
      · cases List.mem_singleton.mp z
        have e9 : s1.heap.objs.size ≤ h3.objs.size := by omega
        exact Nat.lt_of_lt_of_le hdl e9
    · intro z
      exact Nat.ne_of_lt hcl (List.mem_singleton.mp z)
    · intro href hhref
      refine ⟨fun A' E' i v s₂ m₂ hA hdp hun hPv hn hm hk => ?_, fun A' E' i v s₂ m₂ hA hdp hun hPv hp hn hm hk => ?_⟩
      · simp only [List.forIn_nil]
        exact wpAny_pure ⟨rfl, GxR.keeps_refl _⟩
      · obtain ⟨m, hm', hnu⟩ := hat i v hPv
        have keep2 : ∀ b o, b ≠ P → s1.heap.get? b = some o → s₂.heap.get? b = some o := fun b o hb e => by
          have hlt := Heap.lt_size e
          have e3' := keep3 b o hb e
          refine hk b (List.mem_range.mpr (Heap.lt_size e3')) (fun z => ?_) o (hhref b o e3')
          cases List.mem_singleton.mp z
          exact Nat.lt_irrefl _ hlt
        have kb : ∀ b o, X.base.get? b = some o → s₂.heap.get? b = some o := fun b o e => by
          obtain ⟨q, qn⟩ := I1.bs b o e
          refine keep2 b o (fun z => ?_) q
          rw [z, hP] at qn
          cases qn
        have cellk : ∀ (cc : Addr) (u : Value), s1.heap.IsCell cc (some u) → s₂.heap.IsCell cc (some u) := fun cc u g => by
          refine cell_keep g fun ob e => keep2 _ _ (fun z => ?_) e
          rw [z] at e g
          exact cell_no_fields g hPs
        refine wpAny_mono (elt_num (env := genEnv scope (cloFrom X.env.cells scope.names []) h3.objs.size code builtinsNs X.env) F I1.ok.mod hf hkp kb (by have := hr.dp; omega) I1.ok.glob S.S.kind S.kf S.S.loc S.kl S.km hn hm hnu
          (NdefX.clo_has S.S.free S.ft hc1) (NdefX.clo_has S.S.free S.mt hc2) (cellk _ _ g1) (cellk _ _ g2)) (fun y s3 r => ?_) fun _ _ e => e
        exact ⟨⟨m, hm', r.1⟩, r.2⟩
    · intro g h5 tk5 gs hgb hag hsz5 hk5 W5 hgat
      simp only [GxR.passing_true, List.length_range] at W5
      have hn5 : its.toArray.size = l.length := by rw [List.size_toArray, hlen]
      rw [hn5] at W5 hgat
      refine hQ l a b H1 g _ q1 ⟨_, _, _, _, _, W5.in4_1, hgat, ?_, fun s' hm => ?_⟩
      · intro j y sj Qj Ej hy hQj
        obtain ⟨i, hij, m, hm, rfl⟩ := hy
        obtain ⟨hj, ej⟩ := List.getElem?_eq_some_iff.mp hij
        rw [List.getElem_range] at ej
        subst ej
        have hQ2 : Qj (numTr l a b j) sj := hQj
        unfold numTr at hQ2
        rw [hm] at hQ2
        exact wpAny_truthy_bool hQ2
      · obtain ⟨more, em⟩ := hmore
        have nwr : ∀ b u, s1.heap.get? b = some u → b ∉ h3.objs.size :: [s1.heap.objs.size] := fun b u e hb => by
          have hl := Heap.lt_size e
          rcases List.mem_cons.mp hb with z | z
          · rw [z] at hl
            have h9 : (h3.objs.size : Nat) < s1.heap.objs.size := hl
            omega
          · cases List.mem_singleton.mp z
            exact Nat.lt_irrefl _ hl
        have J := GxR.inv_tab (more := more) (h' := s'.heap) (g' := s'.gens) (d' := s'.drawn) (t' := s'.toks) I1 hP (fun b u hb e => hm.heap b u (nwr b u e) (hk5 b u (keep3 b u hb e)))
          (by rw [← em]; exact hm.heap P _ (nwr P _ hPs) (hk5 P _ hP3)) (AllBare.movedS (I1.bare.push hgb) hm)
        rw [GxR.sh_eta s1 s' hm.os] at J
        refine ⟨upd H1 P (.tbl (ps ++ more)), ⟨⟨ps ++ more, upd_same, by rw [← em]; exact ht3⟩, fun b hb => upd_ne hb⟩, J⟩
  refine ⟨lim2, ?_⟩
  cases hf : codeAmong gpos ps.toList with
  | none =>
    refine wpAny_genexprCodeX hcode (cd.code hP2 ht) (cd.tab hP2) hf fun c' h' tk hx hge hlt hco' _ htab' _ => ?_
    obtain ⟨o1, vs, f1, tf, fl, tg, inF, tx, tt, op, _, _, _, _, _, _, _, _, _, htr, _⟩ := hco'
    exact cont _ h' tk _ hx (Nat.le_trans hge (Nat.le_of_lt hlt)) htab'.2 ⟨_, rfl⟩ htr
  | some cv =>
    refine wpAny_genexprCode_hit hcode (cd.code hP2 ht) hf ?_
    exact cont cv (s1.heap.push o) s1.toks ps (Heap.ExtBut.refl _ _) (Nat.le_refl _) hP2 ⟨#[], by simp⟩ ht
/-- all(is_number(value, least, most) for value in te) -/
def tAllN (K : PySem.W.Frag) (P : Addr) (i1 i2 : Nat) (te : TE) : TE := fun σ H Q => te σ H fun v H1 => ∃ (d : Addr) (kd : Bool) (xs : List V) (l : List MV) (a b : Int), v = .ref d ∧ SqK K H1 kd d xs ∧ RMs K H1 l xs ∧ (∀ m ∈ l, NumV m) ∧ σ[i1]? = some (some (.int a)) ∧ σ[i2]? = some (some (.int b)) ∧ GxR.TabG H1 P ∧
  ∀ H2, GxR.Tabbed P H1 H2 → Q (.bl (l.all fun m => numB m a b)) H2
theorem pe_allN {c P f : Addr} {fd : FuncData} {iter : Expr} {px p pos gpos p1 p2 p3 p4 p5 : Pos} {scope : Scope} {te : TE} {k i1 i2 : Nat}
    (hr : Room k X.A) (hg : Gl X "all") (hm : X.mg "all" = none) (TB : GxR.TabB X.base X.mg c P) (hcode : X.env.code = .ref c) (S : GenSc X.env scope) (F : NumFn X.K X.mg X.base f fd) (hf : X.mg "is_number" = some (.ref f)) (hkp : PySem.W.keepIn X.K (.ref f) = true) (hi : PE X iter te)
    (kl : X.env.kindOf "least" = some .cell) (km : X.env.kindOf "most" = some .cell) (n1 : X.N[i1]? = some ("least" : Str)) (n2 : X.N[i2]? = some ("most" : Str))
    (hs : ∀ v, genFold iter X.env v = pure v)
    (he : starEach [.GeneratorExp (.Call (.Name "is_number" p1) [.Name "value" p2, .Name "least" p3, .Name "most" p4] [] p5) [⟨.Name "value" px, iter, [], 0⟩] scope gpos] X.env = (false, eval (.GeneratorExp (.Call (.Name "is_number" p1) [.Name "value" p2, .Name "least" p3, .Name "most" p4] [] p5) [⟨.Name "value" px, iter, [], 0⟩] scope gpos) X.env) :: starEach [] X.env := by rfl) :
    PE X (.Call (.Name "all" p) [.GeneratorExp (.Call (.Name "is_number" p1) [.Name "value" p2, .Name "least" p3, .Name "most" p4] [] p5) [⟨.Name "value" px, iter, [], 0⟩] scope gpos] [] pos) (tAllN X.K P i1 i2 te) := by
  refine ⟨fun pins s σ H Q I h => ?_⟩
  refine wpAny_Call_Name_kw (ld_blt I hg hm boot_all ?_)
  refine PyProof.Rows.callWith_builtin1 ?_ he (by rfl)
  rw [he]
  refine Calls.spliced_cons (gen_num (R := fun l a b H1 => ∀ H2, GxR.Tabbed P H1 H2 → Q (.bl (l.all fun m => numB m a b)) H2) hr TB hcode S F hf hkp hi kl km n1 n2 hs I h fun l a b H1 g s5 hR hG => ?_)
  obtain ⟨fp, wr, G, F', St, W, hst, htr, hI⟩ := hG
  refine Calls.spliced_nil ?_
  refine call_all_walkS (W.self 0 _ _ _ hst ⟨g, fp, wr, G, _, F', St, _, rfl, W, hst, htr, fun s' hmv => ?_⟩)
  obtain ⟨H2, hT, J⟩ := hI s' hmv
  refine ⟨.bl _, H2, J, rfl, ?_⟩
  rw [all_numTr l a b]
  exact hR H2 hT
end
end An

set_option Elab.async false
set_option linter.all false
set_option maxRecDepth 100000
set_option maxHeartbeats 4000000
/-! all(is_number(..)) over the value layer; a def with its own code object; keyword-only making. -/
namespace Mv
open PySem PySem.Spec PyProof.Rows L2 An
section
variable {K : PySem.W.Frag} {Z : List Addr} {S : Sto} {H H' : Hp} {P : Addr}
theorem tabbed_tk (hP : GxR.TabG H P) (t : GxR.Tabbed P H H') : TK K H H' := by
  obtain ⟨ps, hP, _⟩ := hP
  refine ⟨fun a xs s => ?_, fun a xs s => ?_⟩
  · rcases s with s | s
    · left
      rcases s with s | ⟨q, s⟩
      · exact .inl (by rw [t.2 a (fun z => by rw [z, hP] at s; cases s)]; exact s)
      · exact .inr ⟨q, by rw [t.2 a (fun z => by rw [z, hP] at s; cases s)]; exact s⟩
    · exact .inr s
  · rcases s with ⟨q, s⟩ | s
    · exact .inl ⟨q, by rw [t.2 a (fun z => by rw [z, hP] at s; cases s)]; exact s⟩
    · exact .inr s
theorem tab_free (r : RS K Z S H) (hP : GxR.TabG H P) : S P = none := by
  obtain ⟨ps, hP, _⟩ := hP
  cases e : S P with
  | none => rfl
  | some o =>
    have q := r.ob P o e
    cases o with
    | lst l => obtain ⟨xs, h1, _⟩ := q; rw [hP] at h1; cases h1
    | rl l =>
      obtain ⟨xs, h1, _⟩ := q
      rcases h1 with h1 | ⟨o, h1⟩ <;> (rw [hP] at h1; cases h1)
    | dct kvs => obtain ⟨ks, h1, _⟩ := q; rw [hP] at h1; cases h1
    | ins c fs => obtain ⟨dx, xs, h1, _⟩ := q; rw [hP] at h1; cases h1
theorem tabbed_gk (r : RS K Z S H) (hP : GxR.TabG H P) (t : GxR.Tabbed P H H') : GK K S H S H' ∧ RS K Z S H' := by
  have tk := tabbed_tk (K := K) hP t
  have hS := tab_free r hP
  refine ⟨⟨tk, fun a o n e nt => ⟨?_, n⟩⟩, ⟨fun a o e => (r.ob a o e).monoT tk (t.2 a fun z => by rw [z, hS] at e; cases e), fun P' hP' => ?_⟩⟩
  · obtain ⟨ps, hP, _⟩ := hP
    rw [t.2 a fun z => by rw [z, hP] at e; cases e; exact nt _ rfl]
    exact e
  · by_cases z : P' = P
    · rw [z]; exact t.1
    · obtain ⟨ps, e, q⟩ := r.tab P' hP'
      exact ⟨ps, by rw [t.2 P' z]; exact e, q⟩
end
def mAllN (i1 i2 : Nat) (m : ME) : ME := fun ρ S R => m ρ S fun x S1 => match seqI S1 x, ρ[i1]?, ρ[i2]? with
  | some (l, _), some (some (.int a)), some (some (.int b)) => (∀ v ∈ l, NumV v) ∧ R (.bl (l.all fun v => numB v a b)) S1
  | _, _, _ => False
theorem genSc_of {qual : Str} {scF scG : Scope} {L f : Addr} {cdv : Value} (kind : scG.kind = .function := by kernel_rfl) (co : scG.isCoroutine = false := by kernel_rfl) (cell : (scG.names.all fun y => y.2 != .cell) = true := by kernel_rfl)
    (dot : scG.names.lookup (".0" : Str) = some NameKind.local := by kernel_rfl) (loc : scG.names.lookup ("value" : Str) = some .local := by kernel_rfl)
    (free : (scG.names.all fun y => y.2 != .free || scF.names.lookup y.1 == some .cell) = true := by kernel_rfl)
    (ft : (scG.names.contains (("least" : Str), NameKind.free)) = true := by kernel_rfl) (mt : (scG.names.contains (("most" : Str), NameKind.free)) = true := by kernel_rfl)
    (kl : scG.names.lookup ("least" : Str) = some .free := by kernel_rfl) (km : scG.names.lookup ("most" : Str) = some .free := by kernel_rfl) (kf : scG.names.lookup ("is_number" : Str) = some .globalImplicit := by kernel_rfl) :
    GenSc (envOfC qual scF L f cdv) scG := by
  refine ⟨⟨kind, co, fun y hy => ?_, dot, loc, fun y hy e => ?_⟩, by simpa using ft, by simpa using mt, kl, km, kf⟩
  · have := List.all_eq_true.mp cell y hy
    simpa using this
  · have q := List.all_eq_true.mp free y hy
    rw [e] at q
    have q2 : scF.names.lookup y.1 = some .cell := by simpa using q
    exact Option.isSome_iff_exists.mp (PySem.W.cellsFrom_some _ _ _ (.inl q2))
section
variable {X : Cx} {Z : List Addr} {m : ME}
theorem ee_allN {c P f : Addr} {fd : FuncData} {iter : Expr} {px p pos gpos p1 p2 p3 p4 p5 : Pos} {scope : Scope} {k i1 i2 : Nat}
    (hr : Room k X.A) (hg : Gl X "all") (hm : X.mg "all" = none) (TB : GxR.TabB X.base X.mg c P) (hZ : P ∈ Z) (hcode : X.env.code = .ref c) (S : GenSc X.env scope) (F : NumFn X.K X.mg X.base f fd) (hf : X.mg "is_number" = some (.ref f)) (hkp : PySem.W.keepIn X.K (.ref f) = true) (hi : EE X Z iter m)
    (kl : X.env.kindOf "least" = some .cell) (km : X.env.kindOf "most" = some .cell) (n1 : X.N[i1]? = some ("least" : Str)) (n2 : X.N[i2]? = some ("most" : Str))
    (hs : ∀ v, genFold iter X.env v = pure v)
    (he : starEach [.GeneratorExp (.Call (.Name "is_number" p1) [.Name "value" p2, .Name "least" p3, .Name "most" p4] [] p5) [⟨.Name "value" px, iter, [], 0⟩] scope gpos] X.env = (false, eval (.GeneratorExp (.Call (.Name "is_number" p1) [.Name "value" p2, .Name "least" p3, .Name "most" p4] [] p5) [⟨.Name "value" px, iter, [], 0⟩] scope gpos) X.env) :: starEach [] X.env := by rfl) :
    EE X Z (.Call (.Name "all" p) [.GeneratorExp (.Call (.Name "is_number" p1) [.Name "value" p2, .Name "least" p3, .Name "most" p4] [] p5) [⟨.Name "value" px, iter, [], 0⟩] scope gpos] [] pos) (mAllN i1 i2 m) :=
  ee_of (pe_allN hr hg hm TB hcode S F hf hkp hi.pe kl km n1 n2 hs he) fun σ H ρ S R hE hS hm => by
    refine ⟨ρ, S, _, hE, hS, hm, fun v H1 ⟨x, S1, t1, r1, s1, q1⟩ => ?_⟩
    dsimp only at q1
    split at q1
    · rename_i l kp a b e ea eb
      obtain ⟨d, xs, kd, ev, sq, src⟩ := src_of s1 r1 e
      obtain ⟨xs', sq', rs'⟩ : ∃ xs, SqK X.K H1 kd d xs ∧ RMs X.K H1 l xs := by
        cases x with
        | tup l' =>
          cases e
          exact src S1 H1 TK.refl s1 (fun p hp => by cases hp)
        | frz l' =>
          cases e
          exact src S1 H1 TK.refl s1 (fun p hp => by cases hp)
        | ref d' =>
          have e : Option.map (fun l => (l, [(d', l)])) (lookL S1 d') = some (l, kp) := e
          cases el : lookL S1 d' with
          | none => rw [el] at e; cases e
          | some l' =>
            rw [el] at e
            cases e
            exact src S1 H1 TK.refl s1 (fun p hp => by cases List.mem_singleton.mp hp; exact el)
        | _ => cases e
      obtain ⟨xa, e1, e2⟩ := hE.at_ i1 _ ea
      obtain ⟨xb, e3, e4⟩ := hE.at_ i2 _ eb
      unfold RM at e2 e4
      subst e2; subst e4
      refine ⟨d, kd, xs', l, a, b, ev, sq', rs', q1.1, e1, e3, s1.tab P hZ, fun H2 ht => ?_⟩
      obtain ⟨g, s2⟩ := tabbed_gk s1 (s1.tab P hZ) ht
      exact ⟨.bl _, S1, t1.trans g, by unfold RM; rfl, s2, q1.2⟩
    · exact q1.elim
end
end Mv
namespace Mv
open PySem PySem.Spec PyProof.Rows L2 An
section
variable {P : Program} {w : World} {K : PySem.W.Frag} {mg : Str → Option Value} {base : Heap} {Z : List Addr} {x qual : Str} {params : Arguments} {body : List Stmt} {scope : Scope} {f c : Addr} {fd : FuncData}
/-- a def whose code object is known -/
theorem fn_spC {N ps : List Str} {k : Nat} {mb : MS} {dvs : List V} {kws : List (Str × V)} (F : FunD K x qual params body scope dvs kws f fd) (Sc : FnScope N ps scope) (hc : fd.code = .ref c)
    (hb : ∀ (A : Around) (outer : List PySem.Env) (s : Shared) (H : Hp) (E : XK), Room k (A.deeper (envOfC qual scope s.heap.objs.size f (.ref c))) → EB (cxOf CX0 P w K mg base N qual scope f (.ref c) A outer s H E).nox Z body mb) :
    FnOk P w K mg base CX0 (k + 1) f fd ps (spM K Z ps.length (defW ps.length N.length mb)) := by
  obtain ⟨oc, od, dV, kV, doc, pm, an, cdv, ct, osl, rfl, lk, hcd, _, _⟩ := F.ex
  have hc : cdv = .ref c := hc
  subst hc
  refine fn_of lk hcd Sc (fun vs H Q E h => h.1) fun A outer s H vs Q E hr h => ?_
  obtain ⟨hl, ms, S, R, rm, hS, ⟨hn, hm⟩, hQ⟩ := h
  refine ⟨_, PSs.nox (hb A outer s H E hr).pss, startM N.length ms, S, _, start_rel rm, hS, hm, fun σ' H' ⟨ρ', S', t, e', s', q⟩ => hQ _ _ (MQ.drop ⟨.non, S', t, by unfold RM; rfl, s', q⟩), fun v H' q => hQ _ _ (MQ.drop q), fun σ' H' ⟨ρ', S', t, e', s', q⟩ => False.elim q, fun σ' H' ⟨ρ', S', t, e', s', q⟩ => False.elim q⟩
theorem cal_mkC {N ps : List Str} {k : Nat} {mb : MS} (F : FunD K x qual params body scope [] [] f fd) (Sc : FnScope N ps scope) (bnd : Binds K fd ps []) (hc : fd.code = .ref c)
    (hb : ∀ (A : Around) (outer : List PySem.Env) (s : Shared) (H : Hp) (E : XK), Room k (A.deeper (envOfC qual scope s.heap.objs.size f (.ref c))) → EB (cxOf CX0 P w K mg base N qual scope f (.ref c) A outer s H E).nox Z body mb) :
    Cal P w K mg base Z f ps (k + 1) (defW ps.length N.length mb) :=
  ⟨⟨fd, fn_spC F Sc hc hb, F.kp, bnd⟩, fun ms S R h => h.1⟩
end
/-! C(k = v, ..), keyword-only -/
structure CalK (P : Program) (w : World) (K : PySem.W.Frag) (mg : Str → Option Value) (base : Heap) (Z : List Addr) (f : Addr) (ps ks : List Str) (k : Nat) (W : MW) (gM : MV → List MV → List MV) : Prop where
  ex : ∃ (fd : FuncData) (g : List Value → List Value → List Value) (gV : List V → List V → List V), FnOk P w K mg base CX0 k f fd ps (spM K Z ps.length W) ∧ KBn K fd ps 1 ks g gV ∧
    ∀ (H : Hp) (p : Addr) (ms : List MV) (zs : List V), RMs K H ms zs → ms.length = ks.length → RMs K H (gM (.ref p) ms) (gV [.ref p] zs)
  len : ∀ ms S R, W ms S R → ms.length = ps.length
def mMakeK (c : String) (n : Nat) (W : MW) (gM : MV → List MV → List MV) (ms : MA) : ME := fun ρ S R => ms ρ S fun zs S1 => zs.length = n ∧ ∀ p, S1 p = none → W (gM (.ref p) zs) (supd S1 p (.ins c [])) fun v S2 => v = .non ∧ R (.ref p) S2
section
variable {X : Cx} {Z : List Addr} {m : ME} {e : Expr} {kws : List Keyword} {mas : MA} {W : MW} {k k' : Nat} {ps ks : List Str} {gM : MV → List MV → List MV} {pos kpos : Pos} {nm : Option Str}
theorem ek_nil : EK X Z [] maNil := ⟨PK.imp pk_nil fun σ H Q ⟨ρ, S, R, hE, hS, hm, hQ⟩ => hQ _ _ ⟨[], S, GK.refl, RMs.nil, hS, hm⟩⟩
theorem ek_cons (ha : EE X Z e m) (hr : EK X Z kws mas) : EK X Z (⟨nm, e, kpos⟩ :: kws) (maCons m mas) :=
  ⟨PK.imp (pk_cons ha.pe hr.pk) fun σ H Q ⟨ρ, S, R, hE, hS, hm, hQ⟩ =>
    ⟨ρ, S, _, hE, hS, hm, fun v H1 ⟨x, S1, t1, r1, s1, q1⟩ => ⟨ρ, S1, _, hE.mono t1, s1, q1, fun vs H2 ⟨xs, S2, t2, r2, s2, q2⟩ => hQ _ _ ⟨x :: xs, S2, t1.trans t2, RMs.cons (r1.mono t2) r2, s2, q2⟩⟩⟩⟩
theorem ee_makeK {x : Str} {c : String} {f : Addr} {p : Pos} (C : CalK X.prog X.w X.K X.mg X.base Z f ps ks k W gM) (M : Mk X.K (He.ga X.K (so c)) f) (hr : Room k' X.A) (hk : k + 1 ≤ k') (hg : Gl X x) (hm : X.mg x = some (.ref (He.ga X.K (so c)))) (ha : EK X Z kws mas)
    (hall : (backToKw pos (keywordEach kws X.env)).all (·.1.isSome) = true := by kernel_rfl) (hks : (backToKw pos (keywordEach kws X.env)).filterMap (·.1) = ks := by kernel_rfl) (hdb : (x == ("__debug__" : Str)) = false := by kernel_rfl)
    (hpl : ((backTo pos (starEach [] X.env)).any (·.1) || (backToKw pos (keywordEach kws X.env)).any (·.1.isNone)) = false := by kernel_rfl) :
    EE X Z (.Call (.Name x p) [] kws pos) (mMakeK c ks.length W gM mas) := by
  obtain ⟨fd, g, gV, F, b, hg'⟩ := C.ex
  refine ee_of (pe_makeK0 M F (hr.mono hk) hg hm b pass0 ha.pk hall hks hdb hpl) fun σ H ρ S R hE hS hm => ?_
  refine ⟨ρ, S, _, hE, hS, hm, fun zs H1 ⟨ms, S1, t1, r1, s1, q1⟩ => ⟨rfl, by rw [r1.length]; exact q1.1, fun y dx hy hdx hne => ?_⟩⟩
  obtain ⟨g, s2⟩ := make_st (c := c) s1 hy hdx hne
  have q2 := q1.2 y (s1.free hy)
  have r2 := hg' _ y ms zs (r1.mono g) q1.1
  refine ⟨?_, _, _, _, r2, s2, q2, fun v H' ⟨m, S', t', r', s', em, q'⟩ => ?_⟩
  · rw [r2.length]; exact C.len _ _ _ q2
  · subst em
    unfold RM at r'
    exact ⟨r', .ref y, S', t1.trans (g.trans t'), by unfold RM; rfl, s', q'⟩
end
end Mv

set_option Elab.async false
set_option linter.all false
set_option maxRecDepth 100000
set_option maxHeartbeats 4000000
namespace Rw
open PySem PySem.Spec PyProof.Rows L2 Mv
/-! a Hook over a chosen part of the heap, and tables -/
def frcL {α : Type} : List Addr → (List Addr → α) → α
  | [], k => k []
  | a :: r, k => HandSHeadRun.frNat a fun a' => frcL r fun r' => k (a' :: r')
theorem frcL_eq {α : Type} : ∀ (l : List Addr) (k : List Addr → α), frcL l k = k l
  | [], k => rfl
  | a :: r, k => by
    show HandSHeadRun.frNat a (fun a' => frcL r fun r' => k (a' :: r')) = _
    rw [HandSHeadRun.frNat_eq, frcL_eq r]
def fnPart (fd : FuncData) : List Addr := He.refV fd.code ++ (He.refV fd.defaults ++ He.refV fd.kwdefaults)
def partOf (g : Addr → Option Obj) (a : Addr) : List Addr := match g a with
  | some o => (match o.data with
    | .func fd => a :: fnPart fd
    | .cls cd => a :: cd.ns :: (match g cd.ns with
      | some ns => (He.refsO ns).flatMap fun b => (match g b with
        | some ob => (match ob.data with
          | .func fd => b :: fnPart fd
          | _ => [])
        | none => [])
      | none => [])
    | .seq _ _ => [a]
    | _ => [])
  | none => []
def asX (g : Addr → Option Obj) : List Addr := mainGlobals :: (match g mainGlobals with
  | some o => (He.refsO o).flatMap (partOf g)
  | none => [])
abbrev AlX : Type := Bool × He.AlD
def obK (ts : List (Str × List He.Dv)) (fa : List He.Fa) (fn : List He.DefD) (K : PySem.W.Frag) : AlX := (ts.all fun t => He.tupB K t.1 t.2, He.obsD fa fn K)
structure SaysX (ts : List (Str × List He.Dv)) (fa : List He.Fa) (fn : List He.DefD) (K : PySem.W.Frag) : Prop where
  tabs : (ts.all fun t => He.tupB K t.1 t.2) = true
  says : He.SaysD fa fn K
theorem SaysX.tab {ts : List (Str × List He.Dv)} {fa : List He.Fa} {fn : List He.DefD} {K : PySem.W.Frag} (c : SaysX ts fa fn K) (i : Nat) {t : Str × List He.Dv} (h : ts[i]? = some t) : He.tupB K t.1 t.2 = true := List.all_eq_true.mp c.tabs t (List.mem_of_getElem? h)
def obsX (ts : List (Str × List He.Dv)) (fa : List He.Fa) (fn : List He.DefD) (g : Addr → Option Obj) : AlX := frcL (asX g) fun as => obK ts fa fn (He.frG g as)
theorem saysX_of {ts : List (Str × List He.Dv)} {fa : List He.Fa} {fn : List He.DefD} {K : PySem.W.Frag} (e : obK ts fa fn K = (true, He.valD fn)) : SaysX ts fa fn K := ⟨congrArg (fun z : AlX => z.1) e, congrArg (fun z : AlX => z.2) e⟩
/-! the code object of one def, and its table -/
def codeB (o : Obj) (c : Addr) : Option Addr := match o.data with
  | .fields vs => (match o.cls, (vs[11]? : Option Value), vs.getD 11 Value.none, vs.getD 18 Value.none, vs.getD 7 Value.none, vs.getD 9 Value.none, vs.getD 10 Value.none with
    | .type "code", some (Value.ref P), .ref P', .str _ _, .int _ _, .bool _, .int _ _ => if P = P' ∧ c ≠ P then some P else none
    | _, _, _, _, _, _, _ => none)
  | _ => none
theorem codeB_ok {o : Obj} {c P : Addr} {h : Heap} (e : codeB o c = some P) (hc : h.get? c = some o) : PySem.W.CodeHd h c P := by
  unfold codeB at e
  split at e
  · rename_i vs hd
    split at e
    · rename_i q1 q2 q3 q4 q5 q6 q7
      split at e
      · rename_i hp
        cases e
        obtain ⟨rfl, hne⟩ := hp
        exact ⟨o, vs, _, _, _, _, _, _, _, hc, q1, hd, q2, q3, q4, q5, q6, q7, hne⟩
      · cases e
    · cases e
  · cases e
def tabOf (K : PySem.W.Frag) (nm : Str) : Option (Addr × Addr) := match K.lookup (He.ga K nm) with
  | some ⟨_, _, .func fd, _⟩ => (match fd.code with
    | .ref c => (match K.lookup c with
      | some o => (codeB o c).map fun P => (c, P)
      | none => none)
    | _ => none)
  | _ => none
def emptyT (o : Option Obj) : Bool := match o with
  | some ⟨.none, none, .fields ⟨[]⟩, ⟨[]⟩⟩ => true
  | _ => false
theorem emptyT_ok {o : Option Obj} (h : emptyT o = true) : o = some { cls := .none, data := .fields #[] } := by
  unfold emptyT at h
  split at h
  · rfl
  · cases h
def tabB (g : Addr → Option Obj) (K : PySem.W.Frag) (nm : Str) : Bool := match tabOf K nm with
  | some (_, P) => emptyT (g P) && (K.lookup P).isNone
  | none => false
structure TabS (K : PySem.W.Frag) (nm : Str) (h : Heap) (c P : Addr) : Prop where
  code : ∀ oc od fd osl, K.lookup (He.ga K nm) = some ⟨oc, od, .func fd, osl⟩ → fd.code = .ref c
  hd : PySem.W.CodeHd h c P
  tab : h.get? P = some { cls := .none, data := .fields #[] }
  nK : K.lookup P = none
theorem tabB_ok {h : Heap} {K : PySem.W.Frag} {nm : Str} (hK : K.In h) (e : tabB h.get? K nm = true) : ∃ c P, TabS K nm h c P := by
  unfold tabB at e
  split at e
  · rename_i c P q
    have e' := Bool.and_eq_true_iff.mp e
    unfold tabOf at q
    split at q
    · rename_i oc od fd osl lk
      split at q
      · rename_i c' hc
        split at q
        · rename_i o lo
          cases ho : codeB o c' with
          | none => rw [ho] at q; cases q
          | some P' =>
            rw [ho] at q
            cases q
            refine ⟨c, P, fun oc' od' fd' osl' lk' => ?_, codeB_ok ho (hK c o lo), emptyT_ok e'.1, ?_⟩
            · rw [lk] at lk'
              cases lk'
              exact hc
            · simpa using e'.2
        · cases q
      · cases q
    · cases q
  · cases e
theorem TabS.keeps {K : PySem.W.Frag} {nm : Str} {h h' : Heap} {c P : Addr} (t : TabS K nm h c P) (k : ∀ b o, h.get? b = some o → h'.get? b = some o) : TabS K nm h' c P := ⟨t.code, t.hd.keeps k, k _ _ t.tab, t.nK⟩
abbrev AlY : Type := Bool × AlX
def obY (ts : List (Str × List He.Dv)) (fa : List He.Fa) (fn : List He.DefD) (nm : Str) (g : Addr → Option Obj) (K : PySem.W.Frag) : AlY := (tabB g K nm, obK ts fa fn K)
def obsY (ts : List (Str × List He.Dv)) (fa : List He.Fa) (fn : List He.DefD) (nm : Str) (g : Addr → Option Obj) : AlY := frcL (asX g) fun as => obY ts fa fn nm g (He.frG g as)
structure SaysY (ts : List (Str × List He.Dv)) (fa : List He.Fa) (fn : List He.DefD) (nm : Str) (K : PySem.W.Frag) (h : Heap) : Prop where
  says : SaysX ts fa fn K
  tab : ∃ c P, TabS K nm h c P
theorem saysY_of {ts : List (Str × List He.Dv)} {fa : List He.Fa} {fn : List He.DefD} {nm : Str} {h : Heap} {K : PySem.W.Frag} (hK : K.In h) (e : obY ts fa fn nm h.get? K = (true, (true, He.valD fn))) : SaysY ts fa fn nm K h :=
  ⟨saysX_of (congrArg (fun z : AlY => z.2) e), tabB_ok hK (congrArg (fun z : AlY => z.1) e)⟩
def hookY (ts : List (Str × List He.Dv)) (fa : List He.Fa) (fn : List He.DefD) (nm : Str) : PySem.W.Hook where
  α := AlY
  obs := fun s => obsY ts fa fn nm s.heap.get?
  val := fun _ => (true, (true, He.valD fn))
  says := fun _ h => ∃ K : PySem.W.Frag, K.In h ∧ SaysY ts fa fn nm K h
  of := fun _ s e => ⟨_, He.frG_in, saysY_of He.frG_in ((frcL_eq _ (fun as => obY ts fa fn nm s.heap.get? (He.frG s.heap.get? as))).symm.trans e)⟩
  keeps := fun _ _ _ ⟨K, hK, c⟩ k => ⟨K, PySem.W.Frag.In.keeps hK k, c.says, let ⟨a, P, t⟩ := c.tab; ⟨a, P, t.keeps k⟩⟩
theorem obsY_eq {ts : List (Str × List He.Dv)} {fa : List He.Fa} {fn : List He.DefD} {nm : Str} {g : Addr → Option Obj} {s : Shared} (h : ∀ a, g a = s.heap.get? a) : obsY ts fa fn nm g = (hookY ts fa fn nm).obs s := by
  have e : g = s.heap.get? := funext h
  rw [e] <;> rfl
/-! the classes' attributes -/
def atOf (L : List (String × List String)) (c f : String) : Bool := match L.lookup c with
  | some l => l.contains f
  | none => false
def AtF (K : PySem.W.Frag) (c : String) : List String → Prop
  | [] => True
  | f :: r => NoAttr K (He.ga K (so c)) (so f) ∧ AtF K c r
def AtAll (K : PySem.W.Frag) : List (String × List String) → Prop
  | [] => True
  | (c, l) :: r => (Cls K (He.ga K (so c)) ∧ AtF K c l) ∧ AtAll K r
theorem atF_mem {K : PySem.W.Frag} {c f : String} : ∀ {l : List String}, AtF K c l → f ∈ l → NoAttr K (He.ga K (so c)) (so f)
  | g :: r, h, m => by
    rcases List.mem_cons.mp m with e | e
    · subst e; exact h.1
    · exact atF_mem h.2 e
theorem at_ok {K : PySem.W.Frag} : ∀ {L : List (String × List String)}, AtAll K L → AtOk K (atOf L)
  | [], _, c, f, h => by cases h
  | (d, l) :: r, a, c, f, h => by
    unfold atOf at h
    by_cases e : c = d
    · subst e
      simp only [List.lookup_cons, beq_self_eq_true] at h
      exact ⟨a.1.1, atF_mem a.1.2 (by simpa using h)⟩
    · have e' : (c == d) = false := by simpa using e
      simp only [List.lookup_cons, e'] at h
      exact at_ok (L := r) a.2 c f h
end Rw

set_option Elab.async false
set_option linter.all false
set_option maxRecDepth 100000
set_option maxHeartbeats 4000000
namespace Mv
open PySem PySem.Spec PyProof.Rows L2 An Rw
theorem TabS.codeD {K : PySem.W.Frag} {nm x qual : Str} {params : Arguments} {body : List Stmt} {scope : Scope} {dvs : List V} {kws : List (Str × V)} {h : Heap} {c P : Addr} {fd : FuncData} (t : TabS K nm h c P) (F : FunD K x qual params body scope dvs kws (He.ga K nm) fd) : fd.code = .ref c := by
  obtain ⟨oc, od, dV, kV, doc, pm, an, cdv, ct, osl, e, lk, _⟩ := F.ex
  exact t.code _ _ _ _ lk
/-! which parameter takes which keyword, which default -/
def pick {α : Type} (i : Nat) (l : List α) : List α := (l.drop i).take 1
def selL {α : Type} (sel : List (Bool × Nat)) (mv ws : List α) : List α := match sel with
  | [] => []
  | (b, i) :: r => (match b with
    | true => pick i ws
    | false => pick i mv) ++ selL r mv ws
theorem vals_pick : ∀ (i : Nat) {vs : List V} {us : List Value}, Vals vs us → Vals (pick i vs) (pick i us)
  | _, _, _, .nil => by simp [pick]; exact .nil
  | 0, _, _, .cons a r => by simp [pick]; exact .cons a .nil
  | i + 1, _, _, .cons a r => by
    have := vals_pick i r
    simpa [pick] using this
theorem vals_sel {mz zs : List V} {mv ws : List Value} (a : Vals mz mv) (b : Vals zs ws) : ∀ sel : List (Bool × Nat), Vals (selL sel mz zs) (selL sel mv ws)
  | [] => .nil
  | (true, i) :: r => (vals_pick i b).append (vals_sel a b r)
  | (false, i) :: r => (vals_pick i a).append (vals_sel a b r)
theorem rms_sel {K : PySem.W.Frag} {H : Hp} {dM zM : List MV} {dV zV : List V} (a : RMs K H dM dV) (b : RMs K H zM zV) : ∀ sel : List (Bool × Nat), RMs K H (selL sel dM zM) (selL sel dV zV)
  | [] => RMs.nil
  | (true, i) :: r => ((b.drop i).take 1).append (rms_sel a b r)
  | (false, i) :: r => ((a.drop i).take 1).append (rms_sel a b r)
section
variable {P : Program} {w : World} {K : PySem.W.Frag} {mg : Str → Option Value} {base : Heap} {Z : List Addr} {x qual : Str} {params : Arguments} {body : List Stmt} {scope : Scope} {f : Addr} {fd : FuncData}
theorem calK_mk {N ps ks : List Str} {k : Nat} {mb : MS} {kws : List (Str × V)} (F : FunD K x qual params body scope [] kws f fd) (Sc : FnScope N ps scope) (sel : List (Bool × Nat)) (ms : List (Str × V)) (dM : List MV) (hk : kws ≠ []) (hms : ∀ q ∈ ms, q ∈ kws) (hd : ∀ H, RMs K H dM (ms.map (·.2)))
    (hch : ∀ (D : Addr) (doc pm : Value) (an : Option Addr) (cdv ct : Value) (us mv ws : List Value), us.length = 1 → mv.length = ms.length → ws.length = ks.length →
      KwChain D ((ms.map (·.1)).zip mv) (bindArgs (PySem.W.fnOf x qual params body scope .none (.ref D) doc pm an cdv ct) ⟨us, ks.zip ws⟩) (ps.zip (us ++ selL sel mv ws)))
    (hb : ∀ (cdv : Value) (A : Around) (outer : List PySem.Env) (s : Shared) (H : Hp) (E : XK), Room k (A.deeper (envOfC qual scope s.heap.objs.size f cdv)) → EB (cxOf CX0 P w K mg base N qual scope f cdv A outer s H E).nox Z body mb) :
    CalK P w K mg base Z f ps ks (k + 1) (defW ps.length N.length mb) (fun p zs => p :: selL sel dM zs) := by
  obtain ⟨mv, hB⟩ := F.kbinds0 1 ks ms (fun us mv ws => us ++ selL sel mv ws) hk hms (fun a b c => a.append (vals_sel b c sel)) hch
  exact ⟨⟨fd, _, _, fn_sp F Sc hb, hB, fun H p zs vs r hl => RMs.cons (by unfold RM; rfl) (rms_sel (hd H) r sel)⟩, fun ms S R h => h.1⟩
end
end Mv
namespace Mv
open PySem PySem.Spec PyProof.Rows L2 An Rw
/-- the law's call, its script in a list that is read or in the fixed part -/
theorem law_in {K : PySem.W.Frag} {tb a : Addr} {H : Hp} {ns : List Int} {W : MW} (hT : H tb = some (.tbl #[])) (hS : SqL K H a (ns.map V.int))
    (hW : ∀ (x : MV) (S0 : Sto), (∀ R, listV [x] S0 R = newL (ns.map MV.int) S0 R) → W [x] S0 (fun v _ => v = .bl true)) : spM K [tb] 1 W [.ref a] H (fun v _ => v = .bl true) fun _ _ _ => False := by
  have tab : GxR.TabG H tb := ⟨#[], hT, True.intro⟩
  have fin : ∀ (S : Sto) v H', MQ K [tb] S H (fun v _ => v = .bl true) v H' → v = .bl true := fun S v H' ⟨m, S', t, r, s, e⟩ => by
    subst e
    unfold RM at r
    exact r
  rcases hS with hS | hS
  · refine ⟨rfl, [.ref a], supd sto0 a (.rl (ns.map .int)), _, RMs.cons (by unfold RM; rfl) RMs.nil, ⟨fun b o e => ?_, fun P hP => ?_⟩, hW _ _ fun R => ?_, fin _⟩
    · by_cases hb : b = a
      · subst hb
        rw [supd_same] at e
        cases e
        exact ⟨_, hS, rms_ints ns⟩
      · rw [supd_ne hb] at e
        cases e
    · cases List.mem_singleton.mp hP
      exact tab
    · show (match lookL (supd sto0 a (.rl (ns.map .int))) a with | some l => newL l _ R | none => False) = _
      unfold lookL
      rw [supd_same]
  · refine ⟨rfl, [.frz (ns.map .int)], sto0, _, RMs.cons (by unfold RM; exact ⟨a, _, rfl, .inr hS, rms_ints ns⟩) RMs.nil, ⟨fun b o e => (by cases e), fun P hP => ?_⟩, hW _ _ fun R => rfl, fin _⟩
    cases List.mem_singleton.mp hP
    exact tab
end Mv

set_option Elab.async false
set_option linter.all false
set_option maxRecDepth 100000
set_option maxHeartbeats 4000000
/-! Lists by value: what is made and never written again. -/
namespace Mv
open PySem PySem.Spec PyProof.Rows L2
def sdel (S : Sto) (a : Addr) : Sto := fun b => if b = a then none else S b
theorem sdel_supd {S : Sto} {a : Addr} {o : MO} (h : S a = none) : sdel (supd S a o) a = S := by
  funext b
  unfold sdel supd
  by_cases e : b = a
  · subst e; rw [if_pos rfl, h]
  · rw [if_neg e, if_neg e]
/-- a new list is shown by value -/
def fzK (R : MK) : MK := fun v S => match v with
  | .ref a => (match S a with
    | some (.lst l) => R (.frz l) (sdel S a)
    | _ => False)
  | v => R v S
theorem fz_new {R : MK} {l : List MV} {S : Sto} (h : R (.frz l) S) : newL l S (fzK R) := fun p hp => by
  unfold fzK
  simp only [supd_same, sdel_supd hp]
  exact h
section
variable {K : PySem.W.Frag} {Z : List Addr}
theorem GK.lockd {S S' : Sto} {H H' : Hp} {a : Addr} {m : MO} {xs : List V} {od : Obj} (g : GK K S H S' H') (ha : S' a = some m) (hx : H' a = some (.lst xs)) : GK K S H (sdel S' a) (upd H' a (.frz od (.lst xs))) :=
  ⟨g.tk.trans (TK.lst hx), fun b o n e nt => by
    obtain ⟨e1, n1⟩ := g.fr b o n e nt
    have hne : b ≠ a := fun z => by subst z; rw [ha] at n1; cases n1
    refine ⟨by rw [upd_ne hne]; exact e1, ?_⟩
    unfold sdel
    rw [if_neg hne]; exact n1⟩
theorem RS.lockd {S : Sto} {H : Hp} {a : Addr} {xs : List V} {od : Obj} (r : RS K Z S H) (hx : H a = some (.lst xs)) : RS K Z (sdel S a) (upd H a (.frz od (.lst xs))) :=
  ⟨fun b u e => by
    unfold sdel at e
    by_cases hb : b = a
    · rw [if_pos hb] at e; cases e
    · rw [if_neg hb] at e
      exact (r.ob b u e).monoT (TK.lst hx) (upd_ne hb), fun P hP => TabG.upd (r.tab P hP) fun ps e => by rw [hx] at e; cases e⟩
theorem RM.lockd {H : Hp} {a : Addr} {xs : List V} {l : List MV} {od : Obj} (hx : H a = some (.lst xs)) (r : RMs K H l xs) : RM K (upd H a (.frz od (.lst xs))) (.frz l) (.ref a) := by
  unfold RM
  exact ⟨a, xs, rfl, .inl ⟨od, upd_same⟩, RMs.monoT (TK.lst hx) l r⟩
end
section
variable {X : Cx} {Z : List Addr} {e : Expr} {m mv : ME} {st : Stmt} {ms : MS} {pos pos' : Pos} {es : List Expr} {mas : MA}
theorem fz_read {σ : L2.St} {pins : List (Addr × Obj)} {S : Sto} {H : Hp} {R : MK} {u : Value} {s' : Shared} (q : EP X pins σ (MQ X.K Z S H (fzK R)) u s') : EP X pins σ (MQ X.K Z S H R) u s' := by
  obtain ⟨v, H', I', r, m, S', g, rm, rs, q⟩ := q
  cases m with
  | ref a =>
    have q : (match S' a with
      | some (.lst l) => R (.frz l) (sdel S' a)
      | _ => False) := q
    split at q
    · rename_i l ha
      obtain ⟨xs, hx, rl⟩ := rs.lst ha
      obtain ⟨od, I2⟩ := I'.lock hx (show Mut (some (HO.lst xs)) from trivial)
      unfold RM at rm
      subst rm
      exact ⟨.ref a, _, I2, r, .frz l, _, g.lockd ha hx, RM.lockd hx rl, rs.lockd hx, q⟩
    · exact q.elim
  | _ => exact ⟨v, H', I', r, _, S', g, rm, rs, q⟩
theorem ee_fz (h : EE X Z e m) : EE X Z e (fun ρ S R => m ρ S (fzK R)) :=
  ⟨fun σ H ρ S R hE hS hm pins s I => thn (h.run σ H ρ S _ hE hS hm pins s I) fun u s' q => fz_read q⟩
/-- upward -/
def upE (m : ME) : ME := fun ρ S R => ∃ R' : MK, m ρ S R' ∧ ∀ v S', R' v S' → R v S'
def upA (m : MA) : MA := fun ρ S R => ∃ R' : List MV → Sto → Prop, m ρ S R' ∧ ∀ v S', R' v S' → R v S'
def upT (m : MT) : MT := fun ρ S R => ∃ R' : Bool → Sto → Prop, m ρ S R' ∧ ∀ v S', R' v S' → R v S'
def upI (m : MI) : MI := fun ρ S R => ∃ R' : Items → Sto → Prop, m ρ S R' ∧ ∀ v S', R' v S' → R v S'
def upP (m : mPart) : mPart := fun ρ S R => ∃ R' : Option Int → Sto → Prop, m ρ S R' ∧ ∀ v S', R' v S' → R v S'
theorem MQ.imp {K : PySem.W.Frag} {S : Sto} {H : Hp} {R R' : MK} (h : ∀ v S', R' v S' → R v S') {v : V} {H' : Hp} (q : MQ K Z S H R' v H') : MQ K Z S H R v H' :=
  let ⟨m, S', a, b, c, d⟩ := q; ⟨m, S', a, b, c, h _ _ d⟩
theorem MQs.imp {K : PySem.W.Frag} {S : Sto} {H : Hp} {R R' : List MV → Sto → Prop} (h : ∀ v S', R' v S' → R v S') {v : List V} {H' : Hp} (q : MQs K Z S H R' v H') : MQs K Z S H R v H' :=
  let ⟨m, S', a, b, c, d⟩ := q; ⟨m, S', a, b, c, h _ _ d⟩
theorem MQb.imp {K : PySem.W.Frag} {S : Sto} {H : Hp} {R R' : Bool → Sto → Prop} (h : ∀ v S', R' v S' → R v S') {v : Bool} {H' : Hp} (q : MQb K Z S H R' v H') : MQb K Z S H R v H' :=
  let ⟨S', a, b, d⟩ := q; ⟨S', a, b, h _ _ d⟩
theorem ee_up (h : EE X Z e m) : EE X Z e (upE m) :=
  ⟨fun σ H ρ S R hE hS ⟨R', hm, hR⟩ pins s I => thn (h.run σ H ρ S _ hE hS hm pins s I) fun u s' ⟨v, H', I', r, q⟩ => ⟨v, H', I', r, q.imp hR⟩⟩
theorem et_up {c : Expr} {mt : MT} (h : ET X Z c mt) : ET X Z c (upT mt) :=
  ⟨fun σ H ρ S R hE hS ⟨R', hm, hR⟩ pins s I => thn (h.run σ H ρ S _ hE hS hm pins s I) fun u s' ⟨H', I', q⟩ => ⟨H', I', q.imp hR⟩⟩
theorem ea_up (h : EA X Z es mas) : EA X Z es (upA mas) :=
  ⟨PA.imp h.pa fun σ H Q ⟨ρ, S, R, hE, hS, ⟨R', hm, hR⟩, hQ⟩ => ⟨ρ, S, R', hE, hS, hm, fun v H' q => hQ v H' (q.imp hR)⟩⟩
theorem ets_up {ifs : List Expr} {mt : MT} (h : ETs X Z ifs mt) : ETs X Z ifs (upT mt) :=
  ⟨PTs.imp h.pts fun σ H Q ⟨ρ, S, R, hE, hS, ⟨R', hm, hR⟩, hQ⟩ => ⟨ρ, S, R', hE, hS, hm, fun v H' q => hQ v H' (q.imp hR)⟩⟩
theorem ei_up {tg iter : Expr} {mi : MI} (h : EI X Z tg iter mi) : EI X Z tg iter (upI mi) := by
  obtain ⟨wi, w1, w2⟩ := h.pi
  exact ⟨wi, w1, fun σ H ρ S R R' hE hS ⟨R2, hm, hR⟩ hQ => w2 σ H ρ S R2 R' hE hS hm fun J H' ⟨I, S', a, b, c, d⟩ => hQ J H' ⟨I, S', a, b, c, hR _ _ d⟩⟩
theorem eo_up {e : Option Expr} {m : mPart} (h : EO X Z e m) : EO X Z e (upP m) := by
  obtain ⟨t, w1, w2⟩ := h.po
  exact ⟨t, w1, fun σ H ρ S R Q hE hS ⟨R2, hm, hR⟩ hQ => w2 σ H ρ S R2 Q hE hS hm fun o H' ⟨S', a, b, d⟩ => hQ o H' ⟨S', a, b, hR _ _ d⟩⟩
theorem ee_imp (h : EE X Z e m) (k : ∀ ρ S R, mv ρ S R → m ρ S R) : EE X Z e mv := ⟨fun σ H ρ S R hE hS hm pins s I => h.run σ H ρ S R hE hS (k ρ S R hm) pins s I⟩
/-- a new list by value -/
theorem ee_val (h : EE X Z e m) (k : ∀ ρ S R, mv ρ S R → m ρ S (fzK R)) : EE X Z e mv := ee_imp (ee_fz h) k
/-! the displays and calls by value -/
def mLstV (ms : MA) : ME := fun ρ S R => ms ρ S fun l S1 => l.length ≤ sizeLine ∧ R (.frz l) S1
theorem ee_lstV (h : EA X Z es mas) : EE X Z (.List es pos) (mLstV mas) :=
  ee_val (ee_lst (ea_up h)) fun ρ S R hm => ⟨_, hm, fun l S1 q => ⟨q.1, fz_new q.2⟩⟩
/-- any reading, its new list by value -/
def mFz (m : ME) : ME := fun ρ S R => m ρ S (fzK R)
theorem ee_mfz (h : EE X Z e m) : EE X Z e (mFz m) := ee_fz h
def listVV : MF := fun ms S R => match ms with
  | [.tup l] => R (.frz l) S
  | [.frz l] => R (.frz l) S
  | [.ref a] => (match lookL S a with
    | some l => R (.frz l) S
    | none => False)
  | _ => False
theorem listVV_ok {ms : List MV} {S : Sto} {R : MK} (h : listVV ms S R) : listV ms S (fzK R) := by
  unfold listVV at h
  split at h
  · exact fz_new h
  · exact fz_new h
  · rename_i a
    cases e : lookL S a with
    | none => simp only [e] at h
    | some l =>
      simp only [e] at h
      simp only [listV, e]
      exact fz_new h
  · exact h.elim
theorem ee_cbV {f g : MF} (hf : ∀ ms S R, g ms S R → f ms S (fzK R)) (h : EA X Z es mas → EE X Z e (mCB f (upA mas))) (ha : EA X Z es mas) : EE X Z e (mCB g mas) :=
  ee_val (h ha) fun ρ S R hm => ⟨_, hm, fun l S1 q => hf _ _ _ q⟩
def slVV (x : MV) (lo hi : Option Int) (S : Sto) (R : MK) : Prop := match x with
  | .tup l => R (.tup (cutM l lo hi)) S
  | .ref a => (match lookL S a with
    | some l => R (.frz (cutM l lo hi)) S
    | none => False)
  | .frz l => R (.frz (cutM l lo hi)) S
  | _ => False
theorem slVV_ok {x : MV} {lo hi : Option Int} {S : Sto} {R : MK} (h : slVV x lo hi S R) : slV x lo hi S (fzK R) := by
  cases x with
  | tup l => exact h
  | ref a =>
    cases e : lookL S a with
    | none => simp only [slVV, e] at h
    | some l =>
      simp only [slVV, e] at h
      simp only [slV, e]
      exact fz_new h
  | frz l => exact fz_new (R := R) h
  | _ => exact False.elim h
def mSlV (ma : ME) (lo hi : mPart) : ME := fun ρ S R => ma ρ S fun x S1 => lo ρ S1 fun l S2 => hi ρ S2 fun u S3 => slVV x l u S3 R
theorem ee_sliceV {lo hi : Option Expr} {ml mh : mPart} {p2 : Pos} (he : EE X Z e m) (hl : EO X Z lo ml) (hh : EO X Z hi mh) : EE X Z (.Subscript e (.Slice lo hi none p2) pos) (mSlV m ml mh) :=
  ee_val (ee_slice (ee_up he) (eo_up hl) (eo_up hh)) fun ρ S R hm => ⟨_, hm, fun x S1 q => ⟨_, q, fun l S2 q => ⟨_, q, fun u S3 q => slVV_ok q⟩⟩⟩
def revVV (x : MV) (S : Sto) (R : MK) : Prop := match x with
  | .ref a => (match lookL S a with
    | some l => R (.frz l.reverse) S
    | none => False)
  | .frz l => R (.frz l.reverse) S
  | _ => False
def mRevV (ma : ME) : ME := fun ρ S R => ma ρ S fun x S1 => revVV x S1 R
theorem ee_revV {k : Nat} {p1 p2 p3 : Pos} (he : EE X Z e m) : EE X Z (.Subscript e (.Slice none none (some (.UnaryOp .USub (.Constant (.int 1) k p1) p2)) p3) pos) (mRevV m) :=
  ee_val (ee_rev (ee_up he)) fun ρ S R hm => ⟨_, hm, fun x S1 q => by
    cases x with
    | ref a =>
      cases e : lookL S1 a with
      | none => simp only [revVV, e] at q
      | some l =>
        simp only [revVV, e] at q
        simp only [e]
        exact fz_new q
    | frz l => exact fz_new (R := R) q
    | _ => exact False.elim q⟩
def addVV : M2 := fun x y S R => match x, y with
  | .int i, .int j => R (.int (i + j)) S
  | .tup l, .tup k => l.length + k.length ≤ sizeLine ∧ R (.tup (l ++ k)) S
  | .frz l, .frz k => l.length + k.length ≤ sizeLine ∧ R (.frz (l ++ k)) S
  | .ref a, .ref b => (match S a, S b with
    | some (.lst l), some (.lst k) => l.length + k.length ≤ sizeLine ∧ R (.frz (l ++ k)) S
    | _, _ => False)
  | _, _ => False
theorem addVV_ok {x y : MV} {S : Sto} {R : MK} (h : addVV x y S R) : addV x y S (fzK R) := by
  unfold addVV at h
  split at h
  · exact h
  · exact h
  · exact ⟨h.1, fz_new h.2⟩
  · rename_i a b
    split at h
    · rename_i l k e1 e2
      simp only [addV, e1, e2]
      exact ⟨h.1, fz_new h.2⟩
    · exact h.elim
  · exact h.elim
theorem ee_addV {a b : Expr} {ma mb : ME} (ha : EE X Z a ma) (hb : EE X Z b mb) : EE X Z (.BinOp a .Add b pos) (mOp addVV ma mb) :=
  ee_val (ee_op ro_add (ee_up ha) (ee_up hb)) fun ρ S R hm => ⟨_, hm, fun x S1 q => ⟨_, q, fun y S2 q => addVV_ok q⟩⟩
end
/-! comprehensions by value -/
mutual
theorem bindP_imp : ∀ (p : Pat) (v : MV) (S : Sto) (ρ : Env) {k k' : Env → Prop}, (∀ ρ, k ρ → k' ρ) → bindP p v S ρ k → bindP p v S ρ k'
  | .nm i, v, S, ρ, k, k', hk, h => by unfold bindP at h ⊢; exact hk _ h
  | .tp ps, v, S, ρ, k, k', hk, h => by
    unfold bindP at h ⊢
    cases v with
    | tup l => exact bindL_imp ps _ S ρ hk h
    | ref a =>
      dsimp only at h ⊢
      split at h
      · rename_i l e
        exact bindL_imp ps _ S ρ hk h
      · exact h.elim
    | frz l => exact bindL_imp ps _ S ρ hk h
    | _ => exact h.elim
theorem bindL_imp : ∀ (ps : List Pat) (l : List MV) (S : Sto) (ρ : Env) {k k' : Env → Prop}, (∀ ρ, k ρ → k' ρ) → bindL ps l S ρ k → bindL ps l S ρ k'
  | [], l, S, ρ, k, k', hk, h => by unfold bindL at h ⊢; exact ⟨h.1, hk _ h.2⟩
  | p :: ps, [], S, ρ, k, k', hk, h => by unfold bindL at h; exact h.elim
  | p :: ps, v :: r, S, ρ, k, k', hk, h => by
    unfold bindL at h ⊢
    exact bindP_imp p v S ρ (fun ρ' h => bindL_imp ps r S ρ' hk h) h
end
theorem lcL_up {k : List (Addr × List MV)} {pt : Pat} {tt : MT} {te : ME} {ρ : Env} {Q Q' : List MV → Sto → Prop} (hQ : ∀ l S, Q l S → Q' l S) : ∀ (vs acc : List MV) (S : Sto), lcL k pt tt te ρ Q vs acc S → lcL k pt (upT tt) (upE te) ρ Q' vs acc S
  | [], acc, S, h => by unfold lcL at h ⊢; exact ⟨h.1, hQ _ _ h.2⟩
  | v :: r, acc, S, h => by
    unfold lcL at h ⊢
    refine ⟨h.1, bindP_imp pt v S ρ (fun ρ' h => ⟨_, h, fun b S1 q => ?_⟩) h.2⟩
    cases b with
    | true => exact ⟨_, q, fun y S2 q => ⟨q.1, lcL_up hQ r _ S2 q.2⟩⟩
    | false => exact lcL_up hQ r _ S1 q
def mLcV (mi : MI) (pt : Pat) (tt : MT) (te : ME) (vs : List Nat) : ME := fun ρ S R => mi ρ S fun I S1 => lcL I.keep pt tt te (wipeM ρ vs) (fun l S2 => R (.frz l) S2) I.vs [] S1
theorem lcV_ok {mi : MI} {pt : Pat} {tt : MT} {te : ME} {vs : List Nat} {ρ : Env} {S : Sto} {R : MK} (h : mLcV mi pt tt te vs ρ S R) : mLc (upI mi) pt (upT tt) (upE te) vs ρ S (fzK R) :=
  ⟨_, h, fun I S1 q => lcL_up (fun l S2 q => fz_new q) _ _ _ q⟩
section
variable {X : Cx} {Z : List Addr} {pos : Pos} {tg iter : Expr}
variable {elt : Expr} {ifs : List Expr} {scope : Scope} {own : List (Str × Nat)} {vs : List Nat} {mi : MI} {pt : Pat} {tt : MT} {te : ME}
theorem ee_lcV (hc : X.calm = true) (hN : X.N.Nodup) (hi : EI X Z tg iter mi) (ok : BlkOk X.N X.env.scope scope own)
    (hg : ∀ (s : Shared) (H : Hp) (C : Addr) (cl : List (Str × Addr)) (fp : List Addr), EG (X.blk s H scope (compEnvC scope cl C X.env) fp) Z tg pt)
    (ht : ∀ (s : Shared) (H : Hp) (C : Addr) (cl : List (Str × Addr)) (fp : List Addr), ETs (X.blk s H scope (compEnvC scope cl C X.env) fp) Z ifs tt)
    (he : ∀ (s : Shared) (H : Hp) (C : Addr) (cl : List (Str × Addr)) (fp : List Addr), EE (X.blk s H scope (compEnvC scope cl C X.env) fp) Z elt te)
    (hvs : own.map (·.2) = vs := by rfl) (hsl : ∀ j ∈ pt.slots, j ∈ vs := by decide) (hs : ∀ x, foldedSetIterable iter X.env x = pure x := by intro _; kernel_rfl) : EE X Z (.ListComp elt [⟨tg, iter, ifs, 0⟩] scope pos) (mLcV mi pt tt te vs) :=
  ee_val (ee_lc hc hN (ei_up hi) ok hg (fun a b c d f => ets_up (ht a b c d f)) (fun a b c d f => ee_up (he a b c d f)) hvs hsl hs) fun ρ S R hm => lcV_ok hm
/-- slot i is shown by value -/
def fzD (i : Nat) (k : Env → Sto → Prop) : Env → Sto → Prop := fun ρ1 S1 => ∃ (ρ : Env) (a : Addr) (l : List MV), ρ1 = ρ.set i (some (.ref a)) ∧ S1 a = some (.lst l) ∧ k (ρ.set i (some (.frz l))) (sdel S1 a)
theorem RE.setV {K : PySem.W.Frag} {H : Hp} {ρ : Env} {σ : L2.St} {i : Nat} {m m' : MV} (r : RE K H (ρ.set i (some m)) σ) (q : ∀ x, RM K H m x → RM K H m' x) : RE K H (ρ.set i (some m')) σ := by
  refine ⟨by have := r.len; rw [List.length_set] at this ⊢; exact this, fun j u e => ?_⟩
  by_cases z : i = j
  · subst z
    have hl : i < ρ.length := by
      have := (List.getElem?_eq_some_iff.mp e).1
      simpa using this
    rw [List.getElem?_set_self hl] at e
    cases e
    obtain ⟨x, e1, e2⟩ := r.at_ i m (List.getElem?_set_self hl)
    exact ⟨x, e1, q x e2⟩
  · rw [List.getElem?_set_ne z] at e
    exact r.at_ j u (by rw [List.getElem?_set_ne z]; exact e)
theorem es_fzD {st : Stmt} {ms : MS} (i : Nat) (h : ES X Z st ms) : ES X Z st (fun D ρ S => ms { D with nx := fzD i D.nx } ρ S) :=
  ⟨⟨fun pins s σ H D I ⟨ρ, S, D', hE, hS, hm, h1, h2, h3, h4⟩ => by
    refine thn (h.ps.run pins s σ H { D with nx := fun σ' H' => MQd X.K Z S H (fzD i D'.nx) σ' H' } I ⟨ρ, S, { D' with nx := fzD i D'.nx }, hE, hS, hm, fun σ' H' q => q, h2, h3, h4⟩) fun f s' q => ?_
    cases f with
    | next =>
      obtain ⟨σ', H', I', ρ', S', g, e', rs, ρ0, a, l, rfl, ha, q⟩ := q
      obtain ⟨xs, hx, rl⟩ := rs.lst ha
      obtain ⟨od, I2⟩ := I'.lock hx (show Mut (some (HO.lst xs)) from trivial)
      refine ⟨σ', _, I2, h1 _ _ ⟨_, _, g.lockd ha hx, ?_, rs.lockd hx, q⟩⟩
      refine RE.setV (m := .ref a) (e'.monoT (TK.lst hx)) fun x rx => ?_
      unfold RM at rx
      subst rx
      exact RM.lockd hx rl
    | brk => exact q
    | cont => exact q
    | ret v => exact q⟩⟩
theorem es_imp {st : Stmt} {ms ms' : MS} (h : ES X Z st ms) (k : ∀ D ρ S, ms' D ρ S → ms D ρ S) : ES X Z st ms' :=
  ⟨PS.imp h.ps fun D σ H ⟨ρ, S, D', hE, hS, hm, r⟩ => ⟨ρ, S, D', hE, hS, k _ _ _ hm, r⟩⟩
theorem es_setlcV {i : Nat} {y : Str} {py spos : Pos} (hc : X.calm = true) (hN : X.N.Nodup) (hy : X.N[i]? = some y) (hyl : X.env.scope.names.lookup y = some .local)
    (hsw : swapsWith (.ListComp elt [⟨tg, iter, ifs, 0⟩] scope pos) (some (.Name y py)) spos.line X.env = pure true) (hi : EI X Z tg iter mi) (ok : BlkOk X.N X.env.scope scope own)
    (hg : ∀ (s : Shared) (H : Hp) (C : Addr) (cl : List (Str × Addr)) (fp : List Addr), EG (X.blk s H scope (compEnvC scope cl C X.env) fp) Z tg pt)
    (ht : ∀ (s : Shared) (H : Hp) (C : Addr) (cl : List (Str × Addr)) (fp : List Addr), ETs (X.blk s H scope (compEnvC scope cl C X.env) fp) Z ifs tt)
    (he : ∀ (s : Shared) (H : Hp) (C : Addr) (cl : List (Str × Addr)) (fp : List Addr), EE (X.blk s H scope (compEnvC scope cl C X.env) fp) Z elt te)
    (hvs : own.map (·.2) = vs := by rfl) (hsl : ∀ j ∈ pt.slots, j ∈ vs := by decide) (hs : ∀ x, foldedSetIterable iter X.env x = pure x := by intro _; kernel_rfl) :
    ES X Z (.Assign [.Name y py] (.ListComp elt [⟨tg, iter, ifs, 0⟩] scope pos) spos) (msSet i (mLcV mi pt tt te vs)) :=
  es_imp (es_fzD i (es_setlc hc hN hy hyl hsw (ei_up hi) ok hg (fun a b c d f => ets_up (ht a b c d f)) (fun a b c d f => ee_up (he a b c d f)) hvs hsl hs)) fun D ρ S h =>
    ⟨_, h, fun I S1 q => lcL_up (fun l S2 q p hp => ⟨ρ, p, l, rfl, supd_same, by rw [sdel_supd hp]; exact q⟩) _ _ _ q⟩
end
end Mv

set_option Elab.async false
set_option linter.all false
set_option maxRecDepth 100000
set_option maxHeartbeats 4000000
/-! t[::-1] of a tuple. -/
namespace HT
open PySem PySem.Spec PyProof.Rows
variable {prog : Program} {w : World} {A : Around} {E : Value → Shared → Prop} {s : Shared}
theorem adjust_rev (n : Nat) : Builtin.Slice.sliceAdjust none none (-1) (n : Int) = ((n : Int) - 1, -1) := by
  unfold Builtin.Slice.sliceAdjust
  simp
theorem places_rev (n : Nat) : Builtin.Slice.slicePlaces ((n : Int) - 1) (-1) (-1) = n := by
  unfold Builtin.Slice.slicePlaces
  have h1 : ¬ ((-1 : Int) > 0) := by decide
  simp only [h1, if_false]
  by_cases h : (n : Int) - 1 > -1
  · rw [if_pos h, show (- -1 : Int) = 1 by decide, Int.ediv_one]
    omega
  · rw [if_neg h]
    omega
theorem sliceApplied_rev {sl : Addr} {vl vu vs : Value} {n : Nat} {Q : Int × Int × Nat → Shared → Prop} (hs : s.heap.IsSliceOf sl vl vu vs) (pl : IsPart vl none) (pu : IsPart vu none) (ps : IsPart vs (some (-1)))
    (h : Q ((n : Int) - 1, -1, n) s) : wpAny (model prog w) A (Builtin.Slice.sliceApplied (.ref sl) (pure (n : Int))) Q E s := by
  obtain ⟨os, hos, hcs, hds⟩ := id hs
  unfold Builtin.Slice.sliceApplied Builtin.Slice.sliceFields
  refine wpAny_bind (wpAny_bind (wpAny_field hos hds (x := vl) rfl (wpAny_bind (wpAny_field hos hds (x := vu) rfl (wpAny_bind (wpAny_field hos hds (x := vs) rfl (wpAny_pure ?_)))))))
  refine wpAny_bind (slicePart_ ps ?_)
  show wpAny _ _ (if ((-1 : Int) == 0) = true then _ else _) _ _ s
  rw [if_neg (by decide)]
  refine wpAny_bind (slicePart_ pl (wpAny_bind (slicePart_ pu (wpAny_bind (wpAny_pure ?_)))))
  show wpAny _ _ (match Builtin.Slice.sliceAdjust none none (-1) (n : Int) with | (lo, hi) => pure (lo, (-1 : Int), Builtin.Slice.slicePlaces lo hi (-1))) _ _ s
  rw [adjust_rev n]
  show wpAny _ _ (pure ((n : Int) - 1, (-1 : Int), Builtin.Slice.slicePlaces ((n : Int) - 1) (-1) (-1))) _ _ s
  rw [places_rev]
  exact wpAny_pure h
theorem filterMap_getR : ∀ (n : Nat) (xs : List Value), n ≤ xs.length → (List.range n).filterMap (fun m => xs[n - 1 - m]?) = (xs.take n).reverse
  | 0, xs, _ => by simp
  | n + 1, xs, h => by
    have ih := filterMap_getR n xs (by omega)
    rw [List.range_succ_eq_map, List.filterMap_cons, List.filterMap_map]
    have hn : n < xs.length := by omega
    have e0 : xs[n + 1 - 1 - 0]? = some xs[n] := by simp [hn]
    rw [e0]
    dsimp only
    have e1 : ((fun m => xs[n + 1 - 1 - m]?) ∘ Nat.succ) = fun m => xs[n - 1 - m]? := by
      funext m
      show xs[n + 1 - 1 - (m + 1)]? = _
      congr 1
      omega
    rw [e1, ih, List.take_succ, List.getElem?_eq_getElem hn, List.reverse_append]
    rfl
theorem pick_rev (xs : Array Value) : ((List.range xs.size).filterMap fun (m : Nat) => xs[(((xs.size : Nat) : Int) - 1 + (m : Int) * (-1)).toNat]?).toArray = xs.toList.reverse.toArray := by
  have e : (fun (m : Nat) => xs[(((xs.size : Nat) : Int) - 1 + (m : Int) * (-1)).toNat]?) = fun m => xs.toList[xs.size - 1 - m]? := by
    funext m
    have : (((xs.size : Nat) : Int) - 1 + (m : Int) * (-1)).toNat = xs.size - 1 - m := by omega
    rw [this, Array.getElem?_toList]
  rw [e, filterMap_getR xs.size xs.toList (by simp), List.take_of_length_le (by simp)]
theorem getItem_tuple_rev {t sl : Addr} {items : Array Value} {vl vu vs : Value} {Q : Value → Shared → Prop} (ht : IsTup s.heap t items) (hs : s.heap.IsSliceOf sl vl vu vs) (pl : IsPart vl none) (pu : IsPart vu none) (ps : IsPart vs (some (-1)))
    (h : Q (.ref s.heap.objs.size) { s with heap := s.heap.push { cls := .type "tuple", data := .seq items.toList.reverse.toArray } })
    (hsz : items.size ≤ sizeLine) : wpAny (model prog w) A (getItem (.ref t) (.ref sl)) Q E s := by
  have htake : sizeOk (.seq items.toList.reverse.toArray) := by
    show items.toList.reverse.toArray.size ≤ sizeLine
    rw [List.size_toArray, List.length_reverse, Array.length_toList]
    exact hsz
  obtain ⟨os, hos, hcs, hds⟩ := id hs
  have hTs : s.TypeIs (.ref sl) "slice" := ⟨os, hos, hcs⟩
  unfold getItem
  try with_reducible refine wpAny_holding ?_
  first | refine wpAny_bind (wpAny_pure ?_) | skip
  refine wpAny_bind (wpAny_sequenceKey ht.typeIs (by decide) ?_)
  refine wpAny_bind (wpAny_callSpecial?_slot (name := Str.ofString "__getitem__") ht.typeIs PyProof.Rows.slot_tuple_getitem
    (wpAny_call_entry PyProof.Rows.slot_tuple_getitem ht.typeIs entry_tuple_getitem ?_ (args_tuple_getitem _ _)))
  show wpAny _ _ (Builtin.Tuple.tupleItemsOf (.ref t) >>= _) _ _ s
  refine wpAny_bind (tupleItemsOf_ ht ?_)
  refine wpAny_bind (wpAny_typeOf hTs ?_)
  rw [if_pos (by decide)]
  refine wpAny_bind (sliceApplied_rev hs pl pu ps ?_)
  have hno : ¬ ((((items.size : Nat) : Int) - 1 == 0 && (-1 : Int) == 1 && items.size == items.size) = true) := by
    intro q
    rw [Bool.and_eq_true, Bool.and_eq_true] at q
    exact absurd q.1.2 (by decide)
  show wpAny _ _ (if (((items.size : Nat) : Int) - 1 == 0 && (-1 : Int) == 1 && items.size == items.size) = true then _ else _) _ _ s
  rw [if_neg hno, pick_rev]
  first
    | exact wpAny_bind (m := Builtin.Tuple.tupleExact _) (wpAny_newObj_type (wpAny_pure ⟨_, rfl, wpAny_pure h⟩) htake)
    | exact wpAny_bind (m := Builtin.Tuple.tupleExact _) (wpAny_newObj_type (wpAny_bind (wpAny_pure (wpAny_pure ⟨_, rfl, wpAny_pure h⟩))) htake)
    | exact wpAny_bind (wpAny_bind (m := Builtin.Tuple.tupleExact _) (wpAny_newObj_type (wpAny_pure (wpAny_pure ⟨_, rfl, wpAny_pure h⟩)) htake))
    | exact wpAny_bind (wpAny_bind (m := Builtin.Tuple.tupleExact _) (wpAny_newObj_type (wpAny_pure ⟨_, rfl, wpAny_pure h⟩) htake))
end HT
namespace Mv
open PySem PySem.Spec PyProof.Rows L2
section
variable {X : Cx} {Z : List Addr} {e : Expr} {m : ME} {pos : Pos}
def tRevA (K : PySem.W.Frag) (te : TE) : TE := fun σ H Q => te σ H fun x H1 => ∃ a xs, x = .ref a ∧ ((SqL K H1 a xs ∧ ∀ p, H1 p = none → Q (.ref p) (upd H1 p (.lst xs.reverse))) ∨ (SqT K H1 a xs ∧ ∀ p, H1 p = none → Q (.ref p) (upd H1 p (.tup xs.reverse))))
theorem pe_revA {te : TE} {k : Nat} {p1 p2 p3 : Pos} (he : PE X e te) : PE X (.Subscript e (.Slice none none (some (.UnaryOp .USub (.Constant (.int 1) k p1) p2)) p3) pos) (tRevA X.K te) := by
  refine ⟨fun pins s σ H Q I h => ?_⟩
  refine Subscript_ (thn (he.run pins s σ H _ I h) fun v s1 ⟨x, H1, I1, r1, q1⟩ => ?_)
  obtain ⟨a, xs, ex, q1⟩ := q1
  subst ex
  cases r1
  have hst : PO X (some (.UnaryOp .USub (.Constant (.int 1) k p1) p2)) (tPart (tUn (rU fun i => .int (-i)) (tC (.int 1)))) := po_some (pe_un un_neg pe_int)
  refine wpAny_Slice (thn (po_none.run pins s1 σ H1 (fun o H2 => o = none ∧ H2 = H1) I1 ⟨rfl, rfl⟩) fun vl s2 ⟨l, H2, I2, pl, el, e2⟩ => ?_)
  subst el e2
  refine thn (po_none.run pins s2 σ H2 (fun o H3 => o = none ∧ H3 = H2) I2 ⟨rfl, rfl⟩) fun vu s3 ⟨u, H3, I3, pu, eu, e3⟩ => ?_
  subst eu e3
  refine thn (hst.run pins s3 σ H3 (fun o H4 => o = some (-1) ∧ H4 = H3) I3 ⟨1, rfl, -1, rfl, rfl, rfl⟩) fun vs s4 ⟨o, H4, I4, ps, eo, e4⟩ => ?_
  subst eo e4
  have I5 : Inv X pins σ H4 { s4 with heap := s4.heap.push { cls := .type "slice", data := .fields #[vl, vu, vs] } } := I4.kept (t' := s4.toks) fun b ob q => Heap.get?_push_of_some _ q
  show wpAny (model X.prog X.w) X.A (subscriptTail e (.Slice none none (some (.UnaryOp .USub (.Constant (.int 1) k p1) p2)) p3) (.ref a) (.ref s4.heap.objs.size)) (EP X pins σ Q) X.xe { s4 with heap := s4.heap.push { cls := .type "slice", data := .fields #[vl, vu, vs] } }
  rcases q1 with ⟨hx, q⟩ | ⟨hx, q⟩
  · obtain ⟨its, r, ht, hz⟩ := I5.list hx
    have hlen := r.length
    refine tail_any (ops := [.ref a, .ref s4.heap.objs.size]) ht.isList.typeIs (PySem.slot_list_getitem.lookup) ?_ (by with_unfolding_all rfl)
    refine wpAny_getItem_list_slice ht.isList (Heap.IsSliceOf.new _ vl vu vs) pl pu ps (by decide) ?_ (by rw [List.size_toArray]; omega)
    rw [PySem.W.krv_pick]
    refine ⟨.ref _, _, I5.laid (t' := s4.toks) (o := .lst xs.reverse) (fun b ob q => Heap.get?_push_of_some _ q) (Nat.le_refl _) ?_, rfl, q _ (I5.hok.fresh (Nat.le_refl _))⟩
    exact ⟨by rw [List.length_reverse]; exact hz, _, 0, r.reverse, Heap.get?_push_size _ rfl⟩
  · obtain ⟨its, r, ht, hz⟩ := I5.tuple hx
    have hlen := r.length
    refine tail_any (ops := [.ref a, .ref s4.heap.objs.size]) ht.typeIs (PyProof.Rows.slot_tuple_getitem.lookup) ?_ (by with_unfolding_all rfl)
    refine HT.getItem_tuple_rev ht (Heap.IsSliceOf.new _ vl vu vs) pl pu ps ?_ (by rw [List.size_toArray]; omega)
    refine ⟨.ref _, _, I5.laid (t' := s4.toks) (o := .tup xs.reverse) (fun b ob q => Heap.get?_push_of_some _ q) (Nat.le_refl _) ?_, rfl, q _ (I5.hok.fresh (Nat.le_refl _))⟩
    exact ⟨by rw [List.length_reverse]; exact hz, _, r.reverse, IsTup.new _ _⟩
/-- what [::-1] makes; a list by reference -/
def revA (x : MV) (S : Sto) (R : MK) : Prop := match x with
  | .tup l => R (.tup l.reverse) S
  | .ref a => (match lookL S a with
    | some l => newL l.reverse S R
    | none => False)
  | .frz l => newL l.reverse S R
  | _ => False
def mRevA (ma : ME) : ME := fun ρ S R => ma ρ S fun x S1 => revA x S1 R
theorem ee_revA {k : Nat} {p1 p2 p3 : Pos} (he : EE X Z e m) : EE X Z (.Subscript e (.Slice none none (some (.UnaryOp .USub (.Constant (.int 1) k p1) p2)) p3) pos) (mRevA m) :=
  ee_of (pe_revA he.pe) fun σ H ρ S R hE hS hm => by
    refine ⟨ρ, S, _, hE, hS, hm, fun v H1 ⟨x, S1, t1, r1, s1, q1⟩ => ?_⟩
    cases x with
    | tup l =>
      unfold RM at r1
      obtain ⟨a, xs, e1, sq, rs⟩ := r1
      exact ⟨a, xs, e1, .inr ⟨sq, fun p hp => mq_tup (fun v H' q => q.base t1) s1 rs.reverse hp q1⟩⟩
    | ref a =>
      unfold RM at r1
      cases el : lookL S1 a with
      | none =>
        simp only [revA, el] at q1
      | some l =>
        simp only [revA, el] at q1
        obtain ⟨xs, g1, g2⟩ := look_sq s1 el
        exact ⟨a, xs, r1, .inl ⟨g1, fun p hp => mq_lst (fun v H' q => q.base t1) s1 g2.reverse hp q1⟩⟩
    | frz l =>
      unfold RM at r1
      obtain ⟨a, xs, e1, sq, rs⟩ := r1
      exact ⟨a, xs, e1, .inl ⟨sq.sq, fun p hp => mq_lst (fun v H' q => q.base t1) s1 rs.reverse hp q1⟩⟩
    | _ => exact False.elim q1
/-- what [::-1] makes; a list by value -/
def revT (x : MV) (S : Sto) (R : MK) : Prop := match x with
  | .tup l => R (.tup l.reverse) S
  | .ref a => (match lookL S a with
    | some l => R (.frz l.reverse) S
    | none => False)
  | .frz l => R (.frz l.reverse) S
  | _ => False
theorem revT_ok {x : MV} {S : Sto} {R : MK} (h : revT x S R) : revA x S (fzK R) := by
  cases x with
  | tup l => exact h
  | ref a =>
    cases e : lookL S a with
    | none => simp only [revT, e] at h
    | some l =>
      simp only [revT, e] at h
      simp only [revA, e]
      exact fz_new h
  | frz l => exact fz_new (R := R) h
  | _ => exact False.elim h
def mRevT (ma : ME) : ME := fun ρ S R => ma ρ S fun x S1 => revT x S1 R
theorem ee_revT {k : Nat} {p1 p2 p3 : Pos} (he : EE X Z e m) : EE X Z (.Subscript e (.Slice none none (some (.UnaryOp .USub (.Constant (.int 1) k p1) p2)) p3) pos) (mRevT m) :=
  ee_val (ee_revA (ee_up he)) fun ρ S R hm => ⟨_, hm, fun x S1 q => revT_ok q⟩
end
/-! min and max of two ints -/
def max2V : MF := fun ms S R => match ms with
  | [.int i, .int j] => R (.int (if j > i then j else i)) S
  | _ => False
def min2V : MF := fun ms S R => match ms with
  | [.int i, .int j] => R (.int (if j < i then j else i)) S
  | _ => False
theorem cr_max2 {X : Cx} {Z : List Addr} (hc : X.calm = true) : CallR X (.builtin "max") (rMC X.K Z max2V) := by
  intro pins s σ H xs us Q I rv h
  obtain ⟨ms, S, R, r, hS, hf, hQ⟩ := h
  unfold max2V at hf
  split at hf
  · obtain ⟨v, u, rfl, q1, q2⟩ := rms2 r
    unfold RM at q1 q2
    exact call_max2 hc pins s σ H _ us Q I rv ⟨_, _, by rw [q1, q2], mq_int hQ hS hf⟩
  · exact hf.elim
theorem cr_min2 {X : Cx} {Z : List Addr} (hc : X.calm = true) : CallR X (.builtin "min") (rMC X.K Z min2V) := by
  intro pins s σ H xs us Q I rv h
  obtain ⟨ms, S, R, r, hS, hf, hQ⟩ := h
  unfold min2V at hf
  split at hf
  · obtain ⟨v, u, rfl, q1, q2⟩ := rms2 r
    unfold RM at q1 q2
    exact call_min2 hc pins s σ H _ us Q I rv ⟨_, _, by rw [q1, q2], mq_int hQ hS hf⟩
  · exact hf.elim
theorem eb_never {X : Cx} {Z : List Addr} {sts : List Stmt} : EB X Z sts msNever := ⟨⟨fun pins s σ H D I ⟨ρ, S, D', hE, hS, hm, _⟩ => False.elim hm⟩⟩
end Mv

set_option Elab.async false
set_option linter.all false
set_option maxRecDepth 100000
set_option maxHeartbeats 4000000
namespace Mv
open PySem PySem.Spec PyProof.Rows L2
/-! a try whose body raises nothing -/
section
variable {X : Cx} {Z : List Addr} {body : List Stmt} {h₀ : ExceptHandler} {hs : List ExceptHandler} {ms : MS} {pos : Pos}
theorem es_try0 (hn : ∀ e s, ¬ X.xe e s) (hb : EB X Z body ms) : ES X Z (.Try body (h₀ :: hs) [] [] pos) ms :=
  ⟨PS.imp (ps_try_never (u := tNext) hn hb.pss pss_nil) fun D σ H h => h⟩
end
end Mv

set_option Elab.async false
set_option linter.all false
set_option maxRecDepth 100000
set_option maxHeartbeats 4000000
namespace Mv
open PySem PySem.Spec PyProof.Rows L2
/-! o.f, p.g = a pair -/
def gAttr (K : PySem.W.Frag) (ta : TE) (f : Str) : TG := fun v σ H Q => ta σ H fun x H2 => ∃ a C dx fs, x = .ref a ∧ H2 a = some (.ins C dx fs) ∧ Cls K C ∧ NoAttr K C f ∧ fs.length < 1000 ∧ Q σ (upd H2 a (.ins C dx (putF f v fs)))
theorem pg_attr {X : Cx} {o : Expr} {f : Str} {pos : Pos} {ta : TE} (ho : PE X o ta) : PG X (.Attribute o f pos) (gAttr X.K ta f) := by
  refine ⟨fun pins s σ H v u Q I r h => ?_⟩
  rw [assign_Attribute]
  refine wpAny_bind (wpAny_holding (thn (ho.run pins s σ H _ I h) fun ov s1 ⟨x, H1, I1, rx, a, C, dx, fs, ex, ea, c, n, l, q⟩ => ?_))
  subst ex
  obtain rfl : ov = Value.ref a := rx
  refine wpAny_bind (wpAny_standAt (wpAny_bind (wpAny_holding (setattr_ok I1 ea c n l r fun s3 I3 => ?_))))
  exact wpAny_release ⟨σ, _, I3, q⟩
def fld2 (T : String → String → Bool) (mo : ME) (f : String) (mo' : ME) (g : String) (D : MD) (ρ : Env) : MK := fun v S1 => match v with
  | .tup [x, y] => mo ρ S1 fun o S2 => fldPut T f o x S2 fun S3 => mo' ρ S3 fun o' S4 => fldPut T g o' y S4 fun S5 => D.nx ρ S5
  | _ => False
def msFld2 (T : String → String → Bool) (mo : ME) (f : String) (mo' : ME) (g : String) (m : ME) : MS := fun D ρ S => m ρ S (fld2 T mo f mo' g D ρ)
theorem es_fld2 {X : Cx} {Z : List Addr} {o o' value : Expr} {m mb mc : ME} {T : String → String → Bool} {f g : String} {k : Nat} {pos p1 p2 p3 : Pos} (hT : AtOk X.K T) (hc : X.calm = true) (ho : EE X Z o mb) (ho' : EE X Z o' mc) (hv : EE X Z value m)
    (h1 : (assignEach (.Attribute o (Str.ofString f) p1 :: [.Attribute o' (Str.ofString g) p2]) X.env).map (·.2) = assign (.Attribute o (Str.ofString f) p1) X.env :: (assignEach [.Attribute o' (Str.ofString g) p2] X.env).map (·.2) := by kernel_rfl)
    (h2 : (assignEach (.Attribute o' (Str.ofString g) p2 :: []) X.env).map (·.2) = assign (.Attribute o' (Str.ofString g) p2) X.env :: (assignEach [] X.env).map (·.2) := by kernel_rfl)
    (hn : (assignEach [.Attribute o (Str.ofString f) p1, .Attribute o' (Str.ofString g) p2] X.env).length = 2 := by kernel_rfl) (hst : (assignEach [.Attribute o (Str.ofString f) p1, .Attribute o' (Str.ofString g) p2] X.env).findIdx? (·.1) = none := by kernel_rfl)
    (hs : swapsWithSole [.Tuple [.Attribute o (Str.ofString f) p1, .Attribute o' (Str.ofString g) p2] k p3] value pos.line X.env = pure false := by kernel_rfl) (hw : swappedStores [.Tuple [.Attribute o (Str.ofString f) p1, .Attribute o' (Str.ofString g) p2] k p3] value X.env = pure none := by kernel_rfl)
    (h3 : (assignEach [.Tuple [.Attribute o (Str.ofString f) p1, .Attribute o' (Str.ofString g) p2] k p3] X.env).map (·.2) = [assign (.Tuple [.Attribute o (Str.ofString f) p1, .Attribute o' (Str.ofString g) p2] k p3) X.env] := by kernel_rfl) :
    ES X Z (.Assign [.Tuple [.Attribute o (Str.ofString f) p1, .Attribute o' (Str.ofString g) p2] k p3] value pos) (msFld2 T mb f mc g m) :=
  ⟨PS.imp (ps_asg hv.pe (pg_tup hc (pgs_cons (pg_attr ho.pe) (pgs_cons (pg_attr ho'.pe) pgs_nil h2) h1) hn hst) hs hw h3) fun D σ H ⟨ρ, S, D', hE, hS, hm, d1, d2, d3, d4⟩ => by
    refine ⟨ρ, S, _, hE, hS, hm, fun v H1 ⟨x, S1, t1, r1, s1, q1⟩ => ?_⟩
    unfold fld2 at q1
    split at q1
    · rename_i x0 y0
      unfold RM at r1
      obtain ⟨a, xs, e, sq, rs⟩ := r1
      obtain ⟨u0, u1, e1, r0, ry⟩ := rms2 rs
      subst e1
      refine ⟨a, _, e, sq, rfl, u0, [u1], rfl, ρ, S1, _, hE.mono t1, s1, q1, fun ov H2 ⟨y, S2, t2, r2, s2, q2⟩ => ?_⟩
      obtain ⟨a', C, dx, fs, S3, f1, f2, f3, f4, f5, g3, s3, q3⟩ := fld_put hT s2 r2 (r0.mono t2) q2
      refine ⟨a', C, dx, fs, f1, f2, f3, f4, f5, u1, [], rfl, ρ, S3, _, hE.mono (t1.trans (t2.trans g3)), s3, q3, fun ov' H4 ⟨y', S4, t4, r4, s4, q4⟩ => ?_⟩
      obtain ⟨a5, C5, dx5, fs5, S5, k1, k2, k3, k4, k5, g5, s5, q5⟩ := fld_put hT s4 r4 (ry.mono (t2.trans (g3.trans t4))) q4
      have gg := t1.trans (t2.trans (g3.trans (t4.trans g5)))
      exact ⟨a5, C5, dx5, fs5, k1, k2, k3, k4, k5, rfl, d1 _ _ ⟨ρ, S5, gg, hE.mono gg, s5, q5⟩⟩
    · exact q1.elim⟩
/-! C(e, .., k = v, ..), the rest keyword-only -/
structure CalN (P : Program) (w : World) (K : PySem.W.Frag) (mg : Str → Option Value) (base : Heap) (Z : List Addr) (f : Addr) (ps : List Str) (n : Nat) (ks : List Str) (k : Nat) (W : MW) (gM : List MV → List MV → List MV) : Prop where
  ex : ∃ (fd : FuncData) (g : List Value → List Value → List Value) (gV : List V → List V → List V), FnOk P w K mg base CX0 k f fd ps (spM K Z ps.length W) ∧ KBn K fd ps (n + 1) ks g gV ∧
    ∀ (H : Hp) (as ms : List MV) (us zs : List V), RMs K H as us → RMs K H ms zs → RMs K H (gM as ms) (gV us zs)
  len : ∀ ms S R, W ms S R → ms.length = ps.length
def mMakeN (c : String) (n m : Nat) (W : MW) (gM : List MV → List MV → List MV) (as ms : MA) : ME := fun ρ S R => as ρ S fun us S0 => ms ρ S0 fun zs S1 => us.length = n ∧ zs.length = m ∧ ∀ p, S1 p = none → W (gM (.ref p :: us) zs) (supd S1 p (.ins c [])) fun v S2 => v = .non ∧ R (.ref p) S2
section
variable {X : Cx} {Z : List Addr} {m : ME} {e : Expr} {es : List Expr} {kws : List Keyword} {mas mks : MA} {W : MW} {k k' n : Nat} {ps ks : List Str} {gM : List MV → List MV → List MV} {pos kpos : Pos} {nm : Option Str}
theorem ee_makeN {x : Str} {c : String} {f : Addr} {p : Pos} (C : CalN X.prog X.w X.K X.mg X.base Z f ps n ks k W gM) (M : Mk X.K (He.ga X.K (so c)) f) (hr : Room k' X.A) (hk : k + 1 ≤ k') (hg : Gl X x) (hm : X.mg x = some (.ref (He.ga X.K (so c)))) (ha : EA X Z (e :: es) mas) (hkw : EK X Z kws mks)
    (hall : (backToKw pos (keywordEach kws X.env)).all (·.1.isSome) = true := by kernel_rfl) (hks : (backToKw pos (keywordEach kws X.env)).filterMap (·.1) = ks := by kernel_rfl) (hdb : (x == ("__debug__" : Str)) = false := by kernel_rfl)
    (he : starEach (e :: es) X.env = (false, eval e X.env) :: starEach es X.env := by kernel_rfl)
    (hpl : ((backTo pos (starEach (e :: es) X.env)).any (·.1) || (backToKw pos (keywordEach kws X.env)).any (·.1.isNone)) = false := by kernel_rfl) :
    EE X Z (.Call (.Name x p) (e :: es) kws pos) (mMakeN c n ks.length W gM mas mks) := by
  obtain ⟨fd, g, gV, F, b, hg'⟩ := C.ex
  refine ee_of (pe_makeK M F (hr.mono hk) hg hm b pass0 ha.pa hkw.pk hall hks hdb he hpl) fun σ H ρ S R hE hS hm => ?_
  refine ⟨ρ, S, _, hE, hS, hm, fun vs H0 ⟨as, S0, t0, r0, s0, q0⟩ => ?_⟩
  refine ⟨ρ, S0, _, hE.mono t0, s0, q0, fun zs H1 ⟨ms, S1, t1, r1, s1, q1⟩ => ⟨by rw [r0.length]; exact q1.1, by rw [r1.length]; exact q1.2.1, fun y dx hy hdx hne => ?_⟩⟩
  obtain ⟨g, s2⟩ := make_st (c := c) s1 hy hdx hne
  have q2 := q1.2.2 y (s1.free hy)
  have r2 := hg' _ (.ref y :: as) ms (.ref y :: vs) zs (RMs.cons (by unfold RM; rfl) ((r0.mono t1).mono g)) (r1.mono g)
  refine ⟨?_, _, _, _, r2, s2, q2, fun v H' ⟨m, S', t', r', s', em, q'⟩ => ?_⟩
  · rw [r2.length]; exact C.len _ _ _ q2
  · subst em
    unfold RM at r'
    exact ⟨r', .ref y, S', t0.trans (t1.trans (g.trans t')), by unfold RM; rfl, s', q'⟩
end
section
variable {P : Program} {w : World} {K : PySem.W.Frag} {mg : Str → Option Value} {base : Heap} {Z : List Addr} {x qual : Str} {params : Arguments} {body : List Stmt} {scope : Scope} {f : Addr} {fd : FuncData}
theorem calN_mk {N ps ks : List Str} {k : Nat} {mb : MS} {kws : List (Str × V)} (n : Nat) (F : FunD K x qual params body scope [] kws f fd) (Sc : FnScope N ps scope) (sel : List (Bool × Nat)) (ms : List (Str × V)) (dM : List MV) (hk : kws ≠ []) (hms : ∀ q ∈ ms, q ∈ kws) (hd : ∀ H, RMs K H dM (ms.map (·.2)))
    (hch : ∀ (D : Addr) (doc pm : Value) (an : Option Addr) (cdv ct : Value) (us mv ws : List Value), us.length = n + 1 → mv.length = ms.length → ws.length = ks.length →
      KwChain D ((ms.map (·.1)).zip mv) (bindArgs (PySem.W.fnOf x qual params body scope .none (.ref D) doc pm an cdv ct) ⟨us, ks.zip ws⟩) (ps.zip (us ++ selL sel mv ws)))
    (hb : ∀ (cdv : Value) (A : Around) (outer : List PySem.Env) (s : Shared) (H : Hp) (E : XK), Room k (A.deeper (envOfC qual scope s.heap.objs.size f cdv)) → EB (cxOf CX0 P w K mg base N qual scope f cdv A outer s H E).nox Z body mb) :
    CalN P w K mg base Z f ps n ks (k + 1) (defW ps.length N.length mb) (fun us zs => us ++ selL sel dM zs) := by
  obtain ⟨mv, hB⟩ := F.kbinds0 (n + 1) ks ms (fun us mv ws => us ++ selL sel mv ws) hk hms (fun a b c => a.append (vals_sel b c sel)) hch
  exact ⟨⟨fd, _, _, fn_sp F Sc hb, hB, fun H as zs us vs r1 r2 => r1.append (rms_sel (hd H) r2 sel)⟩, fun ms S R h => h.1⟩
end
/-! [e for x in a for y in b(x)] -/
def lcL2 (k : List (Addr × List MV)) (pt : Pat) (tt : MT) (mi1 : MI) (pt1 : Pat) (tt1 : MT) (te : ME) (vs1 : List Nat) (ρ : Env) (Q : List MV → Sto → Prop) : List MV → List MV → Sto → Prop
  | [], acc, S => keepOk k S ∧ Q acc S
  | v :: r, acc, S => keepOk k S ∧ bindP pt v S ρ fun ρ' => tt ρ' S fun b S1 => match b with
    | true => mi1 ρ' S1 fun I1 S2 => lcL I1.keep pt1 tt1 te (wipeM ρ' vs1) (fun acc' S3 => lcL2 k pt tt mi1 pt1 tt1 te vs1 ρ Q r acc' S3) I1.vs acc S2
    | false => lcL2 k pt tt mi1 pt1 tt1 te vs1 ρ Q r acc S1
def mLc2 (mi : MI) (pt : Pat) (tt : MT) (mi1 : MI) (pt1 : Pat) (tt1 : MT) (te : ME) (vs vs1 : List Nat) : ME := fun ρ S R => mi ρ S fun I S1 => lcL2 I.keep pt tt mi1 pt1 tt1 te vs1 (wipeM ρ vs) (fun l S2 => newL l S2 R) I.vs [] S1
theorem lc2_read {K : PySem.W.Frag} {Z : List Addr} {mi mi1 : MI} {pt pt1 : Pat} {tt tt1 : MT} {te : ME} {vs vs1 : List Nat} {wi wi1 : TI} {σ : L2.St} {H : Hp} {ρ : Env} {S : Sto} {R : MK} {Q : VK}
    (w2 : ∀ σ H ρ S R R', RE K H ρ σ → RS K Z S H → mi ρ S R → (∀ J H', (∃ I S', GK K S H S' H' ∧ RS K Z S' H' ∧ JI K Z J I H' ∧ R I S') → R' J H') → wi σ H R')
    (w3 : ∀ σ H ρ S R R', RE K H ρ σ → RS K Z S H → mi1 ρ S R → (∀ J H', (∃ I S', GK K S H S' H' ∧ RS K Z S' H' ∧ JI K Z J I H' ∧ R I S') → R' J H') → wi1 σ H R') (hsl : ∀ j ∈ pt.slots, j ∈ vs) (hsl1 : ∀ j ∈ pt1.slots, j ∈ vs1)
    (hE : RE K H ρ σ) (hS : RS K Z S H) (hm : mLc2 mi pt tt mi1 pt1 tt1 te vs vs1 ρ S R) (hQ : ∀ v H', MQ K Z S H R v H' → Q v H') : tLc2 wi (gP K Z pt) (tMT K Z tt) wi1 (gP K Z pt1) (tMT K Z tt1) (tM K Z te) vs vs1 σ H Q := by
  refine w2 σ H ρ S _ _ hE hS hm fun J H1 ⟨I, S1, t1, s1, j1, q1⟩ D hD => ?_
  refine ⟨fun i n H2 => n = I.vs.length - i ∧ i ≤ I.vs.length ∧ ∃ (acc : List MV) (xs : List V) (S2 : Sto), S2 D = none ∧ H2 D = some (.lst xs) ∧ RMs K H2 acc xs ∧ RS K Z S2 H2 ∧ GK K S1 H1 S2 H2 ∧ lcL2 I.keep pt tt mi1 pt1 tt1 te vs1 (wipeM ρ vs) (fun l S2 => newL l S2 R) (I.vs.drop i) acc S2,
    ⟨_, rfl, Nat.zero_le _, [], [], S1, s1.free hD, upd_same, RMs.nil, s1.hid hD, GK.hid hD, q1⟩, ?_⟩
  rintro i n H2 ⟨rfl, hi, acc, xs, S2, nD, eD, ra, s2, g2, q2⟩
  by_cases hlt : i < I.vs.length
  · rw [List.drop_eq_getElem_cons hlt] at q2
    unfold lcL2 at q2
    obtain ⟨kp, q2⟩ := q2
    obtain ⟨go, yl⟩ := (j1 i S2 H2 g2.tk s2 kp).1 _ (List.getElem?_eq_getElem hlt)
    refine .inr ⟨go, fun H3 => ∃ (acc : List MV) (xs : List V) (S3 : Sto), S3 D = none ∧ H3 D = some (.lst xs) ∧ RMs K H3 acc xs ∧ RS K Z S3 H3 ∧ GK K S1 H1 S3 H3 ∧ lcL2 I.keep pt tt mi1 pt1 tt1 te vs1 (wipeM ρ vs) (fun l S2 => newL l S2 R) (I.vs.drop (i + 1)) acc S3,
      fun H3 ⟨a1, a2, a3, a4⟩ => ⟨_, by omega, rfl, hlt, a1, a2, a3, a4⟩, fun x H3 hy => ?_⟩
    obtain ⟨g3, s3, r3⟩ := yl x H3 hy
    have e3 : RE K H3 (wipeM ρ vs) (L2.wipe σ vs) := ((hE.mono t1).mono (g2.trans g3)).wiped vs
    refine ⟨_, wipeM ρ vs, S2, _, r3, e3, s3, q2, fun ρ4 σ4 e4 f4 l4 b4 => ⟨?_, ?_⟩⟩
    · rw [← wipe_wipe σ vs]
      exact wipe_eq l4 fun j hj => f4 j fun z => hj (hsl j z)
    · refine ⟨ρ4, S2, _, e4, s3, b4, fun b H4 ⟨S4, g4, s4, q4⟩ => ?_⟩
      have g34 := g3.trans g4
      cases b with
      | true =>
        dsimp only at q4 ⊢
        rw [if_pos rfl]
        refine w3 σ4 H4 ρ4 S4 _ _ (e4.mono g4) s4 q4 fun J1 H5 ⟨I1, S5, t5, s5, j5, q5⟩ => ?_
        have e5 := (e4.mono g4).mono t5
        have g35 := g34.trans t5
        obtain ⟨k1, k2⟩ := g35.fr D _ nD eD (fun ps z => by cases z)
        refine ⟨fun j n H6 => n = I1.vs.length - j ∧ j ≤ I1.vs.length ∧ ∃ (acc : List MV) (xs : List V) (S6 : Sto), S6 D = none ∧ H6 D = some (.lst xs) ∧ RMs K H6 acc xs ∧ RS K Z S6 H6 ∧ GK K S1 H1 S6 H6 ∧ TK K H5 H6 ∧
            lcL I1.keep pt1 tt1 te (wipeM ρ4 vs1) (fun acc' S3 => lcL2 I.keep pt tt mi1 pt1 tt1 te vs1 (wipeM ρ vs) (fun l S2 => newL l S2 R) (I.vs.drop (i + 1)) acc' S3) (I1.vs.drop j) acc S6,
          ⟨_, rfl, Nat.zero_le _, acc, xs, S5, k2, k1, ra.mono g35, s5, g2.trans g35, TK.refl, q5⟩, ?_⟩
        rintro j n H6 ⟨rfl, hj, acc, xs, S6, nD, eD, ra, s6, g6, t6, q6⟩
        by_cases hlj : j < I1.vs.length
        · rw [List.drop_eq_getElem_cons hlj] at q6
          unfold lcL at q6
          obtain ⟨kp6, q6⟩ := q6
          obtain ⟨go6, yl6⟩ := (j5 j S6 H6 t6 s6 kp6).1 _ (List.getElem?_eq_getElem hlj)
          refine .inr ⟨go6, fun H7 => ∃ (acc : List MV) (xs : List V) (S7 : Sto), S7 D = none ∧ H7 D = some (.lst xs) ∧ RMs K H7 acc xs ∧ RS K Z S7 H7 ∧ GK K S1 H1 S7 H7 ∧ TK K H5 H7 ∧
              lcL I1.keep pt1 tt1 te (wipeM ρ4 vs1) (fun acc' S3 => lcL2 I.keep pt tt mi1 pt1 tt1 te vs1 (wipeM ρ vs) (fun l S2 => newL l S2 R) (I.vs.drop (i + 1)) acc' S3) (I1.vs.drop (j + 1)) acc S7,
            fun H7 ⟨a1, a2, a3, a4⟩ => ⟨_, by omega, rfl, hlj, a1, a2, a3, a4⟩, fun x7 H7 hy7 => ?_⟩
          obtain ⟨g7, s7, r7⟩ := yl6 x7 H7 hy7
          have e7 : RE K H7 (wipeM ρ4 vs1) (L2.wipe σ4 vs1) := ((e5.monoT t6).mono g7).wiped vs1
          refine ⟨_, wipeM ρ4 vs1, S6, _, r7, e7, s7, q6, fun ρ8 σ8 e8 f8 l8 b8 => ⟨?_, ?_⟩⟩
          · rw [← wipe_wipe σ4 vs1]
            exact wipe_eq l8 fun j hj => f8 j fun z => hj (hsl1 j z)
          · refine ⟨ρ8, S6, _, e8, s7, b8, fun b H9 ⟨S9, g9, s9, q9⟩ => ?_⟩
            have g79 := g7.trans g9
            cases b with
            | true =>
              dsimp only at q9 ⊢
              rw [if_pos rfl]
              refine ⟨ρ8, S9, _, e8.mono g9, s9, q9, fun y H10 ⟨my, S10, g10, r10, s10, hl, q10⟩ => ?_⟩
              have g710 := g79.trans g10
              obtain ⟨k1, k2⟩ := g710.fr D _ nD eD (fun ps z => by cases z)
              have tk := TK.lst (K := K) (o := .lst (xs ++ [y])) k1
              exact ⟨xs, k1, by rw [ra.length]; exact hl, acc ++ [my], xs ++ [y], S10, k2, upd_same, RMs.monoT tk _ ((ra.mono g710).append (RMs.cons r10 RMs.nil)), s10.hidW k1 k2, (g6.trans g710).over hD tk, (t6.trans g710.tk).trans tk, q10⟩
            | false =>
              dsimp only at q9 ⊢
              rw [if_neg Bool.false_ne_true]
              obtain ⟨k1, k2⟩ := g79.fr D _ nD eD (fun ps z => by cases z)
              exact ⟨acc, xs, S9, k2, k1, ra.mono g79, s9, g6.trans g79, t6.trans g79.tk, q9⟩
        · have ej : j = I1.vs.length := by omega
          subst ej
          rw [List.drop_length] at q6
          unfold lcL at q6
          obtain ⟨kp6, q6⟩ := q6
          exact .inl ⟨(j5 _ S6 H6 t6 s6 kp6).2 (Nat.le_refl _), acc, xs, S6, nD, eD, ra, s6, g6, q6⟩
      | false =>
        dsimp only at q4 ⊢
        rw [if_neg Bool.false_ne_true]
        obtain ⟨k1, k2⟩ := g34.fr D _ nD eD (fun ps z => by cases z)
        exact ⟨acc, xs, S4, k2, k1, ra.mono g34, s4, g2.trans g34, q4⟩
  · have ei : i = I.vs.length := by omega
    subst ei
    rw [List.drop_length] at q2
    unfold lcL2 at q2
    obtain ⟨kp, q2⟩ := q2
    refine .inl ⟨(j1 _ S2 H2 g2.tk s2 kp).2 (Nat.le_refl _), hQ _ _ ⟨.ref D, _, t1.trans (g2.showL (l := acc) hD), by unfold RM; rfl, s2.showL eD ra, q2 D nD⟩⟩
theorem lcL2_up {k : List (Addr × List MV)} {pt pt1 : Pat} {tt tt1 : MT} {mi1 : MI} {te : ME} {vs1 : List Nat} {ρ : Env} {Q Q' : List MV → Sto → Prop} (hQ : ∀ l S, Q l S → Q' l S) : ∀ (vs acc : List MV) (S : Sto), lcL2 k pt tt mi1 pt1 tt1 te vs1 ρ Q vs acc S → lcL2 k pt (upT tt) (upI mi1) pt1 (upT tt1) (upE te) vs1 ρ Q' vs acc S
  | [], acc, S, h => by unfold lcL2 at h ⊢; exact ⟨h.1, hQ _ _ h.2⟩
  | v :: r, acc, S, h => by
    unfold lcL2 at h ⊢
    refine ⟨h.1, bindP_imp pt v S ρ (fun ρ' h => ⟨_, h, fun b S1 q => ?_⟩) h.2⟩
    cases b with
    | true => exact ⟨_, q, fun I1 S2 q => lcL_up (fun l S3 q => lcL2_up hQ r l S3 q) _ _ _ q⟩
    | false => exact lcL2_up hQ r _ S1 q
def mLc2V (mi : MI) (pt : Pat) (tt : MT) (mi1 : MI) (pt1 : Pat) (tt1 : MT) (te : ME) (vs vs1 : List Nat) : ME := fun ρ S R => mi ρ S fun I S1 => lcL2 I.keep pt tt mi1 pt1 tt1 te vs1 (wipeM ρ vs) (fun l S2 => R (.frz l) S2) I.vs [] S1
theorem lc2V_ok {mi mi1 : MI} {pt pt1 : Pat} {tt tt1 : MT} {te : ME} {vs vs1 : List Nat} {ρ : Env} {S : Sto} {R : MK} (h : mLc2V mi pt tt mi1 pt1 tt1 te vs vs1 ρ S R) : mLc2 (upI mi) pt (upT tt) (upI mi1) pt1 (upT tt1) (upE te) vs vs1 ρ S (fzK R) :=
  ⟨_, h, fun I S1 q => lcL2_up (fun l S2 q => fz_new q) _ _ _ q⟩
def tMI (K : PySem.W.Frag) (Z : List Addr) (m : MI) : TI := fun σ H R' => ∃ ρ S R, RE K H ρ σ ∧ RS K Z S H ∧ m ρ S R ∧ ∀ J H', (∃ I S', GK K S H S' H' ∧ RS K Z S' H' ∧ JI K Z J I H' ∧ R I S') → R' J H'
theorem EI.tmi {X : Cx} {Z : List Addr} {tg iter : Expr} {m : MI} (h : EI X Z tg iter m) : PI X tg iter (tMI X.K Z m) := by
  obtain ⟨wi, w1, w2⟩ := h.pi
  exact ⟨fun pins s σ H R I ⟨ρ, S, R0, a, b, c, d⟩ => w1.run pins s σ H R I (w2 σ H ρ S R0 R a b c d)⟩
section
variable {X : Cx} {Z : List Addr} {pos : Pos} {tg iter tg1 iter1 : Expr}
variable {elt : Expr} {ifs ifs1 : List Expr} {scope : Scope} {own : List (Str × Nat)} {vs vs1 : List Nat} {mi mi1 : MI} {pt pt1 : Pat} {tt tt1 : MT} {te : ME}
theorem ee_lc2 (hc : X.calm = true) (hN : X.N.Nodup) (hi : EI X Z tg iter mi) (ok : BlkOk X.N X.env.scope scope own)
    (hg : ∀ (s : Shared) (H : Hp) (C : Addr) (cl : List (Str × Addr)) (fp : List Addr), EG (X.blk s H scope (compEnvC scope cl C X.env) fp) Z tg pt)
    (ht : ∀ (s : Shared) (H : Hp) (C : Addr) (cl : List (Str × Addr)) (fp : List Addr), ETs (X.blk s H scope (compEnvC scope cl C X.env) fp) Z ifs tt)
    (hi1 : ∀ (s : Shared) (H : Hp) (C : Addr) (cl : List (Str × Addr)) (fp : List Addr), EI (X.blk s H scope (compEnvC scope cl C X.env) fp) Z tg1 iter1 mi1)
    (hg1 : ∀ (s : Shared) (H : Hp) (C : Addr) (cl : List (Str × Addr)) (fp : List Addr), EG (X.blk s H scope (compEnvC scope cl C X.env) fp) Z tg1 pt1)
    (ht1 : ∀ (s : Shared) (H : Hp) (C : Addr) (cl : List (Str × Addr)) (fp : List Addr), ETs (X.blk s H scope (compEnvC scope cl C X.env) fp) Z ifs1 tt1)
    (he : ∀ (s : Shared) (H : Hp) (C : Addr) (cl : List (Str × Addr)) (fp : List Addr), EE (X.blk s H scope (compEnvC scope cl C X.env) fp) Z elt te)
    (hvs : own.map (·.2) = vs := by rfl) (hv : ∀ j ∈ vs1, j ∈ own.map (·.2) := by decide) (hsl : ∀ j ∈ pt.slots, j ∈ vs := by decide) (hsl1 : ∀ j ∈ pt1.slots, j ∈ vs1 := by decide) (hs : ∀ x, foldedSetIterable iter X.env x = pure x := by intro _; kernel_rfl) (hs1 : ∀ env x, foldedSetIterable iter1 env x = pure x := by intro _ _; kernel_rfl) :
    EE X Z (.ListComp elt [⟨tg, iter, ifs, 0⟩, ⟨tg1, iter1, ifs1, 0⟩] scope pos) (mLc2 mi pt tt mi1 pt1 tt1 te vs vs1) := by
  subst hvs
  exact ee_of (pe_lc2 (wi := tMI X.K Z mi) (wi1 := tMI X.K Z mi1) hc hN hi.tmi ok hv (fun a b c d f => (hg a b c d f).pg) (fun a b c d f => (ht a b c d f).pts) (fun a b c d f => (hi1 a b c d f).tmi) (fun a b c d f => (hg1 a b c d f).pg) (fun a b c d f => (ht1 a b c d f).pts) (fun a b c d f => (he a b c d f).pe) hs hs1) fun σ H ρ S R hE hS hm =>
    lc2_read (fun σ H ρ S R R' a b c d => ⟨ρ, S, R, a, b, c, d⟩) (fun σ H ρ S R R' a b c d => ⟨ρ, S, R, a, b, c, d⟩) hsl hsl1 hE hS hm fun v H' q => q
theorem ee_lc2V (hc : X.calm = true) (hN : X.N.Nodup) (hi : EI X Z tg iter mi) (ok : BlkOk X.N X.env.scope scope own)
    (hg : ∀ (s : Shared) (H : Hp) (C : Addr) (cl : List (Str × Addr)) (fp : List Addr), EG (X.blk s H scope (compEnvC scope cl C X.env) fp) Z tg pt)
    (ht : ∀ (s : Shared) (H : Hp) (C : Addr) (cl : List (Str × Addr)) (fp : List Addr), ETs (X.blk s H scope (compEnvC scope cl C X.env) fp) Z ifs tt)
    (hi1 : ∀ (s : Shared) (H : Hp) (C : Addr) (cl : List (Str × Addr)) (fp : List Addr), EI (X.blk s H scope (compEnvC scope cl C X.env) fp) Z tg1 iter1 mi1)
    (hg1 : ∀ (s : Shared) (H : Hp) (C : Addr) (cl : List (Str × Addr)) (fp : List Addr), EG (X.blk s H scope (compEnvC scope cl C X.env) fp) Z tg1 pt1)
    (ht1 : ∀ (s : Shared) (H : Hp) (C : Addr) (cl : List (Str × Addr)) (fp : List Addr), ETs (X.blk s H scope (compEnvC scope cl C X.env) fp) Z ifs1 tt1)
    (he : ∀ (s : Shared) (H : Hp) (C : Addr) (cl : List (Str × Addr)) (fp : List Addr), EE (X.blk s H scope (compEnvC scope cl C X.env) fp) Z elt te)
    (hvs : own.map (·.2) = vs := by rfl) (hv : ∀ j ∈ vs1, j ∈ own.map (·.2) := by decide) (hsl : ∀ j ∈ pt.slots, j ∈ vs := by decide) (hsl1 : ∀ j ∈ pt1.slots, j ∈ vs1 := by decide) (hs : ∀ x, foldedSetIterable iter X.env x = pure x := by intro _; kernel_rfl) (hs1 : ∀ env x, foldedSetIterable iter1 env x = pure x := by intro _ _; kernel_rfl) :
    EE X Z (.ListComp elt [⟨tg, iter, ifs, 0⟩, ⟨tg1, iter1, ifs1, 0⟩] scope pos) (mLc2V mi pt tt mi1 pt1 tt1 te vs vs1) :=
  ee_val (ee_lc2 hc hN (ei_up hi) ok hg (fun a b c d f => ets_up (ht a b c d f)) (fun a b c d f => ei_up (hi1 a b c d f)) hg1 (fun a b c d f => ets_up (ht1 a b c d f)) (fun a b c d f => ee_up (he a b c d f)) hvs hv hsl hsl1 hs hs1) fun ρ S R hm => lc2V_ok hm
end
end Mv

set_option Elab.async false
set_option linter.all false
set_option maxRecDepth 100000
set_option maxHeartbeats 4000000
/-! Stepping through readings: each combinator at its arguments, the continuations by name (so that a rewriting goes on at the head alone). -/
namespace Pf
open PySem PySem.Spec PyProof.Rows L2 Mv
abbrev KB := Bool → Sto → Prop
abbrev KA := List MV → Sto → Prop
/-! expressions -/
def kOpt (o : Option (Option MV)) (R : MK) (S : Sto) : Prop := match o with
  | some (some v) => R v S
  | _ => False
theorem kOpt_some {v R S} : kOpt (some (some v)) R S = R v S := rfl
def lkO : Option MO → Option (List MV)
  | some (.lst l) => some l
  | some (.rl l) => some l
  | _ => none
theorem look_ap {S a} : lookL S a = lkO (S a) := rfl
theorem lkO_l {l} : lkO (some (.lst l)) = some l := rfl
theorem lkO_r {l} : lkO (some (.rl l)) = some l := rfl
theorem var_ap {i ρ S R} : mVar i ρ S R = kOpt ρ[i]? R S := rfl
theorem c_ap {v ρ S R} : mC v ρ S R = R v S := rfl
def kOp1 (f : M2) (mb : ME) (ρ : Mv.Env) (R : MK) : MK := fun x S => mb ρ S fun y S2 => f x y S2 R
def kOp2 (f : M2) (x : MV) (R : MK) : MK := fun y S => f x y S R
theorem op_ap {f ma mb ρ S R} : mOp f ma mb ρ S R = ma ρ S (kOp1 f mb ρ R) := rfl
theorem op1_ap {f mb ρ R x S} : kOp1 f mb ρ R x S = mb ρ S (kOp2 f x R) := rfl
theorem op2_ap {f x R y S} : kOp2 f x R y S = f x y S R := rfl
def kB (R : KB) : MK := asB R
theorem tst_ap {m ρ S R} : mTst m ρ S R = m ρ S (kB R) := rfl
theorem kB_ap {R b S} : kB R (.bl b) S = R b S := rfl
theorem asB_ap {R b S} : asB R (.bl b) S = R b S := rfl
def kTo (o : Option Bool) (R : KB) (S : Sto) : Prop := match o with
  | some b => R b S
  | none => False
theorem kTo_some {b R S} : kTo (some b) R S = R b S := rfl
def kTru (R : KB) : MK := fun v S => kTo (truB S v) R S
theorem tru_ap {m ρ S R} : mTru m ρ S R = m ρ S (kTru R) := rfl
theorem kTru_ap {R v S} : kTru R v S = kTo (truB S v) R S := rfl
theorem truB_bl {S b} : truB S (.bl b) = some b := rfl
theorem truB_non {S} : truB S .non = some false := rfl
theorem truB_int {S i} : truB S (.int i) = some (i != 0) := rfl
theorem truB_tup {S l} : truB S (.tup l) = some (!l.isEmpty) := rfl
theorem truB_frz {S l} : truB S (.frz l) = some (!l.isEmpty) := rfl
def kAndB (mb : ME) (ρ : Mv.Env) (R : MK) (x : MV) : KB := fun b S => match b with
  | true => mb ρ S R
  | false => R x S
def kAndV (mb : ME) (ρ : Mv.Env) (R : MK) : MK := fun x S => kTo (truB S x) (kAndB mb ρ R x) S
theorem andV_ap {ma mb ρ S R} : mAndV ma mb ρ S R = ma ρ S (kAndV mb ρ R) := by
  unfold mAndV
  congr 1
  funext x S1
  unfold kAndV
  cases truB S1 x with
  | none => rfl
  | some b => cases b <;> rfl
theorem kAndV_ap {mb ρ R x S} : kAndV mb ρ R x S = kTo (truB S x) (kAndB mb ρ R x) S := rfl
theorem kAndB_t {mb ρ R x S} : kAndB mb ρ R x true S = mb ρ S R := rfl
theorem kAndB_f {mb ρ R x S} : kAndB mb ρ R x false S = R x S := rfl
def kOrB (mb : ME) (ρ : Mv.Env) (R : MK) (x : MV) : KB := fun b S => match b with
  | true => R x S
  | false => mb ρ S R
def kOrV (mb : ME) (ρ : Mv.Env) (R : MK) : MK := fun x S => kTo (truB S x) (kOrB mb ρ R x) S
theorem orV_ap {ma mb ρ S R} : mOrV ma mb ρ S R = ma ρ S (kOrV mb ρ R) := by
  unfold mOrV
  congr 1
  funext x S1
  unfold kOrV
  cases truB S1 x with
  | none => rfl
  | some b => cases b <;> rfl
theorem kOrV_ap {mb ρ R x S} : kOrV mb ρ R x S = kTo (truB S x) (kOrB mb ρ R x) S := rfl
theorem kOrB_t {mb ρ R x S} : kOrB mb ρ R x true S = R x S := rfl
theorem kOrB_f {mb ρ R x S} : kOrB mb ρ R x false S = mb ρ S R := rfl
def kNotV (R : MK) : MK := fun x S => kTo (truB S x) (fun b S => R (.bl (!b)) S) S
def kNotB (R : MK) : KB := fun b S => R (.bl (!b)) S
theorem notV_ap {ma ρ S R} : mNotV ma ρ S R = ma ρ S (kNotV R) := by
  unfold mNotV
  congr 1
theorem kNotV_ap {R x S} : kNotV R x S = kTo (truB S x) (kNotB R) S := rfl
theorem kNotB_ap {R b S} : kNotB R b S = R (.bl (!b)) S := rfl
def kAnd (u : MT) (ρ : Mv.Env) (R : KB) : KB := fun b S => match b with
  | true => u ρ S R
  | false => R false S
theorem and_ap {t u ρ S R} : mAnd t u ρ S R = t ρ S (kAnd u ρ R) := rfl
theorem kAnd_t {u ρ R S} : kAnd u ρ R true S = u ρ S R := rfl
theorem kAnd_f {u ρ R S} : kAnd u ρ R false S = R false S := rfl
def kOr (u : MT) (ρ : Mv.Env) (R : KB) : KB := fun b S => match b with
  | true => R true S
  | false => u ρ S R
theorem or_ap {t u ρ S R} : mOr t u ρ S R = t ρ S (kOr u ρ R) := rfl
theorem kOr_t {u ρ R S} : kOr u ρ R true S = R true S := rfl
theorem kOr_f {u ρ R S} : kOr u ρ R false S = u ρ S R := rfl
def kNot (R : KB) : KB := fun b S => R (!b) S
theorem not_ap {t ρ S R} : mNot t ρ S R = t ρ S (kNot R) := rfl
theorem kNot_ap {R b S} : kNot R b S = R (!b) S := rfl
def kIf (a b : ME) (ρ : Mv.Env) (R : MK) : KB := fun c S => match c with
  | true => a ρ S R
  | false => b ρ S R
theorem if_ap {t a b ρ S R} : mIf t a b ρ S R = t ρ S (kIf a b ρ R) := rfl
theorem kIf_t {a b ρ R S} : kIf a b ρ R true S = a ρ S R := rfl
theorem kIf_f {a b ρ R S} : kIf a b ρ R false S = b ρ S R := rfl
def kUn (f : MV → Sto → MK → Prop) (R : MK) : MK := fun x S => f x S R
theorem un_ap {f ma ρ S R} : mUn f ma ρ S R = ma ρ S (kUn f R) := rfl
theorem kUn_ap {f R x S} : kUn f R x S = f x S R := rfl
theorem neg_ap {i S R} : negV (.int i) S R = R (.int (-i)) S := rfl
def kCh1 (f g : M2) (mb mc : ME) (ρ : Mv.Env) (R : MK) : MK := fun x S1 => mb ρ S1 fun y S2 => f x y S2 (asB fun b S3 => match b with
  | true => mc ρ S3 fun z S4 => g y z S4 R
  | false => R (.bl false) S3)
def kCh2 (f g : M2) (mc : ME) (ρ : Mv.Env) (R : MK) (x : MV) : MK := fun y S2 => f x y S2 (asB fun b S3 => match b with
  | true => mc ρ S3 fun z S4 => g y z S4 R
  | false => R (.bl false) S3)
def kCh3 (g : M2) (mc : ME) (ρ : Mv.Env) (R : MK) (y : MV) : KB := fun b S3 => match b with
  | true => mc ρ S3 fun z S4 => g y z S4 R
  | false => R (.bl false) S3
theorem chain_ap {f g ma mb mc ρ S R} : mChain f g ma mb mc ρ S R = ma ρ S (kCh1 f g mb mc ρ R) := rfl
theorem kCh1_ap {f g mb mc ρ R x S} : kCh1 f g mb mc ρ R x S = mb ρ S (kCh2 f g mc ρ R x) := rfl
theorem kCh2_ap {f g mc ρ R x y S} : kCh2 f g mc ρ R x y S = f x y S (kB (kCh3 g mc ρ R y)) := rfl
theorem kCh3_t {g mc ρ R y S} : kCh3 g mc ρ R y true S = mc ρ S (kOp2 g y R) := rfl
theorem kCh3_f {g mc ρ R y S} : kCh3 g mc ρ R y false S = R (.bl false) S := rfl
/-! arguments -/
theorem maNil_ap {ρ S R} : maNil ρ S R = R [] S := rfl
def kArg (r : MA) (ρ : Mv.Env) (R : KA) : MK := fun x S1 => r ρ S1 fun xs S2 => R (x :: xs) S2
def kArg2 (x : MV) (R : KA) : KA := fun xs S => R (x :: xs) S
theorem maCons_ap {m r ρ S R} : maCons m r ρ S R = m ρ S (kArg r ρ R) := rfl
theorem kArg_ap {r ρ R x S} : kArg r ρ R x S = r ρ S (kArg2 x R) := rfl
theorem kArg2_ap {x R xs S} : kArg2 x R xs S = R (x :: xs) S := rfl
def kTup (R : MK) : KA := fun l S1 => l.length ≤ sizeLine ∧ R (.tup l) S1
theorem tup_ap {ms ρ S R} : mTup ms ρ S R = ms ρ S (kTup R) := rfl
theorem kTup_ap {R l S} (h : l.length ≤ 100) : kTup R l S = R (.tup l) S := by
  have : l.length ≤ sizeLine := Nat.le_trans h (by decide)
  unfold kTup
  exact propext ⟨fun q => q.2, fun q => ⟨this, q⟩⟩
def kLst (R : MK) : KA := fun l S1 => l.length ≤ sizeLine ∧ newL l S1 R
theorem lst_ap {ms ρ S R} : mLst ms ρ S R = ms ρ S (kLst R) := rfl
theorem kLst_ap {R l S} (h : l.length ≤ 100) : kLst R l S = newL l S R := by
  have : l.length ≤ sizeLine := Nat.le_trans h (by decide)
  unfold kLst
  exact propext ⟨fun q => q.2, fun q => ⟨this, q⟩⟩
/-! calls -/
def kCall (W : MW) (R : MK) : KA := fun vs S1 => W vs S1 R
theorem call_ap {W ms ρ S R} : mCall W ms ρ S R = ms ρ S (kCall W R) := rfl
theorem kCall_ap {W R vs S} : kCall W R vs S = W vs S R := rfl
def kCB (f : MF) (R : MK) : KA := fun vs S1 => f vs S1 R
theorem cb_ap {f ms ρ S R} : mCB f ms ρ S R = ms ρ S (kCB f R) := rfl
theorem kCB_ap {f R vs S} : kCB f R vs S = f vs S R := rfl
def kIsi (T : String) (R : MK) : MK := fun x S1 => match tyN S1 x with
  | some n => R (.bl (tyB T n)) S1
  | none => False
def kIsi2 (o : Option String) (T : String) (R : MK) (S : Sto) : Prop := match o with
  | some n => R (.bl (tyB T n)) S
  | none => False
theorem isi_ap {T m ρ S R} : mIsi T m ρ S R = m ρ S (kIsi T R) := rfl
theorem kIsi_ap {T R x S} : kIsi T R x S = kIsi2 (tyN S x) T R S := rfl
theorem kIsi2_some {n T R S} : kIsi2 (some n) T R S = R (.bl (tyB T n)) S := rfl
theorem tyN_int {S i} : tyN S (.int i) = some "int" := rfl
theorem tyN_bl {S i} : tyN S (.bl i) = some "bool" := rfl
theorem tyN_non {S} : tyN S .non = some "NoneType" := rfl
theorem tyN_str {S i} : tyN S (.str i) = some "str" := rfl
theorem tyN_tup {S l} : tyN S (.tup l) = some "tuple" := rfl
theorem tyN_frz {S l} : tyN S (.frz l) = some "list" := rfl
theorem tyB_ii : tyB "int" "int" = true := by decide
theorem tyB_ib : tyB "int" "bool" = true := by decide
theorem tyB_bi : tyB "bool" "int" = false := by decide
theorem tyB_bb : tyB "bool" "bool" = true := by decide
theorem tyB_tt : tyB "tuple" "tuple" = true := by decide
def kBM (f : MB) (ms : MA) (ρ : Mv.Env) (R : MK) : MK := fun x S1 => isL S1 x ∧ ms ρ S1 fun vs S2 => f x vs S2 R
def kBM2 (f : MB) (x : MV) (R : MK) : KA := fun vs S => f x vs S R
theorem bm_ap {f mo ms ρ S R} : mBM f mo ms ρ S R = mo ρ S (kBM f ms ρ R) := rfl
theorem kBM_ap {f ms ρ R x S} : kBM f ms ρ R x S = (isL S x ∧ ms ρ S (kBM2 f x R)) := rfl
theorem kBM2_ap {f x R vs S} : kBM2 f x R vs S = f x vs S R := rfl
/-! statements -/
theorem msNil_ap {D ρ S} : msNil D ρ S = D.nx ρ S := rfl
theorem seq_ap {a b D ρ S} : msSeq a b D ρ S = a ⟨b D, D.rt, D.bk, D.ct⟩ ρ S := rfl
theorem nx_mk {a b c d} : MD.nx ⟨a, b, c, d⟩ = a := rfl
theorem rt_mk {a b c d} : MD.rt ⟨a, b, c, d⟩ = b := rfl
theorem bk_mk {a b c d} : MD.bk ⟨a, b, c, d⟩ = c := rfl
theorem ct_mk {a b c d} : MD.ct ⟨a, b, c, d⟩ = d := rfl
theorem ret_ap {m D ρ S} : msRet m D ρ S = m ρ S D.rt := rfl
theorem retN_ap {D ρ S} : msRetN D ρ S = D.rt .non S := rfl
theorem brk_ap {D ρ S} : msBrk D ρ S = D.bk ρ S := rfl
theorem cont_ap {D ρ S} : msCont D ρ S = D.ct ρ S := rfl
def kSet (i : Nat) (ρ : Mv.Env) (k : Mv.Env → Sto → Prop) : MK := fun v S => k (ρ.set i (some v)) S
theorem set_ap {i m D ρ S} : msSet i m D ρ S = m ρ S (kSet i ρ D.nx) := rfl
theorem kSet_ap {i ρ k v S} : kSet i ρ k v S = k (ρ.set i (some v)) S := rfl
def kDrop (ρ : Mv.Env) (k : Mv.Env → Sto → Prop) : MK := fun _ S => k ρ S
theorem expr_ap {m D ρ S} : msExpr m D ρ S = m ρ S (kDrop ρ D.nx) := rfl
theorem kDrop_ap {ρ k v S} : kDrop ρ k v S = k ρ S := rfl
def kIfS (a b : MS) (D : MD) (ρ : Mv.Env) : KB := fun c S => match c with
  | true => a D ρ S
  | false => b D ρ S
theorem ifS_ap {t a b D ρ S} : msIf t a b D ρ S = t ρ S (kIfS a b D ρ) := rfl
theorem kIfS_t {a b D ρ S} : kIfS a b D ρ true S = a D ρ S := rfl
theorem kIfS_f {a b D ρ S} : kIfS a b D ρ false S = b D ρ S := rfl
def kSub1 (mo mi : ME) (ρ : Mv.Env) (k : Mv.Env → Sto → Prop) : MK := fun v S1 => mo ρ S1 fun o S2 => mi ρ S2 fun i S3 => subPut o i v S3 fun S4 => k ρ S4
def kSub2 (mi : ME) (ρ : Mv.Env) (k : Mv.Env → Sto → Prop) (v : MV) : MK := fun o S2 => mi ρ S2 fun i S3 => subPut o i v S3 fun S4 => k ρ S4
def kSub3 (ρ : Mv.Env) (k : Mv.Env → Sto → Prop) (v o : MV) : MK := fun i S3 => subPut o i v S3 fun S4 => k ρ S4
theorem sub_ap {mo mi mv D ρ S} : msSub mo mi mv D ρ S = mv ρ S (kSub1 mo mi ρ D.nx) := rfl
theorem kSub1_ap {mo mi ρ k v S} : kSub1 mo mi ρ k v S = mo ρ S (kSub2 mi ρ k v) := rfl
theorem kSub2_ap {mi ρ k v o S} : kSub2 mi ρ k v o S = mi ρ S (kSub3 ρ k v o) := rfl
theorem kSub3_ap {ρ k v o i S} : kSub3 ρ k v o i S = subPut o i v S (k ρ) := rfl
theorem defW_ap {np n body ms S R} (h : ms.length = np) : defW np n body ms S R = body ⟨fun _ S' => dropK R .non S', dropK R, fun _ _ => False, fun _ _ => False⟩ (startM n ms) S := by
  unfold defW
  exact propext ⟨fun q => q.2, fun q => ⟨h, q⟩⟩
/-! values -/
theorem add_ii {i j S R} : addV (.int i) (.int j) S R = R (.int (i + j)) S := rfl
theorem add_tt {l k S R} (h : l.length + k.length ≤ 100) : addV (.tup l) (.tup k) S R = R (.tup (l ++ k)) S := by
  have : l.length + k.length ≤ sizeLine := Nat.le_trans h (by decide)
  show (_ ∧ _) = _
  exact propext ⟨fun q => q.2, fun q => ⟨this, q⟩⟩
theorem sub_ii {i j S R} : subV (.int i) (.int j) S R = R (.int (i - j)) S := rfl
theorem mul_ii {i j S R} : mulV (.int i) (.int j) S R = (CMul i j ∧ R (.int (i * j)) S) := rfl
theorem mul_lt {i j S R} (h : -(2 ^ 64) < i) (h2 : i < 2 ^ 64) : mulV (.int i) (.int j) S R = R (.int (i * j)) S := by
  show (_ ∧ _) = _
  exact propext ⟨fun q => q.2, fun q => ⟨.inl ⟨h, h2⟩, q⟩⟩
theorem mul_rt {i j S R} (h : -(2 ^ 64) < j) (h2 : j < 2 ^ 64) : mulV (.int i) (.int j) S R = R (.int (i * j)) S := by
  show (_ ∧ _) = _
  exact propext ⟨fun q => q.2, fun q => ⟨.inr ⟨h, h2⟩, q⟩⟩
theorem mod_ii {i j S R} (h : 0 < j) : modV (.int i) (.int j) S R = R (.int (i % j)) S := by
  show (_ ∧ _) = _
  exact propext ⟨fun q => q.2, fun q => ⟨h, q⟩⟩
theorem fdiv_ii {i j S R} (h : 0 < j) (h2 : j < 1073741824) : fdivV (.int i) (.int j) S R = R (.int (i / j)) S := by
  show (_ ∧ _) = _
  exact propext ⟨fun q => q.2, fun q => ⟨⟨h, h2⟩, q⟩⟩
theorem lt_ii {i j S R} : ltV (.int i) (.int j) S R = R (.bl (decide (i < j))) S := rfl
theorem le_ii {i j S R} : leV (.int i) (.int j) S R = R (.bl (decide (i ≤ j))) S := rfl
theorem gt_ii {i j S R} : gtV (.int i) (.int j) S R = R (.bl (decide (j < i))) S := rfl
theorem ge_ii {i j S R} : geV (.int i) (.int j) S R = R (.bl (decide (j ≤ i))) S := rfl
def kEq (f : Bool → Bool) (d e : Option PyData) (R : MK) (S : Sto) : Prop := match d, e with
  | some d, some e => R (.bl (f (PyData.eqv d e))) S
  | _, _ => False
def bId (b : Bool) : Bool := b
theorem bId_ap {b} : bId b = b := rfl
theorem eq_ap {x y S R} : eqV' x y S R = kEq bId (dat S x) (dat S y) R S := rfl
theorem ne_ap {x y S R} : neV' x y S R = kEq not (dat S x) (dat S y) R S := rfl
theorem kEq_some {f d e R S} : kEq f (some d) (some e) R S = R (.bl (f (PyData.eqv d e))) S := rfl
theorem dat_int {S i} : dat S (.int i) = some (.int i) := rfl
theorem dat_bl {S i} : dat S (.bl i) = some (.bool i) := rfl
theorem dat_non {S} : dat S .non = some .none := rfl
theorem dat_str {S s} (h : PyData.strOk (so s) = true) : dat S (.str s) = some (.str (so s)) := by
  show (if _ then _ else _) = _
  rw [if_pos h]
theorem dat_tup {S l} (h : fits l 59 = true) : dat S (.tup l) = some (.tuple (pds l)) := by
  show (if _ then _ else _) = _
  rw [if_pos h]
theorem eqv_ii {i j : Int} : PyData.eqv (.int i) (.int j) = decide (i = j) := by
  show (i == j) = _
  by_cases h : i = j <;> simp [h]
theorem eqv_ss {s t : String} : PyData.eqv (.str (so s)) (.str (so t)) = decide (s = t) := by
  show (so s == so t) = _
  rw [so_beq]
  by_cases h : s = t <;> simp [h]
theorem eqv_bb {i j : Bool} : PyData.eqv (.bool i) (.bool j) = (i == j) := rfl
def kO (o : Option MV) (R : MK) (S : Sto) : Prop := match o with
  | some v => R v S
  | none => False
theorem kO_some {v R S} : kO (some v) R S = R v S := rfl
theorem ix_t {l i S R} : ixV (.tup l) (.int i) S R = kO (atI l i) R S := by
  show (match atI l i with | some v => R v S | none => False) = _
  unfold kO; cases atI l i <;> rfl
def kL (o : Option (List MV)) (f : List MV → Prop) : Prop := match o with
  | some l => f l
  | none => False
theorem kL_some {l f} : kL (some l) f = f l := rfl
theorem at_0 {x : MV} {l : List MV} : atI (x :: l) 0 = some x := atI_nat (j := 0) rfl
theorem at_1 {x y : MV} {l : List MV} : atI (x :: y :: l) 1 = some y := atI_nat (j := 1) rfl
theorem at_2 {x y z : MV} {l : List MV} : atI (x :: y :: z :: l) 2 = some z := atI_nat (j := 2) rfl
theorem at_3 {x y z u : MV} {l : List MV} : atI (x :: y :: z :: u :: l) 3 = some u := atI_nat (j := 3) rfl
theorem at_4 {x y z u v : MV} {l : List MV} : atI (x :: y :: z :: u :: v :: l) 4 = some v := atI_nat (j := 4) rfl
theorem at_5 {x y z u v w : MV} {l : List MV} : atI (x :: y :: z :: u :: v :: w :: l) 5 = some w := atI_nat (j := 5) rfl
theorem at_nat {l : List MV} {j : Nat} {v : MV} (h : l[j]? = some v) : atI l (j : Int) = some v := atI_nat h
theorem len_t {l S R} : lenV [.tup l] S R = R (.int l.length) S := rfl
theorem list_t {l S R} : listV [.tup l] S R = newL l S R := rfl
theorem list_f {l S R} : listV [.frz l] S R = newL l S R := rfl
theorem tuple_t {l S R} : tupleV [.tup l] S R = R (.tup l) S := rfl
theorem int_i {i S R} : intV [.int i] S R = R (.int i) S := rfl
theorem int_b {b S R} : intV [.bl b] S R = R (.int (if b then 1 else 0)) S := rfl
/-! lists of fixed length, the store -/
theorem l_set0 {α : Type} {a v : α} {l : List α} : (a :: l).set 0 v = v :: l := rfl
theorem l_setS {α : Type} {a v : α} {l : List α} {n : Nat} : (a :: l).set (n + 1) v = a :: l.set n v := rfl
theorem l_get0 {α : Type} {a : α} {l : List α} : (a :: l)[0]? = some a := rfl
theorem l_getS {α : Type} {a : α} {l : List α} {n : Nat} : (a :: l)[n + 1]? = l[n]? := by simp
theorem l_len0 {α : Type} : ([] : List α).length = 0 := rfl
theorem l_lenS {α : Type} {a : α} {l : List α} : (a :: l).length = l.length + 1 := rfl
theorem l_app0 {α : Type} {l : List α} : [] ++ l = l := rfl
theorem l_appS {α : Type} {a : α} {l k : List α} : (a :: l) ++ k = a :: (l ++ k) := rfl
theorem l_map0 {α β : Type} {f : α → β} : [].map f = [] := rfl
theorem l_mapS {α β : Type} {f : α → β} {a : α} {l : List α} : (a :: l).map f = f a :: l.map f := rfl
theorem l_len_map {α β : Type} {f : α → β} {l : List α} : (l.map f).length = l.length := List.length_map _
theorem l_rep0 {α : Type} {a : α} : List.replicate 0 a = [] := rfl
theorem l_repS {α : Type} {a : α} {n : Nat} : List.replicate (n + 1) a = a :: List.replicate n a := rfl
theorem start_ap {n ms} : startM n ms = ms.map some ++ List.replicate (n - ms.length) none := rfl
theorem wipe_nil {ρ} : wipeM ρ [] = ρ := rfl
theorem wipe_cons {ρ v vs} : wipeM ρ (v :: vs) = (wipeM ρ vs).set v none := rfl
theorem sd_same {S a o} : supd S a o a = some o := by unfold supd; rw [if_pos rfl]
theorem sd_ne {S a o b} (h : b ≠ a) : supd S a o b = S b := by unfold supd; rw [if_neg h]
theorem supd_supd {S a o o'} : supd (supd S a o) a o' = supd S a o' := by
  funext b
  unfold supd
  by_cases h : b = a <;> simp [h]
theorem o_map_some {α β : Type} {f : α → β} {a : α} : (some a).map f = some (f a) := rfl
theorem ixN_nat {n j : Nat} (h : j < n) : ixN n (j : Int) = some j := by
  unfold ixN
  rw [if_pos (by omega), if_pos (by omega)]
  simp
theorem ixN_0 {n : Nat} : ixN (n + 1) 0 = some 0 := ixN_nat (n := n + 1) (j := 0) (by omega)
theorem ixN_1 {n : Nat} : ixN (n + 2) 1 = some 1 := ixN_nat (n := n + 2) (j := 1) (by omega)
theorem ixN_2 {n : Nat} : ixN (n + 3) 2 = some 2 := ixN_nat (n := n + 3) (j := 2) (by omega)
theorem ixN_3 {n : Nat} : ixN (n + 4) 3 = some 3 := ixN_nat (n := n + 4) (j := 3) (by omega)
theorem look_l {S : Sto} {a l} (h : S a = some (.lst l)) : lookL S a = some l := by unfold lookL; rw [h]
/-! loops -/
def kFor (pt : Pat) (body : MS) (D : MD) (ρ : Mv.Env) : Items → Sto → Prop := fun I S => forL I.keep pt body D I.vs ρ S
theorem for_ap {mi pt body D ρ S} : msFor mi pt body D ρ S = mi ρ S (kFor pt body D ρ) := rfl
theorem kFor_ap {pt body D ρ vs k S} : kFor pt body D ρ ⟨vs, k⟩ S = forL k pt body D vs ρ S := rfl
def kIter (R : Items → Sto → Prop) : MK := fun x S1 => match x with
  | .tup l => R ⟨l, []⟩ S1
  | .ref a => (match lookL S1 a with
    | some l => R ⟨l, [(a, l)]⟩ S1
    | none => False)
  | .frz l => R ⟨l, []⟩ S1
  | _ => False
theorem iter_ap {m ρ S R} : mIter m ρ S R = m ρ S (kIter R) := rfl
theorem kIter_t {R l S} : kIter R (.tup l) S = R ⟨l, []⟩ S := rfl
theorem kIter_f {R l S} : kIter R (.frz l) S = R ⟨l, []⟩ S := rfl
def kRng1 (R : Items → Sto → Prop) : KA := fun vs S1 => match vs with
  | [.int j] => (-(2 ^ 62) ≤ j ∧ j < 2 ^ 62) ∧ R ⟨rngM 0 j.toNat, []⟩ S1
  | _ => False
theorem rng1_ap {ms ρ S R} : mRng1 ms ρ S R = ms ρ S (kRng1 R) := rfl
theorem kRng1_ap {R S} {j : Int} (h0 : 0 ≤ j) (h1 : j < 2 ^ 62) : kRng1 R [.int j] S = R ⟨rngM 0 j.toNat, []⟩ S := by
  show (_ ∧ _) = _
  exact propext ⟨fun q => q.2, fun q => ⟨⟨by omega, h1⟩, q⟩⟩
def kRng2 (R : Items → Sto → Prop) : KA := fun vs S1 => match vs with
  | [.int i, .int j] => (-(2 ^ 62) ≤ i ∧ i < 2 ^ 62 ∧ -(2 ^ 62) ≤ j ∧ j < 2 ^ 62) ∧ R ⟨rngM i (j - i).toNat, []⟩ S1
  | _ => False
theorem rng2_ap {ms ρ S R} : mRng2 ms ρ S R = ms ρ S (kRng2 R) := rfl
theorem kRng2_ap {R S} {i j : Int} (h0 : -(2 ^ 62) ≤ i) (h1 : i < 2 ^ 62) (h2 : -(2 ^ 62) ≤ j) (h3 : j < 2 ^ 62) : kRng2 R [.int i, .int j] S = R ⟨rngM i (j - i).toNat, []⟩ S := by
  show (_ ∧ _) = _
  exact propext ⟨fun q => q.2, fun q => ⟨⟨h0, h1, h2, h3⟩, q⟩⟩
def kRev (R : Items → Sto → Prop) : MK := fun x S1 => match x with
  | .tup l => R ⟨l.reverse, []⟩ S1
  | .ref a => (match lookL S1 a with
    | some l => R ⟨l.reverse, [(a, l)]⟩ S1
    | none => False)
  | .frz l => R ⟨l.reverse, []⟩ S1
  | _ => False
theorem rev_ap {m ρ S R} : mReversed m ρ S R = m ρ S (kRev R) := rfl
theorem kRev_t {R l S} : kRev R (.tup l) S = R ⟨l.reverse, []⟩ S := rfl
theorem kRev_f {R l S} : kRev R (.frz l) S = R ⟨l.reverse, []⟩ S := rfl
def kNew (R : MK) : KA := fun l S => newL l S R
theorem kNew_ap {R l S} : kNew R l S = newL l S R := rfl
def kLc (pt : Pat) (tt : MT) (te : ME) (ρ : Mv.Env) (R : MK) : Items → Sto → Prop := fun I S => lcL I.keep pt tt te ρ (kNew R) I.vs [] S
theorem lc_ap {mi pt tt te vs ρ S R} : mLc mi pt tt te vs ρ S R = mi ρ S (kLc pt tt te (wipeM ρ vs) R) := rfl
theorem kLc_ap {pt tt te ρ R vs k S} : kLc pt tt te ρ R ⟨vs, k⟩ S = lcL k pt tt te ρ (kNew R) vs [] S := rfl
theorem yes_ap {ρ S R} : mYes ρ S R = R true S := rfl
theorem bind_nm {i v S ρ k} : bindP (.nm i) v S ρ k = k (ρ.set i (some v)) := by unfold bindP; rfl
theorem bind_tp {ps l S ρ k} : bindP (.tp ps) (.tup l) S ρ k = Mv.bindL ps l S ρ k := by unfold bindP; rfl
theorem bindL_nil {S ρ k} : Mv.bindL [] [] S ρ k = k ρ := by
  unfold Mv.bindL
  exact propext ⟨fun q => q.2, fun q => ⟨rfl, q⟩⟩
def kBL (ps : List Pat) (r : List MV) (S : Sto) (k : Mv.Env → Prop) : Mv.Env → Prop := fun ρ' => Mv.bindL ps r S ρ' k
theorem bindL_cons {p ps v r S ρ k} : Mv.bindL (p :: ps) (v :: r) S ρ k = bindP p v S ρ (kBL ps r S k) := by
  conv => lhs; unfold Mv.bindL
  rfl
theorem kBL_ap {ps r S k ρ} : kBL ps r S k ρ = Mv.bindL ps r S ρ k := rfl
def kPat (p : Pat) (ρ : Mv.Env) (k : Mv.Env → Sto → Prop) : MK := fun v S => bindP p v S ρ fun ρ' => k ρ' S
theorem pat_ap {p m D ρ S} : msPat p m D ρ S = m ρ S (kPat p ρ D.nx) := rfl
theorem kPat_ap {p ρ k v S} : kPat p ρ k v S = bindP p v S ρ fun ρ' => k ρ' S := rfl
def kAug1 (i : Nat) (f : M2) (x : MV) (ρ : Mv.Env) (k : Mv.Env → Sto → Prop) : MK := fun y S => f x y S fun z S2 => k (ρ.set i (some z)) S2
def kAugO (o : Option (Option MV)) (i : Nat) (f : M2) (m : ME) (ρ : Mv.Env) (k : Mv.Env → Sto → Prop) (S : Sto) : Prop := match o with
  | some (some x) => m ρ S (kAug1 i f x ρ k)
  | _ => False
theorem aug_ap {i f m D ρ S} : msAug i f m D ρ S = kAugO ρ[i]? i f m ρ D.nx S := rfl
theorem kAugO_ap {x i f m ρ k S} : kAugO (some (some x)) i f m ρ k S = m ρ S (kAug1 i f x ρ k) := rfl
theorem kAug1_ap {i f x ρ k y S} : kAug1 i f x ρ k y S = f x y S (kSet i ρ k) := rfl
theorem iadd_ii {i j S R} : iaddV (.int i) (.int j) S R = R (.int (i + j)) S := rfl
theorem keep_nil {S} : keepOk [] S := fun p h => by cases h
theorem keep_one {S : Sto} {a l} (h : lookL S a = some l) : keepOk [(a, l)] S := fun p hp => by
  cases hp with
  | head => exact h
  | tail _ h => cases h
/-- a loop's rule -/
theorem for_rule {k : List (Addr × List MV)} {pt : Pat} {body : MS} {D : MD} (I : Nat → Mv.Env → Sto → Prop) {vs : List MV} (hk : ∀ i ρ S, I i ρ S → keepOk k S)
    (step : ∀ i v ρ S (D' : MD), vs[i]? = some v → I i ρ S → (∀ ρ' S', I (i + 1) ρ' S' → D'.nx ρ' S') → (∀ ρ' S', I (i + 1) ρ' S' → D'.ct ρ' S') → D'.rt = D.rt → D'.bk = D.nx → bindP pt v S ρ fun ρ' => body D' ρ' S)
    (done : ∀ ρ S, I vs.length ρ S → D.nx ρ S) {ρ : Mv.Env} {S : Sto} (h0 : I 0 ρ S) : forL k pt body D vs ρ S := by
  suffices h : ∀ (n i : Nat) (ρ : Mv.Env) (S : Sto), n = vs.length - i → i ≤ vs.length → I i ρ S → forL k pt body D (vs.drop i) ρ S from by
    simpa using h _ 0 ρ S rfl (Nat.zero_le _) h0
  intro n
  induction n with
  | zero =>
    intro i ρ S hn hi h
    have e : i = vs.length := by omega
    subst e
    rw [List.drop_length]
    unfold forL
    exact ⟨hk _ _ _ h, done _ _ h⟩
  | succ n ih =>
    intro i ρ S hn hi h
    have hl : i < vs.length := by omega
    rw [List.drop_eq_getElem_cons hl]
    unfold forL
    exact ⟨hk _ _ _ h, step i _ ρ S { D with nx := forL k pt body D (vs.drop (i + 1)), ct := forL k pt body D (vs.drop (i + 1)), bk := D.nx } (by simp [hl]) h (fun ρ' S' h' => ih (i + 1) ρ' S' (by omega) (by omega) h') (fun ρ' S' h' => ih (i + 1) ρ' S' (by omega) (by omega) h') rfl rfl⟩
/-- a comprehension's rule -/
theorem lc_rule {k : List (Addr × List MV)} {pt : Pat} {tt : MT} {te : ME} {ρ : Mv.Env} {Q : List MV → Sto → Prop} (I : Nat → List MV → Sto → Prop) {vs : List MV} (hk : ∀ i acc S, I i acc S → keepOk k S) (hn : vs.length < sizeLine) (hl : ∀ i acc S, I i acc S → acc.length ≤ i)
    (step : ∀ i v acc S, vs[i]? = some v → I i acc S → ∀ (R : MK) (N : Sto → Prop), (∀ y S', I (i + 1) (acc ++ [y]) S' → R y S') → (∀ S', I (i + 1) acc S' → N S') → bindP pt v S ρ fun ρ' => tt ρ' S fun b S1 => match b with
      | true => te ρ' S1 R
      | false => N S1)
    (done : ∀ acc S, I vs.length acc S → Q acc S) {acc : List MV} {S : Sto} (h0 : I 0 acc S) : lcL k pt tt te ρ Q vs acc S := by
  suffices h : ∀ (n i : Nat) (acc : List MV) (S : Sto), n = vs.length - i → i ≤ vs.length → I i acc S → lcL k pt tt te ρ Q (vs.drop i) acc S from by
    simpa using h _ 0 acc S rfl (Nat.zero_le _) h0
  intro n
  induction n with
  | zero =>
    intro i acc S hn hi h
    have e : i = vs.length := by omega
    subst e
    rw [List.drop_length]
    unfold lcL
    exact ⟨hk _ _ _ h, done _ _ h⟩
  | succ n ih =>
    intro i acc S hn' hi h
    have hli : i < vs.length := by omega
    rw [List.drop_eq_getElem_cons hli]
    unfold lcL
    refine ⟨hk _ _ _ h, step i _ acc S (by simp [hli]) h (fun y S2 => acc.length < sizeLine ∧ lcL k pt tt te ρ Q (vs.drop (i + 1)) (acc ++ [y]) S2) (fun S1 => lcL k pt tt te ρ Q (vs.drop (i + 1)) acc S1) (fun y S' h' => ⟨?_, ih (i + 1) _ S' (by omega) (by omega) h'⟩) (fun S' h' => ih (i + 1) acc S' (by omega) (by omega) h')⟩
    have := hl _ _ _ h
    omega
theorem rng_get {lo : Int} {n i : Nat} {v : MV} (h : (rngM lo n)[i]? = some v) : i < n ∧ v = .int (lo + (i : Int)) := by
  have hi : i < n := by
    have := (List.getElem?_eq_some_iff.mp h).1
    simpa [rngM] using this
  refine ⟨hi, ?_⟩
  have : (rngM lo n)[i]? = some (.int (lo + (i : Int))) := by simp [rngM, hi]
  rw [this] at h
  exact (Option.some.inj h).symm
theorem rng_len {lo : Int} {n : Nat} : (rngM lo n).length = n := by simp [rngM]

def kIsL (o : Option (List MV)) : Prop := match o with
  | some _ => True
  | none => False
theorem isL_r {S a} : isL S (.ref a) = kIsL (lookL S a) := by
  unfold isL kIsL
  cases h : lookL S a <;> simp [h]
theorem kIsL_some {l} : kIsL (some l) = True := rfl
def kIx (o : Option (List MV)) (i : Int) (R : MK) (S : Sto) : Prop := match o with
  | some l => kO (atI l i) R S
  | none => False
theorem ix_r {a i S R} : ixV (.ref a) (.int i) S R = kIx (lookL S a) i R S := by
  show (match lookL S a with | some l => (match atI l i with | some v => R v S | none => False) | none => False) = _
  unfold kIx kO
  cases lookL S a <;> rfl
theorem kIx_some {l i R S} : kIx (some l) i R S = kO (atI l i) R S := rfl
def kLen (o : Option (List MV)) (R : MK) (S : Sto) : Prop := match o with
  | some l => R (.int l.length) S
  | none => False
theorem len_r {a S R} : lenV [.ref a] S R = kLen (lookL S a) R S := rfl
theorem kLen_some {l R S} : kLen (some l) R S = R (.int l.length) S := rfl
def kList (o : Option (List MV)) (R : MK) (S : Sto) : Prop := match o with
  | some l => newL l S R
  | none => False
theorem list_r {a S R} : listV [.ref a] S R = kList (lookL S a) R S := rfl
theorem kList_some {l R S} : kList (some l) R S = newL l S R := rfl
def kTuple (o : Option (List MV)) (R : MK) (S : Sto) : Prop := match o with
  | some l => R (.tup l) S
  | none => False
theorem tuple_r {a S R} : tupleV [.ref a] S R = kTuple (lookL S a) R S := rfl
theorem kTuple_some {l R S} : kTuple (some l) R S = R (.tup l) S := rfl
def kPut (o : Option MO) (a : Addr) (i : Int) (v : MV) (S : Sto) (k : Sto → Prop) : Prop := match o with
  | some (.lst l) => (match ixN l.length i with
    | some j => k (supd S a (.lst (l.set j v)))
    | none => False)
  | _ => False
def kPutO (o : Option Nat) (a : Addr) (l : List MV) (v : MV) (S : Sto) (k : Sto → Prop) : Prop := match o with
  | some j => k (supd S a (.lst (l.set j v)))
  | none => False
theorem put_r {a i v S k} : subPut (.ref a) (.int i) v S k = kPut (S a) a i v S k := by
  unfold subPut kPut
  dsimp only
  cases S a with
  | none => rfl
  | some o => cases o <;> rfl
theorem kPut_l {l a i v S k} : kPut (some (.lst l)) a i v S k = kPutO (ixN l.length i) a l v S k := rfl
theorem kPutO_some {j a l v S k} : kPutO (some j) a l v S k = k (supd S a (.lst (l.set j v))) := rfl
def kApp (o : Option MO) (a : Addr) (v : MV) (S : Sto) (R : MK) : Prop := match o with
  | some (.lst l) => l.length < sizeLine ∧ R .non (supd S a (.lst (l ++ [v])))
  | _ => False
theorem append_r {a v S R} : appendV (.ref a) [v] S R = kApp (S a) a v S R := by
  unfold appendV kApp
  rfl
theorem kApp_l {l a v S R} (h : l.length < 1000000) : kApp (some (.lst l)) a v S R = R .non (supd S a (.lst (l ++ [v]))) := by
  have : l.length < sizeLine := Nat.lt_of_lt_of_le h (by decide)
  show (_ ∧ _) = _
  exact propext ⟨fun q => q.2, fun q => ⟨this, q⟩⟩
def kPop0 (o : Option MO) (a : Addr) (S : Sto) (R : MK) : Prop := match o with
  | some (.lst (v :: l)) => R v (supd S a (.lst l))
  | _ => False
theorem pop0_r {a S R} : popV (.ref a) [.int 0] S R = kPop0 (S a) a S R := by
  unfold popV kPop0
  rfl
theorem kPop0_l {v l a S R} : kPop0 (some (.lst (v :: l))) a S R = R v (supd S a (.lst l)) := rfl
def kIterO (o : Option (List MV)) (a : Addr) (f : List MV → List MV) (R : Items → Sto → Prop) (S : Sto) : Prop := match o with
  | some l => R ⟨f l, [(a, l)]⟩ S
  | none => False
theorem kIter_r {R a S} : kIter R (.ref a) S = kIterO (lookL S a) a id R S := rfl
theorem kRev_r {R a S} : kRev R (.ref a) S = kIterO (lookL S a) a List.reverse R S := rfl
theorem kIterO_some {l a f R S} : kIterO (some l) a f R S = R ⟨f l, [(a, l)]⟩ S := rfl
theorem id_ap {l : List MV} : id l = l := rfl
def kDatL (o : Option (List MV)) : Option PyData := match o with
  | some l => if fits l 59 then some (.list (pds l)) else none
  | none => none
theorem dat_r {S a} : dat S (.ref a) = kDatL (lookL S a) := by
  show datL S a = _
  unfold datL kDatL
  cases lookL S a <;> rfl
theorem kDatL_some {l} (h : fits l 59 = true) : kDatL (some l) = some (.list (pds l)) := by
  show (if _ then _ else _) = _
  rw [if_pos h]
def kBindO (o : Option (List MV)) (ps : List Pat) (S : Sto) (ρ : Mv.Env) (k : Mv.Env → Prop) : Prop := match o with
  | some l => Mv.bindL ps l S ρ k
  | none => False
theorem bind_tpr {ps a ρ k S} : bindP (.tp ps) (.ref a) S ρ k = kBindO (lookL S a) ps S ρ k := by
  conv => lhs; unfold bindP
  rfl
theorem kBindO_some {l ps S ρ k} : kBindO (some l) ps S ρ k = Mv.bindL ps l S ρ k := rfl
theorem eqvL_self {l : List MV} (h : fits l 59 = true) : PyData.eqv (.list (pds l)) (.list (pds l)) = true := PySem.SeqAt.eqv_refl _ (by
  simp only [PyData.canLay0]
  exact (fits_lay l 59 h).1)
theorem eqvT_self {l : List MV} (h : fits l 59 = true) : PyData.eqv (.tuple (pds l)) (.tuple (pds l)) = true := PySem.SeqAt.eqv_refl _ (by
  simp only [PyData.canLay0]
  exact (fits_lay l 59 h).1)
theorem fits_ints : ∀ (l : List Int) (n : Nat), fits (l.map MV.int) n = true
  | [], n => by unfold fits; rfl
  | a :: l, n => by
    rw [List.map_cons]
    unfold fits
    rw [fits_ints l n]
    simp [fit]

def kDisp (ks : List String) (R : MK) : KA := fun vs S1 => newD (mergeD [] (ks.zip vs)) S1 R
theorem disp_ap {ks ms ρ S R} : mDisp ks ms ρ S R = ms ρ S (kDisp ks R) := rfl
theorem any_ne {l : List (String × MV)} {k : String} (h : k ∉ l.map (·.1)) : (l.any fun kv => kv.1 == k) = false := by
  rw [List.any_eq_false]
  intro x hx e
  exact h (List.mem_map.mpr ⟨x, hx, eq_of_beq e⟩)
theorem merge_dis : ∀ (l acc : List (String × MV)), ((acc ++ l).map (·.1)).Nodup → mergeD acc l = acc ++ l
  | [], acc, _ => by simp [mergeD]
  | (k, v) :: l, acc, h => by
    have e : putD acc k v = acc ++ [(k, v)] := by
      unfold putD
      rw [any_ne, if_neg (by simp)]
      intro hk
      rw [List.map_append, List.nodup_append] at h
      exact h.2.2 k hk k (by simp) rfl
    have : mergeD acc ((k, v) :: l) = mergeD (acc ++ [(k, v)]) l := by
      unfold mergeD
      rw [List.foldl_cons, e]
    rw [this, merge_dis l (acc ++ [(k, v)]) (by simpa using h), List.append_assoc]
    rfl
theorem kDisp_ap {ks R vs S} (h : ks.Nodup) (hl : ks.length = vs.length) : kDisp ks R vs S = newD (ks.zip vs) S R := by
  unfold kDisp
  rw [merge_dis _ [] (by rw [List.nil_append, List.map_fst_zip (by omega)]; exact h)]
  rfl
theorem dictN_ap {ρ S R} : mDictN ρ S R = newD [] S R := rfl
theorem zip_nil {α β : Type} {l : List β} : ([] : List α).zip l = [] := rfl
theorem zip_cons {α β : Type} {a : α} {b : β} {l : List α} {k : List β} : (a :: l).zip (b :: k) = (a, b) :: l.zip k := rfl
def kDg (o : Option MO) (s : String) (R : MK) (S : Sto) : Prop := match o with
  | some (.dct kvs) => kO (kvs.lookup s) R S
  | _ => False
theorem dget_ap {a s S R} : dgetV (.ref a) (.str s) S R = kDg (S a) s R S := by
  unfold dgetV kDg kO
  try dsimp only
  all_goals
    cases S a with
    | none => rfl
    | some o => cases o <;> rfl
theorem kDg_d {kvs s R S} : kDg (some (.dct kvs)) s R S = kO (kvs.lookup s) R S := rfl
theorem look_if {s k : String} {v : MV} {l : List (String × MV)} : ((k, v) :: l).lookup s = if s = k then some v else l.lookup s := by
  by_cases h : s = k
  · subst h; simp
  · rw [List.lookup_cons, if_neg h]
    have : (s == k) = false := by simpa using h
    rw [this]
theorem is_bb {a b S R} : isV (.bl a) (.bl b) S R = R (.bl (decide (a = b))) S := rfl
theorem is_nn {S R} : isV .non .non S R = R (.bl true) S := rfl
theorem is_in {i S R} : isV (.int i) .non S R = R (.bl false) S := rfl
theorem is_sn {i S R} : isV (.str i) .non S R = R (.bl false) S := rfl
theorem is_tn {i S R} : isV (.tup i) .non S R = R (.bl false) S := rfl
theorem is_rn {i S R} : isV (.ref i) .non S R = R (.bl false) S := rfl
theorem isnt_bb {a b S R} : isnotV (.bl a) (.bl b) S R = R (.bl (!decide (a = b))) S := rfl
theorem isnt_nn {S R} : isnotV .non .non S R = R (.bl false) S := rfl
theorem isnt_in {i S R} : isnotV (.int i) .non S R = R (.bl true) S := rfl
theorem isnt_sn {i S R} : isnotV (.str i) .non S R = R (.bl true) S := rfl
theorem isnt_tn {i S R} : isnotV (.tup i) .non S R = R (.bl true) S := rfl
theorem isnt_rn {i S R} : isnotV (.ref i) .non S R = R (.bl true) S := rfl
def kFld (T : String → String → Bool) (f : String) (R : MK) : MK := fun x S1 => match x with
  | .ref a => (match S1 a with
    | some (.ins c fs) => T c f = true ∧ (match fs.lookup f with
      | some v => R v S1
      | none => False)
    | _ => False)
  | _ => False
def kFldO (o : Option MO) (T : String → String → Bool) (f : String) (R : MK) (S : Sto) : Prop := match o with
  | some (.ins c fs) => T c f = true ∧ kO (fs.lookup f) R S
  | _ => False
theorem fld_ap {T m f ρ S R} : mFld T m f ρ S R = m ρ S (kFld T f R) := rfl
theorem kFld_ap {T f R a S} : kFld T f R (.ref a) S = kFldO (S a) T f R S := by
  unfold kFld kFldO kO
  try dsimp only
  all_goals
    cases S a with
    | none => rfl
    | some o => cases o <;> rfl
theorem kFldO_i {c fs T f R S} : kFldO (some (.ins c fs)) T f R S = (T c f = true ∧ kO (fs.lookup f) R S) := rfl
def kMeth (c m : String) (W : MW) (ms : MA) (ρ : Mv.Env) (R : MK) : MK := fun x S1 => match x with
  | .ref a => (match S1 a with
    | some (.ins c' fs) => c' = c ∧ fs.lookup m = none ∧ ms ρ S1 fun vs S2 => W (.ref a :: vs) S2 R
    | _ => False)
  | _ => False
def kMethA (W : MW) (a : Addr) (R : MK) : KA := fun vs S2 => W (.ref a :: vs) S2 R
def kMethO (o : Option MO) (c m : String) (W : MW) (a : Addr) (ms : MA) (ρ : Mv.Env) (R : MK) (S : Sto) : Prop := match o with
  | some (.ins c' fs) => c' = c ∧ fs.lookup m = none ∧ ms ρ S (kMethA W a R)
  | _ => False
theorem meth_ap {c m W mo ms ρ S R} : mMeth c m W mo ms ρ S R = mo ρ S (kMeth c m W ms ρ R) := rfl
theorem kMeth_ap {c m W ms ρ R a S} : kMeth c m W ms ρ R (.ref a) S = kMethO (S a) c m W a ms ρ R S := rfl
theorem kMethO_i {c fs m W a ms ρ R S} : kMethO (some (.ins c fs)) c m W a ms ρ R S = (fs.lookup m = none ∧ ms ρ S (kMethA W a R)) := by
  show (_ ∧ _) = _
  exact propext ⟨fun q => q.2, fun q => ⟨rfl, q⟩⟩
theorem kMethA_ap {W a R vs S} : kMethA W a R vs S = W (.ref a :: vs) S R := rfl
def kMk (c : String) (W : MW) (R : MK) : KA := fun vs S1 => ∀ p, S1 p = none → W (.ref p :: vs) (supd S1 p (.ins c [])) fun v S2 => v = .non ∧ R (.ref p) S2
theorem make_ap {c W ms ρ S R} : mMake c W ms ρ S R = ms ρ S (kMk c W R) := rfl
/-! slices -/
def kPart (R : Option Int → Sto → Prop) : MK := fun x S1 => match x with
  | .int i => R (some i) S1
  | _ => False
def kSl1 (lo hi : mPart) (ρ : Mv.Env) (R : MK) : MK := fun x S1 => lo ρ S1 fun l S2 => hi ρ S2 fun u S3 => slV x l u S3 R
def kSl2 (x : MV) (hi : mPart) (ρ : Mv.Env) (R : MK) : Option Int → Sto → Prop := fun l S2 => hi ρ S2 fun u S3 => slV x l u S3 R
def kSl3 (x : MV) (l : Option Int) (R : MK) : Option Int → Sto → Prop := fun u S3 => slV x l u S3 R
theorem sl_ap {m lo hi ρ S R} : mSl m lo hi ρ S R = m ρ S (kSl1 lo hi ρ R) := rfl
theorem kSl1_ap {lo hi ρ R x S} : kSl1 lo hi ρ R x S = lo ρ S (kSl2 x hi ρ R) := rfl
theorem kSl2_ap {x hi ρ R l S} : kSl2 x hi ρ R l S = hi ρ S (kSl3 x l R) := rfl
theorem kSl3_ap {x l R u S} : kSl3 x l R u S = slV x l u S R := rfl
theorem pNo_ap {ρ S R} : pNo ρ S R = R none S := rfl
theorem pYes_ap {m ρ S R} : pYes m ρ S R = m ρ S (kPart R) := rfl
theorem kPart_ap {i R S} : kPart R (.int i) S = R (some i) S := rfl
def kRvL (R : MK) : MK := fun x S1 => match x with
  | .ref a => (match lookL S1 a with
    | some l => newL l.reverse S1 R
    | none => False)
  | .frz l => newL l.reverse S1 R
  | _ => False
def kRvO (o : Option (List MV)) (R : MK) (S : Sto) : Prop := match o with
  | some l => newL l.reverse S R
  | none => False
theorem revL_ap {m ρ S R} : mRev m ρ S R = m ρ S (kRvL R) := rfl
theorem kRvL_ap {R a S} : kRvL R (.ref a) S = kRvO (lookL S a) R S := rfl
theorem kRvO_some {l R S} : kRvO (some l) R S = newL l.reverse S R := rfl
theorem kRvL_f {R l S} : kRvL R (.frz l) S = newL l.reverse S R := rfl

/-! by value -/
theorem dat_frz {S l} (h : fits l 59 = true) : dat S (.frz l) = some (.list (pds l)) := by
  show (if _ then _ else _) = _
  rw [if_pos h]
theorem ix_f {l i S R} : ixV (.frz l) (.int i) S R = kO (atI l i) R S := by
  show (match atI l i with | some v => R v S | none => False) = _
  unfold kO; cases atI l i <;> rfl
theorem len_f {l S R} : lenV [.frz l] S R = R (.int l.length) S := rfl
theorem tuple_f {l S R} : tupleV [.frz l] S R = R (.tup l) S := rfl
theorem bind_tpf {ps l S ρ k} : bindP (.tp ps) (.frz l) S ρ k = Mv.bindL ps l S ρ k := by unfold bindP; rfl
def kLstV (R : MK) : KA := fun l S1 => l.length ≤ sizeLine ∧ R (.frz l) S1
theorem lstV_ap {ms ρ S R} : mLstV ms ρ S R = ms ρ S (kLstV R) := rfl
theorem kLstV_ap {R l S} (h : l.length ≤ 100) : kLstV R l S = R (.frz l) S := by
  have : l.length ≤ sizeLine := Nat.le_trans h (by decide)
  unfold kLstV
  exact propext ⟨fun q => q.2, fun q => ⟨this, q⟩⟩
theorem listVV_t {l S R} : listVV [.tup l] S R = R (.frz l) S := rfl
theorem listVV_f {l S R} : listVV [.frz l] S R = R (.frz l) S := rfl
def kListV (o : Option (List MV)) (R : MK) (S : Sto) : Prop := match o with
  | some l => R (.frz l) S
  | none => False
theorem listVV_r {a S R} : listVV [.ref a] S R = kListV (lookL S a) R S := rfl
theorem kListV_some {l R S} : kListV (some l) R S = R (.frz l) S := rfl
theorem addVV_ii {i j S R} : addVV (.int i) (.int j) S R = R (.int (i + j)) S := rfl
theorem addVV_tt {l k S R} (h : l.length + k.length ≤ 1000000) : addVV (.tup l) (.tup k) S R = R (.tup (l ++ k)) S := by
  have : l.length + k.length ≤ sizeLine := Nat.le_trans h (by decide)
  show (_ ∧ _) = _
  exact propext ⟨fun q => q.2, fun q => ⟨this, q⟩⟩
theorem addVV_ff {l k S R} (h : l.length + k.length ≤ 1000000) : addVV (.frz l) (.frz k) S R = R (.frz (l ++ k)) S := by
  have : l.length + k.length ≤ sizeLine := Nat.le_trans h (by decide)
  show (_ ∧ _) = _
  exact propext ⟨fun q => q.2, fun q => ⟨this, q⟩⟩
def kSlV1 (lo hi : mPart) (ρ : Mv.Env) (R : MK) : MK := fun x S1 => lo ρ S1 fun l S2 => hi ρ S2 fun u S3 => slVV x l u S3 R
def kSlV2 (x : MV) (hi : mPart) (ρ : Mv.Env) (R : MK) : Option Int → Sto → Prop := fun l S2 => hi ρ S2 fun u S3 => slVV x l u S3 R
def kSlV3 (x : MV) (l : Option Int) (R : MK) : Option Int → Sto → Prop := fun u S3 => slVV x l u S3 R
theorem slV_ap {m lo hi ρ S R} : mSlV m lo hi ρ S R = m ρ S (kSlV1 lo hi ρ R) := rfl
theorem kSlV1_ap {lo hi ρ R x S} : kSlV1 lo hi ρ R x S = lo ρ S (kSlV2 x hi ρ R) := rfl
theorem kSlV2_ap {x hi ρ R l S} : kSlV2 x hi ρ R l S = hi ρ S (kSlV3 x l R) := rfl
theorem kSlV3_ap {x l R u S} : kSlV3 x l R u S = slVV x l u S R := rfl
theorem slVV_t {l lo hi S R} : slVV (.tup l) lo hi S R = R (.tup (cutM l lo hi)) S := rfl
theorem slVV_f {l lo hi S R} : slVV (.frz l) lo hi S R = R (.frz (cutM l lo hi)) S := rfl
def kCut (o : Option (List MV)) (lo hi : Option Int) (R : MK) (S : Sto) : Prop := match o with
  | some l => R (.frz (cutM l lo hi)) S
  | none => False
theorem slVV_r {a lo hi S R} : slVV (.ref a) lo hi S R = kCut (lookL S a) lo hi R S := rfl
theorem kCut_some {l lo hi R S} : kCut (some l) lo hi R S = R (.frz (cutM l lo hi)) S := rfl
def kRvV (R : MK) : MK := fun x S1 => revVV x S1 R
theorem revV_ap {m ρ S R} : mRevV m ρ S R = m ρ S (kRvV R) := rfl
theorem kRvV_ap {x R S} : kRvV R x S = revVV x S R := rfl
theorem revVV_f {l S R} : revVV (.frz l) S R = R (.frz l.reverse) S := rfl
def kRvVO (o : Option (List MV)) (R : MK) (S : Sto) : Prop := match o with
  | some l => R (.frz l.reverse) S
  | none => False
theorem revVV_r {a S R} : revVV (.ref a) S R = kRvVO (lookL S a) R S := rfl
theorem kRvVO_some {l R S} : kRvVO (some l) R S = R (.frz l.reverse) S := rfl
def kVal (R : MK) : KA := fun l S => R (.frz l) S
theorem kVal_ap {R l S} : kVal R l S = R (.frz l) S := rfl
def kLcV (pt : Pat) (tt : MT) (te : ME) (ρ : Mv.Env) (R : MK) : Items → Sto → Prop := fun I S => lcL I.keep pt tt te ρ (kVal R) I.vs [] S
theorem lcV_ap {mi pt tt te vs ρ S R} : mLcV mi pt tt te vs ρ S R = mi ρ S (kLcV pt tt te (wipeM ρ vs) R) := rfl
theorem kLcV_ap {pt tt te ρ R vs k S} : kLcV pt tt te ρ R ⟨vs, k⟩ S = lcL k pt tt te ρ (kVal R) vs [] S := rfl
theorem fz_ap {m ρ S R} : mFz m ρ S R = m ρ S (fzK R) := rfl
def kFzO (o : Option MO) (a : Addr) (R : MK) (S : Sto) : Prop := match o with
  | some (.lst l) => R (.frz l) (sdel S a)
  | _ => False
theorem fzK_r {a R S} : fzK R (.ref a) S = kFzO (S a) a R S := by
  unfold fzK kFzO
  rfl
theorem kFzO_l {l a R S} : kFzO (some (.lst l)) a R S = R (.frz l) (sdel S a) := rfl
theorem fzK_t {l R S} : fzK R (.tup l) S = R (.tup l) S := rfl
theorem fzK_i {l R S} : fzK R (.int l) S = R (.int l) S := rfl
theorem fzK_n {R S} : fzK R .non S = R .non S := rfl
theorem fzK_f {l R S} : fzK R (.frz l) S = R (.frz l) S := rfl
/-! dropping -/
theorem drop_refl {R : MK} {v : MV} {S : Sto} (h : R v S) : dropK R v S := ⟨S, fun _ _ e => e, h⟩
theorem drop_at {R : MK} {v : MV} {S S2 : Sto} (l : ∀ a o, S2 a = some o → S a = some o) (h : R v S2) : dropK R v S := ⟨S2, l, h⟩
theorem le_supd {S : Sto} {p : Addr} {o : MO} (h : S p = none) : ∀ a u, S a = some u → supd S p o a = some u := fun a u e => by
  rw [sd_ne (fun z => by subst z; rw [h] at e; cases e)]; exact e
theorem le_trans {S S1 S2 : Sto} (h : ∀ a (o : MO), S a = some o → S1 a = some o) (h2 : ∀ a o, S1 a = some o → S2 a = some o) : ∀ a o, S a = some o → S2 a = some o := fun a o e => h2 a o (h a o e)
/-! the walks of enumerate and zip, the look of numbers -/
def kEnum (R : Items → Sto → Prop) : KA := fun vs S1 => match vs with
  | [x] => (match seqI S1 x with
    | some (l, kp) => R ⟨enumM 0 l, kp⟩ S1
    | none => False)
  | _ => False
def kEnumO (o : Option (List MV × List (Addr × List MV))) (R : Items → Sto → Prop) (S : Sto) : Prop := match o with
  | some (l, kp) => R ⟨enumM 0 l, kp⟩ S
  | none => False
theorem enum_ap {ms ρ S R} : mEnum ms ρ S R = ms ρ S (kEnum R) := rfl
theorem kEnum_ap {R x S} : kEnum R [x] S = kEnumO (seqI S x) R S := rfl
theorem kEnumO_some {l kp R S} : kEnumO (some (l, kp)) R S = R ⟨enumM 0 l, kp⟩ S := rfl
theorem seqI_t {S l} : seqI S (.tup l) = some (l, []) := rfl
theorem seqI_f {S l} : seqI S (.frz l) = some (l, []) := rfl
def kSeqI (a : Addr) (o : Option (List MV)) : Option (List MV × List (Addr × List MV)) := o.map fun l => (l, [(a, l)])
theorem seqI_r {S a} : seqI S (.ref a) = kSeqI a (lookL S a) := rfl
theorem kSeqI_some {a l} : kSeqI a (some l) = some (l, [(a, l)]) := rfl
def kZip (R : Items → Sto → Prop) : KA := fun vs S1 => match vs with
  | [x, y] => (match seqI S1 x, seqI S1 y with
    | some (l, k1), some (m, k2) => R ⟨zipM l m, k1 ++ k2⟩ S1
    | _, _ => False)
  | _ => False
def kZipO (o u : Option (List MV × List (Addr × List MV))) (R : Items → Sto → Prop) (S : Sto) : Prop := match o, u with
  | some (l, k1), some (m, k2) => R ⟨zipM l m, k1 ++ k2⟩ S
  | _, _ => False
theorem zip_ap {ms ρ S R} : mZip ms ρ S R = ms ρ S (kZip R) := rfl
theorem kZip_ap {R x y S} : kZip R [x, y] S = kZipO (seqI S x) (seqI S y) R S := rfl
theorem kZipO_some {l k1 m k2 R S} : kZipO (some (l, k1)) (some (m, k2)) R S = R ⟨zipM l m, k1 ++ k2⟩ S := rfl
def kAllN (i1 i2 : Nat) (ρ : Mv.Env) (R : MK) : MK := fun x S1 => match seqI S1 x, ρ[i1]?, ρ[i2]? with
  | some (l, _), some (some (.int a)), some (some (.int b)) => (∀ v ∈ l, An.NumV v) ∧ R (.bl (l.all fun v => An.numB v a b)) S1
  | _, _, _ => False
def kAllNO (o : Option (List MV × List (Addr × List MV))) (o1 o2 : Option (Option MV)) (R : MK) (S : Sto) : Prop := match o, o1, o2 with
  | some (l, _), some (some (.int a)), some (some (.int b)) => (∀ v ∈ l, An.NumV v) ∧ R (.bl (l.all fun v => An.numB v a b)) S
  | _, _, _ => False
theorem allN_ap {i1 i2 m ρ S R} : mAllN i1 i2 m ρ S R = m ρ S (kAllN i1 i2 ρ R) := rfl
theorem kAllN_ap {i1 i2 ρ R x S} : kAllN i1 i2 ρ R x S = kAllNO (seqI S x) ρ[i1]? ρ[i2]? R S := rfl
theorem kAllNO_some {l kp a b R S} : kAllNO (some (l, kp)) (some (some (.int a))) (some (some (.int b))) R S = ((∀ v ∈ l, An.NumV v) ∧ R (.bl (l.all fun v => An.numB v a b)) S) := rfl
/-! attributes are set, things are made -/
def kFldS1 (T : String → String → Bool) (mo : ME) (f : String) (ρ : Mv.Env) (k : Mv.Env → Sto → Prop) : MK := fun v S1 => mo ρ S1 fun o S2 => fldPut T f o v S2 fun S3 => k ρ S3
def kFldS2 (T : String → String → Bool) (f : String) (v : MV) (ρ : Mv.Env) (k : Mv.Env → Sto → Prop) : MK := fun o S2 => fldPut T f o v S2 fun S3 => k ρ S3
theorem fldS_ap {T mo f mv D ρ S} : msFld T mo f mv D ρ S = mv ρ S (kFldS1 T mo f ρ D.nx) := rfl
theorem kFldS1_ap {T mo f ρ k v S} : kFldS1 T mo f ρ k v S = mo ρ S (kFldS2 T f v ρ k) := rfl
theorem kFldS2_ap {T f v ρ k o S} : kFldS2 T f v ρ k o S = fldPut T f o v S (k ρ) := rfl
def kFldO2 (u : Option MO) (T : String → String → Bool) (f : String) (a : Addr) (v : MV) (S : Sto) (k : Sto → Prop) : Prop := match u with
  | some (.ins c fs) => T c f = true ∧ fs.length < 1000 ∧ k (supd S a (.ins c (putFM f v fs)))
  | _ => False
theorem fldPut_r {T f a v S k} : fldPut T f (.ref a) v S k = kFldO2 (S a) T f a v S k := by
  unfold fldPut kFldO2
  rfl
theorem kFldO2_i {c fs T f a v S k} (h : fs.length < 1000) : kFldO2 (some (.ins c fs)) T f a v S k = (T c f = true ∧ k (supd S a (.ins c (putFM f v fs)))) := by
  show (_ ∧ _ ∧ _) = _
  exact propext ⟨fun q => ⟨q.1, q.2.2⟩, fun q => ⟨q.1, h, q.2⟩⟩
def kMkK (c : String) (n : Nat) (W : MW) (gM : MV → List MV → List MV) (R : MK) : KA := fun zs S1 => zs.length = n ∧ ∀ p, S1 p = none → W (gM (.ref p) zs) (supd S1 p (.ins c [])) fun v S2 => v = .non ∧ R (.ref p) S2
theorem makeK_ap {c n W gM ms ρ S R} : mMakeK c n W gM ms ρ S R = ms ρ S (kMkK c n W gM R) := rfl
def kNonR (p : Addr) (R : MK) : MK := fun v S2 => v = .non ∧ R (.ref p) S2
theorem kNonR_ap {p R S} : kNonR p R .non S = R (.ref p) S := by
  show (_ ∧ _) = _
  exact propext ⟨fun q => q.2, fun q => ⟨rfl, q⟩⟩
theorem kMkK_ap {c n W gM R zs S} (h : zs.length = n) : kMkK c n W gM R zs S = ∀ p, S p = none → W (gM (.ref p) zs) (supd S p (.ins c [])) (kNonR p R) := by
  unfold kMkK
  exact propext ⟨fun q => q.2, fun q => ⟨h, q⟩⟩
theorem kMk_ap {c W R vs S} : kMk c W R vs S = ∀ p, S p = none → W (.ref p :: vs) (supd S p (.ins c [])) (kNonR p R) := rfl
theorem put_0 {f v} : putFM f v [] = [(f, v)] := rfl
theorem put_S {f g x v r} : putFM f v ((g, x) :: r) = if g = f then (g, v) :: r else (g, x) :: putFM f v r := rfl
/-! in -/
theorem in_t {x l S R} (h : (flatM x && l.all flatM) = true) : inM x (.tup l) S R = R (.bl (inB x l)) S := by
  show (_ ∧ _) = _
  exact propext ⟨fun q => q.2, fun q => ⟨h, q⟩⟩
theorem in_f {x l S R} (h : (fit x 60 && fits l 59) = true) : inM x (.frz l) S R = R (.bl (inB x l)) S := by
  show (_ ∧ _) = _
  exact propext ⟨fun q => q.2, fun q => ⟨h, q⟩⟩
theorem notin_t {x l S R} (h : (flatM x && l.all flatM) = true) : notInM x (.tup l) S R = R (.bl (!inB x l)) S := by
  show (_ ∧ _) = _
  exact propext ⟨fun q => q.2, fun q => ⟨h, q⟩⟩
theorem notin_f {x l S R} (h : (fit x 60 && fits l 59) = true) : notInM x (.frz l) S R = R (.bl (!inB x l)) S := by
  show (_ ∧ _) = _
  exact propext ⟨fun q => q.2, fun q => ⟨h, q⟩⟩
/-! loops: the slots J are the loop's own -/
def sets (ρ : Mv.Env) : List Nat → List (Option MV) → Mv.Env
  | j :: J, x :: xs => sets (ρ.set j x) J xs
  | _, _ => ρ
theorem sets_nil {ρ : Mv.Env} {xs : List (Option MV)} : sets ρ [] xs = ρ := by cases xs <;> rfl
theorem sets_cons {ρ : Mv.Env} {j J x xs} : sets ρ (j :: J) (x :: xs) = sets (ρ.set j x) J xs := rfl
theorem for_J {k : List (Addr × List MV)} {pt : Pat} {body : MS} {D : MD} {ρ0 : Mv.Env} (J : List Nat) (I : Nat → List (Option MV) → Sto → Prop) {vs : List MV} (hk : ∀ i xs S, I i xs S → keepOk k S)
    (step : ∀ i v xs S (D' : MD), vs[i]? = some v → I i xs S → (∀ xs' S', I (i + 1) xs' S' → D'.nx (sets ρ0 J xs') S') → (∀ xs' S', I (i + 1) xs' S' → D'.ct (sets ρ0 J xs') S') → D'.rt = D.rt → D'.bk = D.nx → bindP pt v S (sets ρ0 J xs) fun ρ' => body D' ρ' S)
    (done : ∀ xs S, I vs.length xs S → D.nx (sets ρ0 J xs) S) {S : Sto} (xs : List (Option MV)) (e0 : sets ρ0 J xs = ρ0) (h0 : I 0 xs S) : forL k pt body D vs ρ0 S := by
  have key : forL k pt body D vs (sets ρ0 J xs) S := by
    refine for_rule (I := fun i ρ S => ∃ xs, ρ = sets ρ0 J xs ∧ I i xs S) (fun i ρ S ⟨xs, _, h⟩ => hk i xs S h) ?_ ?_ ⟨xs, rfl, h0⟩
    · rintro i v ρ S D' hv ⟨xs, rfl, h⟩ h1 h2 h3 h4
      exact step i v xs S D' hv h (fun xs' S' h' => h1 _ _ ⟨xs', rfl, h'⟩) (fun xs' S' h' => h2 _ _ ⟨xs', rfl, h'⟩) h3 h4
    · rintro ρ S ⟨xs, rfl, h⟩
      exact done xs S h
  rw [e0] at key
  exact key
/-- a comprehension of what is told without a change -/
theorem lc_map {α : Type} {pt : Pat} {te : ME} {ρ : Mv.Env} {Q : List MV → Sto → Prop} {S : Sto} {k : List (Addr × List MV)} (l : List α) (e g : α → MV) (hk : keepOk k S) (hn : l.length < 1000000)
    (h : ∀ x ∈ l, ∀ R : MK, R (g x) S → bindP pt (e x) S ρ fun ρ' => te ρ' S R) (hQ : Q (l.map g) S) : lcL k pt mYes te ρ Q (l.map e) [] S := by
  have hs : (1000000 : Nat) ≤ sizeLine := by decide
  refine lc_rule (I := fun i acc S' => S' = S ∧ acc = (l.take i).map g) (fun i acc S' h => by rw [h.1]; exact hk) (by simp; omega) ?_ ?_ ?_ ⟨rfl, rfl⟩
  · rintro i acc S' ⟨rfl, rfl⟩
    simp
    omega
  · rintro i v acc S' hv ⟨rfl, rfl⟩ R N hR _
    rw [List.getElem?_map] at hv
    cases ei : l[i]? with
    | none => rw [ei] at hv; cases hv
    | some x =>
      rw [ei] at hv
      cases hv
      refine bindP_imp _ _ _ _ (fun ρ' h => ?_) (h x (List.mem_of_getElem? ei) R (hR _ _ ⟨rfl, ?_⟩))
      · exact h
      · rw [List.take_succ, ei]
        simp
  · rintro acc S' ⟨rfl, rfl⟩
    rw [List.length_map, List.take_length]
    exact hQ
/-- a comprehension with a test -/
theorem lc_filter {α : Type} {pt : Pat} {tt : MT} {te : ME} {ρ : Mv.Env} {Q : List MV → Sto → Prop} {S : Sto} {k : List (Addr × List MV)} (l : List α) (e g : α → MV) (p : α → Bool) (hk : keepOk k S) (hn : l.length < 1000000)
    (h : ∀ x ∈ l, ∀ (R : MK) (N : Sto → Prop), (p x = true → R (g x) S) → (p x = false → N S) → bindP pt (e x) S ρ fun ρ' => tt ρ' S fun b S1 => match b with
      | true => te ρ' S1 R
      | false => N S1) (hQ : Q ((l.filter p).map g) S) : lcL k pt tt te ρ Q (l.map e) [] S := by
  have hs : (1000000 : Nat) ≤ sizeLine := by decide
  refine lc_rule (I := fun i acc S' => S' = S ∧ acc = ((l.take i).filter p).map g) (fun i acc S' h => by rw [h.1]; exact hk) (by simp; omega) ?_ ?_ ?_ ⟨rfl, rfl⟩
  · rintro i acc S' ⟨rfl, rfl⟩
    have := List.length_filter_le p (l.take i)
    simp at this ⊢
    omega
  · rintro i v acc S' hv ⟨rfl, rfl⟩ R N hR hN
    rw [List.getElem?_map] at hv
    cases ei : l[i]? with
    | none => rw [ei] at hv; cases hv
    | some x =>
      rw [ei] at hv
      cases hv
      refine h x (List.mem_of_getElem? ei) R N (fun hp => hR _ _ ⟨rfl, ?_⟩) (fun hp => hN _ ⟨rfl, ?_⟩)
      · rw [List.take_succ, ei]
        simp [hp]
      · rw [List.take_succ, ei]
        simp [hp]
  · rintro acc S' ⟨rfl, rfl⟩
    rw [List.length_map, List.take_length]
    exact hQ

def kPutD (o : Option MO) (a : Addr) (s : String) (v : MV) (S : Sto) (k : Sto → Prop) : Prop := match o with
  | some (.dct kvs) => kvs.length < sizeLine ∧ k (supd S a (.dct (putD kvs s v)))
  | _ => False
theorem put_s {a s v S k} : subPut (.ref a) (.str s) v S k = kPutD (S a) a s v S k := by
  unfold subPut kPutD
  dsimp only
  cases S a with
  | none => rfl
  | some o => cases o <;> rfl
theorem kPutD_d {kvs a s v S k} (h : kvs.length < 1000000) : kPutD (some (.dct kvs)) a s v S k = k (supd S a (.dct (putD kvs s v))) := by
  have : kvs.length < sizeLine := Nat.lt_of_lt_of_le h (by decide)
  show (_ ∧ _) = _
  exact propext ⟨fun q => q.2, fun q => ⟨this, q⟩⟩
theorem at_lastA {l : List MV} {x : MV} : atI (l ++ [x]) (-1) = some x := by
  unfold atI ixN
  rw [List.length_append, if_neg (by omega), if_pos (by simp; omega)]
  have e : (-1 + ((l.length + [x].length : Nat) : Int)).toNat = l.length := by simp; omega
  simp only [Option.bind_some, e]
  simp
theorem rng_eq {n : Nat} : rngM 0 n = (List.range n).map fun k : Nat => MV.int (k : Int) := by simp [rngM]
/-- a join: what holds between two statements -/
theorem seq_join {a b : MS} {D : MD} {ρ : Mv.Env} {S : Sto} (P : Mv.Env → Sto → Prop) (h1 : ∀ nx : Mv.Env → Sto → Prop, (∀ ρ' S', P ρ' S' → nx ρ' S') → a ⟨nx, D.rt, D.bk, D.ct⟩ ρ S) (h2 : ∀ ρ' S', P ρ' S' → b D ρ' S') : msSeq a b D ρ S := h1 (b D) h2
theorem supd_comm {p r : Addr} (h : p ≠ r) {S : Sto} {o o' : MO} : supd (supd S r o) p o' = supd (supd S p o') r o := by
  funext b
  unfold supd
  by_cases h1 : b = p
  · subst h1
    simp [h]
  · simp [h1]
theorem inB_nil {x : MV} : inB x [] = false := rfl
theorem inB_cons {x y : MV} {l : List MV} : inB x (y :: l) = (PyData.eqv (pd y) (pd x) || inB x l) := rfl
theorem pd_str {s} : pd (.str s) = .str (so s) := by unfold pd; rfl
theorem pd_int {i} : pd (.int i) = .int i := by unfold pd; rfl
theorem pd_non : pd .non = .none := by unfold pd; rfl
theorem in_str2 {s x y S R} (h : PyData.strOk (so s) = true) (hx : PyData.strOk (so x) = true) (hy : PyData.strOk (so y) = true) : inM (.str s) (.tup [.str x, .str y]) S R = R (.bl (decide (x = s) || decide (y = s))) S := by
  rw [in_t (by simp [flatM, h, hx, hy]), inB_cons, inB_cons, inB_nil, pd_str, pd_str, pd_str, eqv_ss, eqv_ss, Bool.or_false]
theorem in_str3 {s x y z S R} (h : PyData.strOk (so s) = true) (hx : PyData.strOk (so x) = true) (hy : PyData.strOk (so y) = true) (hz : PyData.strOk (so z) = true) : inM (.str s) (.tup [.str x, .str y, .str z]) S R = R (.bl (decide (x = s) || (decide (y = s) || decide (z = s)))) S := by
  rw [in_t (by simp [flatM, h, hx, hy, hz]), inB_cons, inB_cons, inB_cons, inB_nil, pd_str, pd_str, pd_str, pd_str, eqv_ss, eqv_ss, eqv_ss, Bool.or_false]
theorem notin_str2 {s x y S R} (h : PyData.strOk (so s) = true) (hx : PyData.strOk (so x) = true) (hy : PyData.strOk (so y) = true) : notInM (.str s) (.tup [.str x, .str y]) S R = R (.bl (!(decide (x = s) || decide (y = s)))) S := by
  rw [notin_t (by simp [flatM, h, hx, hy]), inB_cons, inB_cons, inB_nil, pd_str, pd_str, pd_str, eqv_ss, eqv_ss, Bool.or_false]
theorem c_0 : ((0 : Nat) : Int) = 0 := rfl
theorem c_1 : ((1 : Nat) : Int) = 1 := rfl
theorem c_2 : ((2 : Nat) : Int) = 2 := rfl
theorem c_3 : ((3 : Nat) : Int) = 3 := rfl
theorem c_4 : ((4 : Nat) : Int) = 4 := rfl
theorem c_5 : ((5 : Nat) : Int) = 5 := rfl
theorem c_6 : ((6 : Nat) : Int) = 6 := rfl
theorem c_7 : ((7 : Nat) : Int) = 7 := rfl
theorem c_8 : ((8 : Nat) : Int) = 8 := rfl
theorem c_9 : ((9 : Nat) : Int) = 9 := rfl
theorem c_10 : ((10 : Nat) : Int) = 10 := rfl
/-! while -/
def kWh (body : MS) (D' D : MD) (ρ : Mv.Env) : KB := fun b S1 => match b with
  | true => body D' ρ S1
  | false => D.nx ρ S1
theorem kWh_t {body D' D ρ S} : kWh body D' D ρ true S = body D' ρ S := rfl
theorem kWh_f {body D' D ρ S} : kWh body D' D ρ false S = D.nx ρ S := rfl
theorem while_J {c : MT} {body : MS} {D : MD} {ρ0 : Mv.Env} (J : List Nat) (I : Nat → List (Option MV) → Sto → Prop)
    (step : ∀ k xs S (D' : MD), I k xs S → (∀ k' xs' S', k = k' + 1 → I k' xs' S' → D'.nx (sets ρ0 J xs') S') → (∀ k' xs' S', k = k' + 1 → I k' xs' S' → D'.ct (sets ρ0 J xs') S') → D'.rt = D.rt → D'.bk = D.nx → c (sets ρ0 J xs) S (kWh body D' D (sets ρ0 J xs)))
    {S : Sto} (k : Nat) (xs : List (Option MV)) (e0 : sets ρ0 J xs = ρ0) (h0 : I k xs S) : msWhile c body D ρ0 S := by
  have key : ∀ k xs S, I k xs S → whileN c body D (k + 1) (sets ρ0 J xs) S := by
    intro k
    induction k with
    | zero =>
      intro xs S h
      unfold whileN
      have q := step 0 xs S ⟨whileN c body D 0, D.rt, D.nx, whileN c body D 0⟩ h (fun k' xs' S' e _ => by omega) (fun k' xs' S' e _ => by omega) rfl rfl
      exact q
    | succ k ih =>
      intro xs S h
      unfold whileN
      have g : ∀ k' xs' S', k + 1 = k' + 1 → I k' xs' S' → whileN c body D (k + 1) (sets ρ0 J xs') S' := fun k' xs' S' e h' => by
        have : k' = k := by omega
        subst this
        exact ih xs' S' h'
      have q := step (k + 1) xs S ⟨whileN c body D (k + 1), D.rt, D.nx, whileN c body D (k + 1)⟩ h g g rfl rfl
      exact q
  have := key k xs S h0
  rw [e0] at this
  exact ⟨_, this⟩
theorem at_neg1 {x : MV} : atI [x] (-1) = some x := rfl
theorem at_neg2 {x y : MV} : atI [x, y] (-1) = some y := rfl
theorem at_neg3 {x y z : MV} : atI [x, y, z] (-1) = some z := rfl
/-! data alike -/
theorem dat_fit {S : Sto} {x : MV} (h : fit x 60 = true) : dat S x = some (pd x) := by
  cases x with
  | non => unfold pd; rfl
  | bl b => unfold pd; rfl
  | int i => unfold pd; rfl
  | str s =>
    unfold fit at h
    unfold pd
    exact dat_str h
  | tup l =>
    unfold fit at h
    unfold pd
    exact dat_tup h
  | frz l =>
    unfold fit at h
    unfold pd
    exact dat_frz h
  | ref a => unfold fit at h; cases h
theorem eqv_same {x : MV} (h : fit x 60 = true) : PyData.eqv (pd x) (pd x) = true := PySem.SeqAt.eqv_refl _ (fit_lay x 60 h).1
theorem ne_same {x : MV} {S : Sto} {R : MK} (h : fit x 60 = true) : neV' x x S R = R (.bl false) S := by
  rw [ne_ap, dat_fit h, kEq_some, eqv_same h]
  rfl
theorem eq_same {x : MV} {S : Sto} {R : MK} (h : fit x 60 = true) : eqV' x x S R = R (.bl true) S := by
  rw [eq_ap, dat_fit h, kEq_some, eqv_same h]
  rfl
theorem fits_cons {x : MV} {l : List MV} {n : Nat} : fits (x :: l) n = (fit x n && fits l n) := by conv => lhs; unfold fits
theorem fits_nil {n : Nat} : fits [] n = true := by unfold fits; rfl
theorem fit_tup {l : List MV} {n : Nat} : fit (.tup l) (n + 1) = fits l n := by conv => lhs; unfold fit
theorem fit_frz {l : List MV} {n : Nat} : fit (.frz l) (n + 1) = fits l n := by conv => lhs; unfold fit
theorem fit_int {i : Int} {n : Nat} : fit (.int i) n = true := by unfold fit; rfl
theorem fit_str {s : String} {n : Nat} : fit (.str s) n = PyData.strOk (so s) := by unfold fit; rfl
theorem fit_non {n : Nat} : fit .non n = true := by unfold fit; rfl
theorem fit_bl {b : Bool} {n : Nat} : fit (.bl b) n = true := by unfold fit; rfl
theorem fits_map {α : Type} {f : α → MV} {n : Nat} (h : ∀ x, fit (f x) n = true) : ∀ l : List α, fits (l.map f) n = true
  | [] => fits_nil
  | x :: l => by rw [List.map_cons, fits_cons, h x, fits_map h l]; rfl
/-! slices -/
theorem cut_to {l : List MV} {k : Nat} : cutM l none (some (k : Int)) = l.take k := by
  unfold cutM
  rw [HT.sIx_none, HT.sIx_nat, List.drop_zero, Nat.sub_zero]
  by_cases h : k ≤ l.length
  · rw [Nat.min_eq_left h]
  · rw [Nat.min_eq_right (by omega), List.take_length, List.take_of_length_le (by omega)]
theorem cut_from {l : List MV} {k : Nat} : cutM l (some (k : Int)) none = l.drop k := by
  unfold cutM
  rw [HT.sIx_none, HT.sIx_nat]
  by_cases h : k ≤ l.length
  · rw [Nat.min_eq_left h, List.take_of_length_le (by rw [List.length_drop]; omega)]
  · rw [Nat.min_eq_right (by omega), List.drop_length, List.drop_of_length_le (by omega), List.take_nil]
theorem cut_ft {l : List MV} {k m : Nat} : cutM l (some (k : Int)) (some (m : Int)) = (l.drop k).take (m - k) := by
  unfold cutM
  rw [HT.sIx_nat, HT.sIx_nat]
  apply List.ext_getElem?
  intro i
  simp only [List.getElem?_take, List.getElem?_drop]
  by_cases h : i < m - k
  · rw [if_pos h]
    by_cases h2 : k + i < l.length
    · rw [if_pos (by omega), show min k l.length + i = k + i by omega]
    · rw [List.getElem?_eq_none (i := k + i) (by omega)]
      split
      · rw [List.getElem?_eq_none (by omega)]
      · rfl
  · rw [if_neg h]
    split
    · omega
    · rfl
theorem cut_to1 {l : List MV} : cutM l none (some 1) = l.take 1 := cut_to (k := 1)
theorem cut_to2 {l : List MV} : cutM l none (some 2) = l.take 2 := cut_to (k := 2)
theorem cut_to3 {l : List MV} : cutM l none (some 3) = l.take 3 := cut_to (k := 3)
theorem cut_to4 {l : List MV} : cutM l none (some 4) = l.take 4 := cut_to (k := 4)
theorem cut_from1 {l : List MV} : cutM l (some 1) none = l.drop 1 := cut_from (k := 1)
theorem cut_from2 {l : List MV} : cutM l (some 2) none = l.drop 2 := cut_from (k := 2)
theorem cut_from5 {l : List MV} : cutM l (some 5) none = l.drop 5 := cut_from (k := 5)
theorem l_take0 {α : Type} {l : List α} : l.take 0 = [] := rfl
theorem l_takeS {α : Type} {a : α} {l : List α} {n : Nat} : (a :: l).take (n + 1) = a :: l.take n := rfl
theorem l_takeN {α : Type} {n : Nat} : ([] : List α).take n = [] := by cases n <;> rfl
theorem l_drop0 {α : Type} {l : List α} : l.drop 0 = l := rfl
theorem l_dropS {α : Type} {a : α} {l : List α} {n : Nat} : (a :: l).drop (n + 1) = l.drop n := rfl
theorem l_dropN {α : Type} {n : Nat} : ([] : List α).drop n = [] := by cases n <;> rfl
def kRvT (R : MK) : MK := fun x S1 => revT x S1 R
theorem revT_ap {m ρ S R} : mRevT m ρ S R = m ρ S (kRvT R) := rfl
theorem kRvT_ap {x R S} : kRvT R x S = revT x S R := rfl
theorem revT_t {l S R} : revT (.tup l) S R = R (.tup l.reverse) S := rfl
theorem revT_f {l S R} : revT (.frz l) S R = R (.frz l.reverse) S := rfl
theorem revT_r {a S R} : revT (.ref a) S R = kRvVO (lookL S a) R S := rfl
def kRvA (R : MK) : MK := fun x S1 => revA x S1 R
theorem revA_ap {m ρ S R} : mRevA m ρ S R = m ρ S (kRvA R) := rfl
theorem kRvA_ap {x R S} : kRvA R x S = revA x S R := rfl
theorem revA_t {l S R} : revA (.tup l) S R = R (.tup l.reverse) S := rfl
theorem revA_f {l S R} : revA (.frz l) S R = newL l.reverse S R := rfl
theorem revA_r {a S R} : revA (.ref a) S R = kRvO (lookL S a) R S := rfl
theorem max2_ii {i j S R} : max2V [.int i, .int j] S R = R (.int (if j > i then j else i)) S := rfl
theorem min2_ii {i j S R} : min2V [.int i, .int j] S R = R (.int (if j < i then j else i)) S := rfl
theorem cut_fromS {l : List MV} {k : Nat} : cutM l (some ((k : Int) + 1)) none = l.drop (k + 1) := cut_from (k := k + 1)
end Pf

set_option Elab.async false
set_option linter.all false
set_option maxRecDepth 100000
set_option maxHeartbeats 300000
namespace Rw
open PySem PySem.Spec PyProof.Rows L2 Mv
def atL : List (String × List String) := [("Scope", ["fields", "questions", "service", "switches"]), ("Program", ["asks", "clients", "crashes", "doubles", "losses", "questions", "releases", "services", "switches"])]
def atT : String → String → Bool := atOf atL
theorem t_Scope_fields : atT "Scope" "fields" = true := by decide +kernel
theorem t_Scope_questions : atT "Scope" "questions" = true := by decide +kernel
theorem t_Scope_service : atT "Scope" "service" = true := by decide +kernel
theorem t_Scope_switches : atT "Scope" "switches" = true := by decide +kernel
theorem t_Program_asks : atT "Program" "asks" = true := by decide +kernel
theorem t_Program_clients : atT "Program" "clients" = true := by decide +kernel
theorem t_Program_crashes : atT "Program" "crashes" = true := by decide +kernel
theorem t_Program_doubles : atT "Program" "doubles" = true := by decide +kernel
theorem t_Program_losses : atT "Program" "losses" = true := by decide +kernel
theorem t_Program_questions : atT "Program" "questions" = true := by decide +kernel
theorem t_Program_releases : atT "Program" "releases" = true := by decide +kernel
theorem t_Program_services : atT "Program" "services" = true := by decide +kernel
theorem t_Program_switches : atT "Program" "switches" = true := by decide +kernel
def sel_0 : List (Bool × Nat) := [(true, 1), (true, 2), (true, 3), (true, 0), (true, 4), (true, 5), (true, 6), (true, 7), (true, 8)]
def dM_0 : List MV := []
def gM_0 : MV → List MV → List MV := fun p zs => p :: selL sel_0 dM_0 zs
def sel_1 : List (Bool × Nat) := [(true, 0), (true, 1), (true, 2), (false, 0), (false, 1), (false, 2), (false, 3), (false, 4), (false, 5)]
def dM_1 : List MV := [.int 0, .int 1, .int 1, .int 0, .int 0, .int 0]
def gM_1 : MV → List MV → List MV := fun p zs => p :: selL sel_1 dM_1 zs
def gl_SIGNS : List MV := [.str "==", .str "!=", .str "<"]
def gt_SIGNS : ME := mC (.tup gl_SIGNS)
def B_is_number : MS := (msRet (mAndV (mIsi "int" (mVar 0)) (mAndV (mNotV (mIsi "bool" (mVar 0))) (mChain leV leV (mVar 1) (mVar 0) (mVar 2)))))
def W_is_number : MW := defW 3 3 B_is_number
def B_are_numbers : MS := (msRet (mAllN 1 2 (mVar 0)))
def W_are_numbers : MW := defW 3 3 B_are_numbers
def B_questions_fit : MS := (msSeq (msIf (mNot (mTst (mChain leV leV (mC (.int 1)) (mCB lenV (maCons (mVar 0) maNil)) (mC (.int 3))))) (msRet (mC (.bl false))) msNil)
  (msSeq (msFor (mIter (mVar 0)) (.tp [(.nm 2), (.nm 3), (.nm 4)]) (msIf (mOr (mNot (mTru (mCall W_is_number (maCons (mVar 2) (maCons (mC (.int 0)) (maCons (mOp subV (mCB lenV (maCons (mVar 1) maNil)) (mC (.int 1))) maNil)))))) (mNot (mTru (mCall W_are_numbers (maCons (mTup (maCons (mVar 3) (maCons (mVar 4) maNil))) (maCons (mC (.int 1)) (maCons (mC (.int 4)) maNil))))))) (msRet (mC (.bl false))) msNil))
  (msRet (mC (.bl true)))))
def W_questions_fit : MW := defW 2 5 B_questions_fit
def B_releases_fit : MS := (msSeq (msIf (mNot (mTst (mChain leV leV (mC (.int 1)) (mCB lenV (maCons (mFld atT (mVar 0) "releases") maNil)) (mC (.int 4))))) (msRet (mC (.bl false))) msNil)
  (msSeq (msFor (mIter (mFld atT (mVar 0) "releases")) (.tp [(.nm 1), (.nm 2)]) (msSeq (msIf (mOr (mTst (mOp neV' (mCB lenV (maCons (mVar 1) maNil)) (mCB lenV (maCons (mFld atT (mVar 0) "services") maNil)))) (mOr (mTst (mOp neV' (mCB lenV (maCons (mVar 2) maNil)) (mFld atT (mVar 0) "switches"))) (mNot (mTru (mCall W_are_numbers (maCons (mVar 2) (maCons (mC (.int 0)) (maCons (mC (.int 1)) maNil)))))))) (msRet (mC (.bl false))) msNil)
  (msFor (mZip (maCons (mVar 1) (maCons (mFld atT (mVar 0) "services") maNil))) (.tp [(.nm 3), (.tp [(.nm 4), (.nm 5)])]) (msIf (mNot (mTru (mCall W_is_number (maCons (mVar 3) (maCons (mC (.int 0)) (maCons (mOp subV (mCB lenV (maCons (mVar 5) maNil)) (mC (.int 1))) maNil)))))) (msRet (mC (.bl false))) msNil))))
  (msRet (mC (.bl true)))))
def W_releases_fit : MW := defW 1 6 B_releases_fit
def B_Scope___init__ : MS := (msSeq (msFld atT (mVar 0) "fields" (mCB lenV (maCons (mVar 3) maNil)))
  (msSeq (msFld atT (mVar 0) "switches" (mFld atT (mVar 1) "switches"))
  (msSeq (msFld atT (mVar 0) "questions" (mFld atT (mVar 1) "questions"))
  (msFld atT (mVar 0) "service" (mVar 2)))))
def W_Scope___init__ : MW := defW 4 4 B_Scope___init__
def B_Scope_has_expr : MS := (msSeq (msSet 2 (mOp ixV (mVar 1) (mC (.int 0))))
  (msSeq (msIf (mTst (mOp inM (mVar 2) (mTup (maCons (mC (.str "arg")) (maCons (mC (.str "got")) maNil))))) (msRet (mOp eqV' (mCB lenV (maCons (mVar 1) maNil)) (mC (.int 1)))) msNil)
  (msSeq (msIf (mTst (mOp neV' (mCB lenV (maCons (mVar 1) maNil)) (mC (.int 2)))) (msRet (mC (.bl false))) msNil)
  (msSeq (msIf (mTst (mOp eqV' (mVar 2) (mC (.str "value")))) (msRet (mCall W_is_number (maCons (mOp ixV (mVar 1) (mC (.int 1))) (maCons (mC (.int 0)) (maCons (mC (.int 3)) maNil))))) msNil)
  (msSeq (msIf (mTst (mOp eqV' (mVar 2) (mC (.str "field")))) (msRet (mCall W_is_number (maCons (mOp ixV (mVar 1) (mC (.int 1))) (maCons (mC (.int 0)) (maCons (mOp subV (mFld atT (mVar 0) "fields") (mC (.int 1))) maNil))))) msNil)
  (msRet (mAndV (mOp eqV' (mVar 2) (mC (.str "switch"))) (mCall W_is_number (maCons (mOp ixV (mVar 1) (mC (.int 1))) (maCons (mC (.int 0)) (maCons (mOp subV (mFld atT (mVar 0) "switches") (mC (.int 1))) maNil)))))))))))
def W_Scope_has_expr : MW := defW 2 3 B_Scope_has_expr
def B_Scope_has_deed : MS := (msSeq (msSet 2 (mOp ixV (mVar 1) (mC (.int 0))))
  (msSeq (msIf (mTst (mOp eqV' (mVar 2) (mC (.str "answer")))) (msRet (mAndV (mOp eqV' (mCB lenV (maCons (mVar 1) maNil)) (mC (.int 2))) (mMeth "Scope" "has_expr" W_Scope_has_expr (mVar 0) (maCons (mOp ixV (mVar 1) (mC (.int 1))) maNil)))) msNil)
  (msSeq (msIf (mTst (mOp neV' (mCB lenV (maCons (mVar 1) maNil)) (mC (.int 3)))) (msRet (mC (.bl false))) msNil)
  (msSeq (msIf (mTst (mOp eqV' (mVar 2) (mC (.str "ask")))) (msSeq (msSet 3 (mCall W_is_number (maCons (mOp ixV (mVar 1) (mC (.int 1))) (maCons (mC (.int 0)) (maCons (mOp subV (mCB lenV (maCons (mFld atT (mVar 0) "questions") maNil)) (mC (.int 1))) maNil)))))
  (msRet (mAndV (mVar 3) (mAndV (mOp gtV (mOp ixV (mOp ixV (mFld atT (mVar 0) "questions") (mOp ixV (mVar 1) (mC (.int 1)))) (mC (.int 0))) (mFld atT (mVar 0) "service")) (mMeth "Scope" "has_expr" W_Scope_has_expr (mVar 0) (maCons (mOp ixV (mVar 1) (mC (.int 2))) maNil)))))) msNil)
  (msSeq (msIf (mOr (mTst (mOp notInM (mVar 2) (mTup (maCons (mC (.str "set")) (maCons (mC (.str "add")) maNil))))) (mNot (mTru (mCall W_is_number (maCons (mOp ixV (mVar 1) (mC (.int 1))) (maCons (mC (.int 0)) (maCons (mOp subV (mFld atT (mVar 0) "fields") (mC (.int 1))) maNil))))))) (msRet (mC (.bl false))) msNil)
  (msRet (mIf (mTst (mOp eqV' (mVar 2) (mC (.str "set")))) (mMeth "Scope" "has_expr" W_Scope_has_expr (mVar 0) (maCons (mOp ixV (mVar 1) (mC (.int 2))) maNil)) (mCall W_is_number (maCons (mOp ixV (mVar 1) (mC (.int 2))) (maCons (mC (.int 0)) (maCons (mC (.int 3)) maNil)))))))))))
def W_Scope_has_deed : MW := defW 2 4 B_Scope_has_deed
def B_Scope_has_test : MS := (msSeq (msIf (mTst (mOp isV (mVar 1) (mC .non))) (msRet (mC (.bl true))) msNil)
  (msRet (mAndV (mOp eqV' (mCB lenV (maCons (mVar 1) maNil)) (mC (.int 3))) (mAndV (mMeth "Scope" "has_expr" W_Scope_has_expr (mVar 0) (maCons (mOp ixV (mVar 1) (mC (.int 0))) maNil)) (mAndV (mOp inM (mOp ixV (mVar 1) (mC (.int 1))) gt_SIGNS) (mMeth "Scope" "has_expr" W_Scope_has_expr (mVar 0) (maCons (mOp ixV (mVar 1) (mC (.int 2))) maNil)))))))
def W_Scope_has_test : MW := defW 2 2 B_Scope_has_test
def B_Scope_has_handler : MS := (msSeq (msIf (mTst (mOp isV (mVar 2) (mC .non))) (msRet (mC (.bl true))) msNil)
  (msSeq (msIf (mOr (mTst (mOp neV' (mOp ixV (mOp ixV (mFld atT (mVar 0) "questions") (mVar 1)) (mC (.int 0))) (mFld atT (mVar 0) "service"))) (mNot (mTst (mChain leV leV (mC (.int 1)) (mCB lenV (maCons (mVar 2) maNil)) (mC (.int 8)))))) (msRet (mC (.bl false))) msNil)
  (msSeq (msSet 3 (mC (.int 0)))
  (msSeq (msFor (mIter (mVar 2)) (.tp [(.nm 4), (.nm 5)]) (msSeq (msIf (mOr (mNot (mTru (mMeth "Scope" "has_test" W_Scope_has_test (mVar 0) (maCons (mVar 4) maNil)))) (mNot (mTru (mMeth "Scope" "has_deed" W_Scope_has_deed (mVar 0) (maCons (mVar 5) maNil))))) (msRet (mC (.bl false))) msNil)
  (msAug 3 iaddV (mCB intV (maCons (mOp eqV' (mOp ixV (mVar 5) (mC (.int 0))) (mC (.str "ask"))) maNil)))))
  (msRet (mOp leV (mVar 3) (mC (.int 2))))))))
def W_Scope_has_handler : MW := defW 3 6 B_Scope_has_handler
def B_record_count : MS := (msSeq (msSet 1 (mC (.int 1)))
  (msSeq (msFor (mIter (mVar 0)) (.nm 2) (msSet 1 (mOp mulV (mVar 1) (mVar 2))))
  (msRet (mVar 1))))
def W_record_count : MW := defW 1 3 B_record_count
def B_require_version : MS := (msSeq (msPat (.tp [(.nm 7), (.nm 8), (.nm 9), (.nm 10)]) (mOp ixV (mVar 2) (mVar 3)))
  (msSeq (msIf (mOr (mNot (mTst (mChain leV leV (mC (.int 1)) (mCB lenV (maCons (mVar 7) maNil)) (mC (.int 3))))) (mNot (mTru (mCall W_are_numbers (maCons (mVar 7) (maCons (mC (.int 1)) (maCons (mC (.int 4)) maNil))))))) msNever msNil)
  (msSeq (msSet 4 (mCall W_record_count (maCons (mVar 7) maNil)))
  (msSeq (msSet 5 (mC (.int 0)))
  (msSeq (msIf (mTst (mOp gtV (mVar 3) (mC (.int 0)))) (msSet 5 (mCall W_record_count (maCons (mOp ixV (mOp ixV (mVar 2) (mOp subV (mVar 3) (mC (.int 1)))) (mC (.int 0))) maNil))) msNil)
  (msSeq (msIf (mOr (mTst (mOp neV' (mCB lenV (maCons (mVar 8) maNil)) (mVar 5))) (mNot (mTru (mCall W_are_numbers (maCons (mVar 8) (maCons (mC (.int 0)) (maCons (mOp subV (mVar 4) (mC (.int 1))) maNil))))))) msNever msNil)
  (msSeq (msIf (mOr (mTst (mOp neV' (mCB lenV (maCons (mVar 9) maNil)) (mIf (mTst (mOp gtV (mVar 3) (mC (.int 0)))) (mVar 4) (mC (.int 0))))) (mNot (mTru (mCall W_are_numbers (maCons (mVar 9) (maCons (mC (.int 0)) (maCons (mOp subV (mVar 5) (mC (.int 1))) maNil))))))) msNever msNil)
  (msSeq (msSet 6 (mMake "Scope" W_Scope___init__ (maCons (mVar 0) (maCons (mVar 1) (maCons (mVar 7) maNil)))))
  (msSeq (msIf (mTst (mOp neV' (mCB lenV (maCons (mVar 10) maNil)) (mCB lenV (maCons (mFld atT (mVar 0) "questions") maNil)))) msNever msNil)
  (msFor (mEnum (maCons (mVar 10) maNil)) (.tp [(.nm 11), (.nm 12)]) (msIf (mNot (mTru (mMeth "Scope" "has_handler" W_Scope_has_handler (mVar 6) (maCons (mVar 11) (maCons (mVar 12) maNil))))) msNever msNil)))))))))))
def W_require_version : MW := defW 4 13 B_require_version
def B_require_services : MS := (msSeq (msIf (mNot (mTst (mChain leV leV (mC (.int 1)) (mCB lenV (maCons (mFld atT (mVar 0) "services") maNil)) (mC (.int 3))))) msNever msNil)
  (msFor (mEnum (maCons (mFld atT (mVar 0) "services") maNil)) (.tp [(.nm 1), (.tp [(.nm 3), (.nm 4)])]) (msSeq (msIf (mNot (mTru (mCall W_is_number (maCons (mVar 3) (maCons (mC (.int 1)) (maCons (mC (.int 2)) maNil)))))) msNever msNil)
  (msSeq (msIf (mNot (mTst (mChain leV leV (mC (.int 1)) (mCB lenV (maCons (mVar 4) maNil)) (mC (.int 3))))) msNever msNil)
  (msFor (mRng1 (maCons (mCB lenV (maCons (mVar 4) maNil)) maNil)) (.nm 2) (msExpr (mCall W_require_version (maCons (mVar 0) (maCons (mVar 1) (maCons (mVar 4) (maCons (mVar 2) maNil)))))))))))
def W_require_services : MW := defW 1 5 B_require_services
def B_Program_require : MS := (msSeq (msIf (mNot (mTru (mCall W_is_number (maCons (mFld atT (mVar 0) "switches") (maCons (mC (.int 0)) (maCons (mC (.int 2)) maNil)))))) msNever msNil)
  (msSeq (msIf (mNot (mTru (mCall W_questions_fit (maCons (mFld atT (mVar 0) "questions") (maCons (mFld atT (mVar 0) "services") maNil))))) msNever msNil)
  (msSeq (msExpr (mCall W_require_services (maCons (mVar 0) maNil)))
  (msSeq (msIf (mNot (mTru (mCall W_releases_fit (maCons (mVar 0) maNil)))) msNever msNil)
  (msSeq (msIf (mNot (mTru (mCall W_is_number (maCons (mFld atT (mVar 0) "clients") (maCons (mC (.int 1)) (maCons (mC (.int 2)) maNil)))))) msNever msNil)
  (msSeq (msIf (mNot (mTru (mCall W_is_number (maCons (mFld atT (mVar 0) "asks") (maCons (mC (.int 0)) (maCons (mC (.int 3)) maNil)))))) msNever msNil)
  (msFor (mIter (mTup (maCons (mTup (maCons (mC (.str "losses")) (maCons (mFld atT (mVar 0) "losses") maNil))) (maCons (mTup (maCons (mC (.str "doubles")) (maCons (mFld atT (mVar 0) "doubles") maNil))) (maCons (mTup (maCons (mC (.str "crashes")) (maCons (mFld atT (mVar 0) "crashes") maNil))) maNil))))) (.tp [(.nm 1), (.nm 2)]) (msIf (mNot (mTru (mCall W_is_number (maCons (mVar 2) (maCons (mC (.int 0)) (maCons (mC (.int 2)) maNil)))))) msNever msNil))))))))
def W_Program_require : MW := defW 1 3 B_Program_require
def B_Program___init__ : MS := (msSeq (msFld atT (mVar 0) "questions" (mVar 1))
  (msSeq (msFld atT (mVar 0) "services" (mVar 2))
  (msSeq (msFld atT (mVar 0) "releases" (mVar 3))
  (msSeq (msFld atT (mVar 0) "switches" (mVar 4))
  (msSeq (msFld atT (mVar 0) "clients" (mVar 5))
  (msSeq (msFld atT (mVar 0) "asks" (mVar 6))
  (msSeq (msFld atT (mVar 0) "losses" (mVar 7))
  (msSeq (msFld atT (mVar 0) "doubles" (mVar 8))
  (msSeq (msFld atT (mVar 0) "crashes" (mVar 9))
  (msExpr (mMeth "Program" "require" W_Program_require (mVar 0) maNil)))))))))))
def W_Program___init__ : MW := defW 10 10 B_Program___init__
def B__law_bare : MS := (msSeq (msSet 1 (mCB tupleV (maCons (mLcV (mIter (mOp dgetV (mVar 0) (mC (.str "releases")))) (.tp [(.nm 5), (.nm 7)]) mYes (mTup (maCons (mVar 5) (maCons (mTup maNil) maNil))) [5, 7]) maNil)))
  (msSeq (msSet 2 (mLst maNil))
  (msSeq (msFor (mIter (mOp dgetV (mVar 0) (mC (.str "services")))) (.tp [(.nm 4), (.nm 5)]) (msSeq (msSet 6 (mCB tupleV (maCons (mLcV (mIter (mVar 5)) (.nm 8) mYes (mOp addVV (mSlV (mVar 8) pNo (pYes (mC (.int 3)))) (mTup (maCons (mCB tupleV (maCons (mLcV (mIter (mOp ixV (mVar 8) (mC (.int 3)))) (.nm 9) mYes (mC .non) [9]) maNil)) maNil))) [8]) maNil)))
  (msExpr (mBM appendV (mVar 2) (maCons (mTup (maCons (mVar 4) (maCons (mVar 6) maNil))) maNil)))))
  (msSeq (msSet 3 (mMakeK "Program" 3 W_Program___init__ gM_1 (maCons (mOp dgetV (mVar 0) (mC (.str "questions"))) (maCons (mCB tupleV (maCons (mVar 2) maNil)) (maCons (mVar 1) maNil)))))
  (msSeq (msIf (mTst (mOp neV' (mTup (maCons (mFld atT (mVar 3) "clients") (maCons (mFld atT (mVar 3) "asks") (maCons (mFld atT (mVar 3) "losses") (maCons (mFld atT (mVar 3) "doubles") (maCons (mFld atT (mVar 3) "crashes") (maCons (mFld atT (mVar 3) "switches") maNil))))))) (mTup (maCons (mC (.int 1)) (maCons (mC (.int 1)) (maCons (mC (.int 0)) (maCons (mC (.int 0)) (maCons (mC (.int 0)) (maCons (mC (.int 0)) maNil))))))))) (msRet (mC (.bl false))) msNil)
  (msRet (mAndV (mOp eqV' (mFld atT (mVar 3) "questions") (mOp dgetV (mVar 0) (mC (.str "questions")))) (mAndV (mOp eqV' (mFld atT (mVar 3) "services") (mCB tupleV (maCons (mVar 2) maNil))) (mOp eqV' (mFld atT (mVar 3) "releases") (mVar 1))))))))))
def W__law_bare : MW := defW 1 10 B__law_bare
def B__law_next : MS := (msSeq (msIf (mTst (mOp ltV (mOp ixV (mVar 0) (mC (.int 1))) (mVar 1))) (msIf (mTst (mOp gtV (mCB lenV (maCons (mOp ixV (mVar 0) (mC (.int 0))) maNil)) (mC (.int 0)))) (msSeq (msSet 3 (mBM popV (mOp ixV (mVar 0) (mC (.int 0))) (maCons (mC (.int 0)) maNil)))
  (msSeq (msSub (mVar 0) (mC (.int 1)) (mIf (mTst (mOp geV (mVar 3) (mC (.int 0)))) (mOp mulV (mC (.int 2)) (mVar 3)) (mOp subV (mOp mulV (mUn negV (mC (.int 2))) (mVar 3)) (mC (.int 1)))))
  (msSub (mVar 0) (mC (.int 2)) (mOp modV (mCB intV (maCons (mOp addVV (mOp mulV (mOp ixV (mVar 0) (mC (.int 2))) (mC (.int 69621))) (mOp ixV (mVar 0) (mC (.int 1)))) maNil)) (mC (.int 2147483647)))))) (msSeq (msSub (mVar 0) (mC (.int 2)) (mOp modV (mCB intV (maCons (mOp addVV (mOp mulV (mOp ixV (mVar 0) (mC (.int 2))) (mC (.int 48271))) (mC (.int 11))) maNil)) (mC (.int 2147483647))))
  (msSub (mVar 0) (mC (.int 1)) (mOp modV (mCB intV (maCons (mOp mulV (mOp ixV (mVar 0) (mC (.int 2))) (mOp ixV (mVar 0) (mC (.int 2)))) maNil)) (mC (.int 1000003)))))) msNil)
  (msSeq (msSet 2 (mOp modV (mCB intV (maCons (mOp ixV (mVar 0) (mC (.int 1))) maNil)) (mVar 1)))
  (msSeq (msSub (mVar 0) (mC (.int 1)) (mOp fdivV (mOp ixV (mVar 0) (mC (.int 1))) (mVar 1)))
  (msRet (mVar 2)))))
def W__law_next : MW := defW 2 4 B__law_next
def B__law_bounded : MS := (msSeq (msSub (mVar 1) (mC (.str "clients")) (mOp addVV (mC (.int 1)) (mCall W__law_next (maCons (mVar 0) (maCons (mC (.int 2)) maNil)))))
  (msSeq (msSub (mVar 1) (mC (.str "asks")) (mCall W__law_next (maCons (mVar 0) (maCons (mC (.int 4)) maNil))))
  (msSeq (msFor (mIter (mLstV (maCons (mC (.str "losses")) (maCons (mC (.str "doubles")) (maCons (mC (.str "crashes")) maNil))))) (.nm 2) (msSub (mVar 1) (mVar 2) (mCall W__law_next (maCons (mVar 0) (maCons (mC (.int 3)) maNil)))))
  (msRet (mVar 1)))))
def W__law_bounded : MW := defW 2 3 B__law_bounded
def B__law_release : MS := (msSeq (msSet 2 (mCB tupleV (maCons (mLcV (mIter (mOp dgetV (mVar 1) (mC (.str "services")))) (.nm 3) mYes (mCall W__law_next (maCons (mVar 0) (maCons (mCB lenV (maCons (mOp ixV (mVar 3) (mC (.int 1))) maNil)) maNil))) [3]) maNil)))
  (msRet (mTup (maCons (mVar 2) (maCons (mCB tupleV (maCons (mLcV (mRng1 (maCons (mOp dgetV (mVar 1) (mC (.str "switches"))) maNil)) (.nm 4) mYes (mCall W__law_next (maCons (mVar 0) (maCons (mC (.int 2)) maNil))) [4]) maNil)) maNil)))))
def W__law_release : MW := defW 2 5 B__law_release
def B__law_count : MS := (msSeq (msSet 1 (mC (.int 1)))
  (msSeq (msFor (mIter (mVar 0)) (.nm 2) (msSet 1 (mOp mulV (mVar 1) (mVar 2))))
  (msRet (mVar 1))))
def W__law_count : MW := defW 1 3 B__law_count
def B__law_expr : MS := (msSeq (msSet 3 (mCall W__law_next (maCons (mVar 0) (maCons (mC (.int 6)) maNil))))
  (msSeq (msIf (mTst (mOp eqV' (mVar 3) (mC (.int 0)))) (msRet (mTup (maCons (mC (.str "arg")) maNil))) msNil)
  (msSeq (msIf (mTst (mOp eqV' (mVar 3) (mC (.int 1)))) (msRet (mTup (maCons (mC (.str "got")) maNil))) msNil)
  (msSeq (msIf (mTst (mOp ltV (mVar 3) (mC (.int 4)))) (msRet (mTup (maCons (mC (.str "field")) (maCons (mCall W__law_next (maCons (mVar 0) (maCons (mCB lenV (maCons (mVar 2) maNil)) maNil))) maNil)))) msNil)
  (msSeq (msIf (mAnd (mTst (mOp eqV' (mVar 3) (mC (.int 4)))) (mTst (mOp gtV (mOp dgetV (mVar 1) (mC (.str "switches"))) (mC (.int 0))))) (msRet (mTup (maCons (mC (.str "switch")) (maCons (mCall W__law_next (maCons (mVar 0) (maCons (mOp dgetV (mVar 1) (mC (.str "switches"))) maNil))) maNil)))) msNil)
  (msRet (mTup (maCons (mC (.str "value")) (maCons (mCall W__law_next (maCons (mVar 0) (maCons (mC (.int 4)) maNil))) maNil)))))))))
def W__law_expr : MW := defW 3 4 B__law_expr
def B__law_deed : MS := (msSeq (msSet 4 (mCall W__law_next (maCons (mVar 0) (maCons (mC (.int 8)) maNil))))
  (msSeq (msIf (mTst (mOp ltV (mVar 4) (mC (.int 2)))) (msRet (mTup (maCons (mC (.str "add")) (maCons (mCall W__law_next (maCons (mVar 0) (maCons (mCB lenV (maCons (mVar 2) maNil)) maNil))) (maCons (mCall W__law_next (maCons (mVar 0) (maCons (mC (.int 4)) maNil))) maNil))))) msNil)
  (msSeq (msIf (mAnd (mTst (mOp ltV (mVar 4) (mC (.int 5)))) (mTst (mOp gtV (mCB lenV (maCons (mVar 3) maNil)) (mC (.int 0))))) (msRet (mTup (maCons (mC (.str "ask")) (maCons (mOp ixV (mVar 3) (mCall W__law_next (maCons (mVar 0) (maCons (mCB lenV (maCons (mVar 3) maNil)) maNil)))) (maCons (mCall W__law_expr (maCons (mVar 0) (maCons (mVar 1) (maCons (mVar 2) maNil)))) maNil))))) msNil)
  (msSeq (msIf (mTst (mOp ltV (mVar 4) (mC (.int 7)))) (msRet (mTup (maCons (mC (.str "set")) (maCons (mCall W__law_next (maCons (mVar 0) (maCons (mCB lenV (maCons (mVar 2) maNil)) maNil))) (maCons (mCall W__law_expr (maCons (mVar 0) (maCons (mVar 1) (maCons (mVar 2) maNil)))) maNil))))) msNil)
  (msRet (mTup (maCons (mC (.str "answer")) (maCons (mCall W__law_expr (maCons (mVar 0) (maCons (mVar 1) (maCons (mVar 2) maNil)))) maNil))))))))
def W__law_deed : MW := defW 4 5 B__law_deed
def B__law_handler : MS := (msSeq (msSet 4 (mLcV (mRng1 (maCons (mCB lenV (maCons (mOp dgetV (mVar 1) (mC (.str "questions"))) maNil)) maNil)) (.nm 7) (mTst (mOp gtV (mOp ixV (mOp ixV (mOp dgetV (mVar 1) (mC (.str "questions"))) (mVar 7)) (mC (.int 0))) (mVar 3))) (mVar 7) [7]))
  (msSeq (msSet 5 (mLst maNil))
  (msSeq (msSet 6 (mC (.int 0)))
  (msSeq (msFor (mRng1 (maCons (mOp addVV (mC (.int 1)) (mCall W__law_next (maCons (mVar 0) (maCons (mC (.int 8)) maNil)))) maNil)) (.nm 7) (msSeq (msSet 8 (mC .non))
  (msSeq (msIf (mTst (mOp eqV' (mCall W__law_next (maCons (mVar 0) (maCons (mC (.int 2)) maNil))) (mC (.int 0)))) (msSeq (msSet 10 (mCall W__law_expr (maCons (mVar 0) (maCons (mVar 1) (maCons (mVar 2) maNil)))))
  (msSet 8 (mTup (maCons (mVar 10) (maCons (mOp ixV (mLstV (maCons (mC (.str "==")) (maCons (mC (.str "!=")) (maCons (mC (.str "<")) maNil)))) (mCall W__law_next (maCons (mVar 0) (maCons (mC (.int 3)) maNil)))) (maCons (mCall W__law_expr (maCons (mVar 0) (maCons (mVar 1) (maCons (mVar 2) maNil)))) maNil)))))) msNil)
  (msSeq (msSet 9 (mCall W__law_deed (maCons (mVar 0) (maCons (mVar 1) (maCons (mVar 2) (maCons (mIf (mTst (mOp ltV (mVar 6) (mC (.int 2)))) (mVar 4) (mLstV maNil)) maNil))))))
  (msSeq (msSet 6 (mOp addVV (mVar 6) (mCB intV (maCons (mOp eqV' (mOp ixV (mVar 9) (mC (.int 0))) (mC (.str "ask"))) maNil))))
  (msExpr (mBM appendV (mVar 5) (maCons (mTup (maCons (mVar 8) (maCons (mVar 9) maNil))) maNil))))))))
  (msRet (mCB tupleV (maCons (mVar 5) maNil)))))))
def W__law_handler : MW := defW 4 11 B__law_handler
def B__law_sizes : MS := (msSeq (msSet 1 (mOp ixV (mLstV (maCons (mC (.int 4)) (maCons (mC (.int 4)) (maCons (mC (.int 2)) maNil)))) (mCall W__law_next (maCons (mVar 0) (maCons (mC (.int 3)) maNil)))))
  (msRet (mCB tupleV (maCons (mLcV (mRng1 (maCons (mOp addVV (mC (.int 1)) (mCall W__law_next (maCons (mVar 0) (maCons (mC (.int 3)) maNil)))) maNil)) (.nm 2) mYes (mOp addVV (mC (.int 1)) (mCall W__law_next (maCons (mVar 0) (maCons (mVar 1) maNil)))) [2]) maNil))))
def W__law_sizes : MW := defW 1 3 B__law_sizes
def B__law_version : MS := (msSeq (msSet 4 (mCall W__law_sizes (maCons (mVar 0) maNil)))
  (msSeq (msSet 5 (mCall W__law_count (maCons (mVar 4) maNil)))
  (msSeq (msSet 6 (mTup maNil))
  (msSeq (msSet 7 (mTup maNil))
  (msSeq (msIf (mTst (mOp gtV (mVar 3) (mC (.int 0)))) (msSeq (msSet 6 (mCB tupleV (maCons (mLcV (mRng1 (maCons (mVar 3) maNil)) (.nm 10) mYes (mCall W__law_next (maCons (mVar 0) (maCons (mVar 5) maNil))) [10]) maNil)))
  (msSet 7 (mCB tupleV (maCons (mLcV (mRng1 (maCons (mVar 5) maNil)) (.nm 10) mYes (mCall W__law_next (maCons (mVar 0) (maCons (mVar 3) maNil))) [10]) maNil)))) msNil)
  (msSeq (msSet 8 (mLst maNil))
  (msSeq (msFor (mIter (mOp dgetV (mVar 1) (mC (.str "questions")))) (.nm 9) (msIf (mOr (mTst (mOp neV' (mOp ixV (mVar 9) (mC (.int 0))) (mVar 2))) (mTst (mOp eqV' (mCall W__law_next (maCons (mVar 0) (maCons (mC (.int 8)) maNil))) (mC (.int 0))))) (msExpr (mBM appendV (mVar 8) (maCons (mC .non) maNil))) (msExpr (mBM appendV (mVar 8) (maCons (mCall W__law_handler (maCons (mVar 0) (maCons (mVar 1) (maCons (mVar 4) (maCons (mVar 2) maNil))))) maNil)))))
  (msRet (mTup (maCons (mVar 4) (maCons (mVar 6) (maCons (mVar 7) (maCons (mCB tupleV (maCons (mVar 8) maNil)) maNil)))))))))))))
def W__law_version : MW := defW 4 11 B__law_version
def B__law_service : MS := (msSeq (msSet 3 (mLst maNil))
  (msSeq (msSet 4 (mC (.int 0)))
  (msSeq (msFor (mRng1 (maCons (mOp addVV (mC (.int 1)) (mCall W__law_next (maCons (mVar 0) (maCons (mC (.int 3)) maNil)))) maNil)) (.nm 5) (msSeq (msExpr (mBM appendV (mVar 3) (maCons (mCall W__law_version (maCons (mVar 0) (maCons (mVar 1) (maCons (mVar 2) (maCons (mVar 4) maNil))))) maNil)))
  (msSet 4 (mCall W__law_count (maCons (mOp ixV (mOp ixV (mVar 3) (mUn negV (mC (.int 1)))) (mC (.int 0))) maNil)))))
  (msRet (mTup (maCons (mOp addVV (mC (.int 1)) (mCall W__law_next (maCons (mVar 0) (maCons (mC (.int 2)) maNil)))) (maCons (mCB tupleV (maCons (mVar 3) maNil)) maNil)))))))
def W__law_service : MW := defW 3 6 B__law_service
def B__law_data : MS := (msSeq (msSet 1 (mOp ixV (mLstV (maCons (mC (.int 3)) (maCons (mC (.int 2)) (maCons (mC (.int 1)) (maCons (mC (.int 2)) maNil))))) (mCall W__law_next (maCons (mVar 0) (maCons (mC (.int 4)) maNil)))))
  (msSeq (msSet 2 (mDisp ["switches"] (maCons (mCall W__law_next (maCons (mVar 0) (maCons (mC (.int 3)) maNil))) maNil)))
  (msSeq (msSet 3 (mLst maNil))
  (msSeq (msFor (mRng1 (maCons (mOp addVV (mC (.int 1)) (mCall W__law_next (maCons (mVar 0) (maCons (mC (.int 3)) maNil)))) maNil)) (.nm 4) (msExpr (mBM appendV (mVar 3) (maCons (mTup (maCons (mCall W__law_next (maCons (mVar 0) (maCons (mVar 1) maNil))) (maCons (mOp addVV (mC (.int 1)) (mCall W__law_next (maCons (mVar 0) (maCons (mC (.int 4)) maNil)))) (maCons (mOp addVV (mC (.int 1)) (mCall W__law_next (maCons (mVar 0) (maCons (mC (.int 4)) maNil)))) maNil)))) maNil))))
  (msSeq (msSub (mVar 2) (mC (.str "questions")) (mCB tupleV (maCons (mVar 3) maNil)))
  (msSeq (msSub (mVar 2) (mC (.str "services")) (mCB tupleV (maCons (mLcV (mRng1 (maCons (mVar 1) maNil)) (.nm 4) mYes (mCall W__law_service (maCons (mVar 0) (maCons (mVar 2) (maCons (mVar 4) maNil)))) [4]) maNil)))
  (msSeq (msSub (mVar 2) (mC (.str "releases")) (mCB tupleV (maCons (mLcV (mRng1 (maCons (mOp addVV (mC (.int 1)) (mCall W__law_next (maCons (mVar 0) (maCons (mC (.int 4)) maNil)))) maNil)) (.nm 4) mYes (mCall W__law_release (maCons (mVar 0) (maCons (mVar 2) maNil))) [4]) maNil)))
  (msRet (mVar 2)))))))))
def W__law_data : MW := defW 1 5 B__law_data
def B__law_told : MS := (msSeq (msExpr (mMakeK "Program" 9 W_Program___init__ gM_0 (maCons (mOp dgetV (mVar 0) (mC (.str "switches"))) (maCons (mOp dgetV (mVar 0) (mC (.str "questions"))) (maCons (mOp dgetV (mVar 0) (mC (.str "services"))) (maCons (mOp dgetV (mVar 0) (mC (.str "releases"))) (maCons (mOp dgetV (mVar 0) (mC (.str "clients"))) (maCons (mOp dgetV (mVar 0) (mC (.str "asks"))) (maCons (mOp dgetV (mVar 0) (mC (.str "losses"))) (maCons (mOp dgetV (mVar 0) (mC (.str "doubles"))) (maCons (mOp dgetV (mVar 0) (mC (.str "crashes"))) maNil)))))))))))
  (msRet (mTup (maCons (mC (.str "made")) maNil))))
def W__law_told : MW := defW 1 2 B__law_told
def B_law : MS := (msSeq (msSet 1 (mLst (maCons (mCB listV (maCons (mVar 0) maNil)) (maCons (mC (.int 0)) (maCons (mC (.int 1)) maNil)))))
  (msSeq (msSet 2 (mCall W__law_bounded (maCons (mVar 1) (maCons (mCall W__law_data (maCons (mVar 1) maNil)) maNil))))
  (msSeq (msIf (mTst (mOp neV' (mCall W__law_told (maCons (mVar 2) maNil)) (mTup (maCons (mC (.str "made")) maNil)))) (msRet (mC (.bl false))) msNil)
  (msSeq (msSet 3 (mMakeK "Program" 9 W_Program___init__ gM_0 (maCons (mOp dgetV (mVar 2) (mC (.str "switches"))) (maCons (mOp dgetV (mVar 2) (mC (.str "questions"))) (maCons (mOp dgetV (mVar 2) (mC (.str "services"))) (maCons (mOp dgetV (mVar 2) (mC (.str "releases"))) (maCons (mOp dgetV (mVar 2) (mC (.str "clients"))) (maCons (mOp dgetV (mVar 2) (mC (.str "asks"))) (maCons (mOp dgetV (mVar 2) (mC (.str "losses"))) (maCons (mOp dgetV (mVar 2) (mC (.str "doubles"))) (maCons (mOp dgetV (mVar 2) (mC (.str "crashes"))) maNil)))))))))))
  (msSeq (msIf (mTst (mOp neV' (mTup (maCons (mFld atT (mVar 3) "switches") (maCons (mFld atT (mVar 3) "clients") (maCons (mFld atT (mVar 3) "asks") maNil)))) (mTup (maCons (mOp dgetV (mVar 2) (mC (.str "switches"))) (maCons (mOp dgetV (mVar 2) (mC (.str "clients"))) (maCons (mOp dgetV (mVar 2) (mC (.str "asks"))) maNil)))))) (msRet (mC (.bl false))) msNil)
  (msSeq (msIf (mTst (mOp neV' (mTup (maCons (mFld atT (mVar 3) "losses") (maCons (mFld atT (mVar 3) "doubles") (maCons (mFld atT (mVar 3) "crashes") maNil)))) (mTup (maCons (mOp dgetV (mVar 2) (mC (.str "losses"))) (maCons (mOp dgetV (mVar 2) (mC (.str "doubles"))) (maCons (mOp dgetV (mVar 2) (mC (.str "crashes"))) maNil)))))) (msRet (mC (.bl false))) msNil)
  (msSeq (msIf (mOr (mTst (mOp neV' (mFld atT (mVar 3) "questions") (mOp dgetV (mVar 2) (mC (.str "questions"))))) (mOr (mTst (mOp neV' (mFld atT (mVar 3) "services") (mOp dgetV (mVar 2) (mC (.str "services"))))) (mTst (mOp neV' (mFld atT (mVar 3) "releases") (mOp dgetV (mVar 2) (mC (.str "releases"))))))) (msRet (mC (.bl false))) msNil)
  (msRet (mCall W__law_bare (maCons (mVar 2) maNil))))))))))
def W_law : MW := defW 1 4 B_law
end Rw

set_option Elab.async false
set_option linter.all false
set_option maxRecDepth 100000
set_option maxHeartbeats 4000000
/-! The program's data, typed, and how it is written as values. -/
namespace Ty
open PySem PySem.Spec PyProof.Rows L2 Mv Pf
inductive Ex where
  | value (n : Nat) | arg | got | field (f : Nat) | switch (s : Nat)
  deriving DecidableEq, Inhabited
inductive Sg where
  | eq | ne | lt
  deriving DecidableEq, Inhabited
structure Test where
  l : Ex
  s : Sg
  r : Ex
  deriving DecidableEq, Inhabited
inductive Deed where
  | set (f : Nat) (e : Ex) | add (f n : Nat) | ask (q : Nat) (e : Ex) | answer (e : Ex)
  deriving DecidableEq, Inhabited
structure Line where
  t : Option Test
  d : Deed
  deriving DecidableEq, Inhabited
structure Ver where
  sizes : List Nat
  up : List Nat
  down : List Nat
  hs : List (Option (List Line))
  deriving DecidableEq, Inhabited
structure Serv where
  inst : Nat
  vers : List Ver
  deriving DecidableEq, Inhabited
structure Qu where
  serv : Nat
  args : Nat
  ans : Nat
  deriving DecidableEq, Inhabited
structure Rel where
  vers : List Nat
  vals : List Nat
  deriving DecidableEq, Inhabited
structure Prog where
  qs : List Qu
  svs : List Serv
  rels : List Rel
  sw : Nat
  clients : Nat
  asks : Nat
  losses : Nat
  doubles : Nat
  crashes : Nat
  deriving DecidableEq, Inhabited
def eI (n : Nat) : MV := .int (n : Int)
def eL {α : Type} (f : α → MV) (l : List α) : MV := .tup (l.map f)
def eO {α : Type} (f : α → MV) : Option α → MV
  | none => .non
  | some a => f a
def eEx : Ex → MV
  | .value n => .tup [.str "value", .int (n : Int)]
  | .arg => .tup [.str "arg"]
  | .got => .tup [.str "got"]
  | .field f => .tup [.str "field", .int (f : Int)]
  | .switch s => .tup [.str "switch", .int (s : Int)]
def Sg.str : Sg → String
  | .eq => "=="
  | .ne => "!="
  | .lt => "<"
def eTest (t : Test) : MV := .tup [eEx t.l, .str t.s.str, eEx t.r]
def eDeed : Deed → MV
  | .set f e => .tup [.str "set", .int (f : Int), eEx e]
  | .add f n => .tup [.str "add", .int (f : Int), .int (n : Int)]
  | .ask q e => .tup [.str "ask", .int (q : Int), eEx e]
  | .answer e => .tup [.str "answer", eEx e]
def eLine (l : Line) : MV := .tup [eO eTest l.t, eDeed l.d]
def eHand : Option (List Line) → MV := eO (eL eLine)
def eVer (v : Ver) : MV := .tup [eL eI v.sizes, eL eI v.up, eL eI v.down, eL eHand v.hs]
def eServ (s : Serv) : MV := .tup [.int (s.inst : Int), eL eVer s.vers]
def eQu (q : Qu) : MV := .tup [.int (q.serv : Int), .int (q.args : Int), .int (q.ans : Int)]
def eRel (r : Rel) : MV := .tup [eL eI r.vers, eL eI r.vals]
/-- the attributes of a program, in the order in which they are set -/
def progF (P : Prog) : List (String × MV) := [("questions", eL eQu P.qs), ("services", eL eServ P.svs), ("releases", eL eRel P.rels), ("switches", .int (P.sw : Int)), ("clients", .int (P.clients : Int)), ("asks", .int (P.asks : Int)), ("losses", .int (P.losses : Int)), ("doubles", .int (P.doubles : Int)), ("crashes", .int (P.crashes : Int))]
/-! reading by place -/
def gt {α : Type} [Inhabited α] (l : List α) (i : Nat) : α := l.getD i default
theorem gt_get {α : Type} [Inhabited α] {l : List α} {i : Nat} (h : i < l.length) : l[i]? = some (gt l i) := by
  unfold gt
  simp [h]
theorem gt_eq {α : Type} [Inhabited α] {l : List α} {i : Nat} {x : α} (h : l[i]? = some x) : gt l i = x := by
  have hi := (List.getElem?_eq_some_iff.mp h).1
  rw [gt_get hi] at h
  exact Option.some.inj h
theorem gt_mem {α : Type} [Inhabited α] {l : List α} {i : Nat} (h : i < l.length) : gt l i ∈ l := List.mem_of_getElem? (gt_get h)
theorem gt_0 {α : Type} [Inhabited α] {x : α} {l : List α} : gt (x :: l) 0 = x := rfl
theorem gt_S {α : Type} [Inhabited α] {x : α} {l : List α} {n : Nat} : gt (x :: l) (n + 1) = gt l n := by
  unfold gt
  simp
theorem at_gt {α : Type} [Inhabited α] {f : α → MV} {l : List α} {i : Nat} (h : i < l.length) : atI (l.map f) (i : Int) = some (f (gt l i)) := atI_nat (by rw [List.getElem?_map, gt_get h]; rfl)
theorem at_gtI {α : Type} [Inhabited α] {f : α → MV} {l : List α} {i : Int} (h0 : 0 ≤ i) (h : i < l.length) : atI (l.map f) i = some (f (gt l i.toNat)) := by
  obtain ⟨n, rfl⟩ := Int.eq_ofNat_of_zero_le h0
  exact at_gt (by omega)
theorem at_lastD {α : Type} [Inhabited α] {f : α → MV} {l : List α} (h : 0 < l.length) : atI (l.map f) (-1) = some (f (gt l (l.length - 1))) := by
  unfold atI ixN
  rw [List.length_map, if_neg (by omega), if_pos (by omega)]
  have e : (-1 + (l.length : Int)).toNat = l.length - 1 := by omega
  simp only [Option.bind_some, e]
  rw [List.getElem?_map, gt_get (by omega)]
  rfl
theorem eI_ap {n : Nat} : eI n = .int (n : Int) := rfl
theorem eL_ap {α : Type} {f : α → MV} {l : List α} : eL f l = .tup (l.map f) := rfl
theorem eO_n {α : Type} {f : α → MV} : eO f none = .non := rfl
theorem eO_s {α : Type} {f : α → MV} {a : α} : eO f (some a) = f a := rfl
theorem eHand_n : eHand none = .non := rfl
theorem eHand_s {ls : List Line} : eHand (some ls) = .tup (ls.map eLine) := rfl
theorem eVer_ap {v : Ver} : eVer v = .tup [eL eI v.sizes, eL eI v.up, eL eI v.down, eL eHand v.hs] := rfl
theorem eServ_ap {s : Serv} : eServ s = .tup [.int (s.inst : Int), eL eVer s.vers] := rfl
theorem eQu_ap {q : Qu} : eQu q = .tup [.int (q.serv : Int), .int (q.args : Int), .int (q.ans : Int)] := rfl
theorem eRel_ap {r : Rel} : eRel r = .tup [eL eI r.vers, eL eI r.vals] := rfl
theorem eLine_ap {l : Line} : eLine l = .tup [eO eTest l.t, eDeed l.d] := rfl
theorem eTest_ap {t : Test} : eTest t = .tup [eEx t.l, .str t.s.str, eEx t.r] := rfl
theorem toN_cast {n : Nat} : ((n : Int)).toNat = n := Int.toNat_natCast n
theorem toN_add {a b : Nat} : ((a : Int) + (b : Int)).toNat = a + b := by omega
theorem toN_add1 {a : Nat} : ((a : Int) + 1).toNat = a + 1 := by omega
theorem toN_add2 {a : Nat} : ((a : Int) + 2).toNat = a + 2 := by omega
theorem toN_1add {a : Nat} : (1 + (a : Int)).toNat = 1 + a := by omega
theorem toN_sub1 {a : Nat} : ((a : Int) - 1).toNat = a - 1 := by omega
/-! texts -/
theorem k_value : PyData.strOk (so "value") = true := by decide +kernel
theorem k_arg : PyData.strOk (so "arg") = true := by decide +kernel
theorem k_got : PyData.strOk (so "got") = true := by decide +kernel
theorem k_field : PyData.strOk (so "field") = true := by decide +kernel
theorem k_switch : PyData.strOk (so "switch") = true := by decide +kernel
theorem k_eq : PyData.strOk (so "==") = true := by decide +kernel
theorem k_ne : PyData.strOk (so "!=") = true := by decide +kernel
theorem k_lt : PyData.strOk (so "<") = true := by decide +kernel
theorem k_set : PyData.strOk (so "set") = true := by decide +kernel
theorem k_add : PyData.strOk (so "add") = true := by decide +kernel
theorem k_ask : PyData.strOk (so "ask") = true := by decide +kernel
theorem k_answer : PyData.strOk (so "answer") = true := by decide +kernel
theorem k_lose : PyData.strOk (so "lose") = true := by decide +kernel
theorem k_double : PyData.strOk (so "double") = true := by decide +kernel
theorem k_crash : PyData.strOk (so "crash") = true := by decide +kernel
theorem k_take : PyData.strOk (so "take") = true := by decide +kernel
theorem k_go : PyData.strOk (so "go") = true := by decide +kernel
theorem k_step : PyData.strOk (so "step") = true := by decide +kernel
theorem k_turnback : PyData.strOk (so "turnback") = true := by decide +kernel
theorem k_unstep : PyData.strOk (so "unstep") = true := by decide +kernel
theorem k_raise : PyData.strOk (so "raise") = true := by decide +kernel
theorem k_flip : PyData.strOk (so "flip") = true := by decide +kernel
theorem k_move : PyData.strOk (so "move") = true := by decide +kernel
theorem k_turn : PyData.strOk (so "turn") = true := by decide +kernel
theorem k_turned : PyData.strOk (so "turned") = true := by decide +kernel
theorem k_drained : PyData.strOk (so "drained") = true := by decide +kernel
theorem k_final : PyData.strOk (so "final") = true := by decide +kernel
theorem k_asked : PyData.strOk (so "asked") = true := by decide +kernel
theorem k_answered : PyData.strOk (so "answered") = true := by decide +kernel
theorem k_returned : PyData.strOk (so "returned") = true := by decide +kernel
theorem k_one : PyData.strOk (so "one") = true := by decide +kernel
theorem k_notone : PyData.strOk (so "not one") = true := by decide +kernel
theorem k_many : PyData.strOk (so "many") = true := by decide +kernel
theorem k_from : PyData.strOk (so "from") = true := by decide +kernel
theorem k_never : PyData.strOk (so "never") = true := by decide +kernel
theorem k_instance : PyData.strOk (so "instance") = true := by decide +kernel
theorem k_release : PyData.strOk (so "release") = true := by decide +kernel
theorem dk_value {S} : dat S (.str "value") = some (.str (so "value")) := dat_str k_value
theorem dk_arg {S} : dat S (.str "arg") = some (.str (so "arg")) := dat_str k_arg
theorem dk_got {S} : dat S (.str "got") = some (.str (so "got")) := dat_str k_got
theorem dk_field {S} : dat S (.str "field") = some (.str (so "field")) := dat_str k_field
theorem dk_switch {S} : dat S (.str "switch") = some (.str (so "switch")) := dat_str k_switch
theorem dk_eq {S} : dat S (.str "==") = some (.str (so "==")) := dat_str k_eq
theorem dk_ne {S} : dat S (.str "!=") = some (.str (so "!=")) := dat_str k_ne
theorem dk_lt {S} : dat S (.str "<") = some (.str (so "<")) := dat_str k_lt
theorem dk_set {S} : dat S (.str "set") = some (.str (so "set")) := dat_str k_set
theorem dk_add {S} : dat S (.str "add") = some (.str (so "add")) := dat_str k_add
theorem dk_ask {S} : dat S (.str "ask") = some (.str (so "ask")) := dat_str k_ask
theorem dk_answer {S} : dat S (.str "answer") = some (.str (so "answer")) := dat_str k_answer
theorem dk_lose {S} : dat S (.str "lose") = some (.str (so "lose")) := dat_str k_lose
theorem dk_double {S} : dat S (.str "double") = some (.str (so "double")) := dat_str k_double
theorem dk_crash {S} : dat S (.str "crash") = some (.str (so "crash")) := dat_str k_crash
theorem dk_take {S} : dat S (.str "take") = some (.str (so "take")) := dat_str k_take
theorem dk_go {S} : dat S (.str "go") = some (.str (so "go")) := dat_str k_go
theorem dk_step {S} : dat S (.str "step") = some (.str (so "step")) := dat_str k_step
theorem dk_turnback {S} : dat S (.str "turnback") = some (.str (so "turnback")) := dat_str k_turnback
theorem dk_unstep {S} : dat S (.str "unstep") = some (.str (so "unstep")) := dat_str k_unstep
theorem dk_raise {S} : dat S (.str "raise") = some (.str (so "raise")) := dat_str k_raise
theorem dk_flip {S} : dat S (.str "flip") = some (.str (so "flip")) := dat_str k_flip
theorem dk_move {S} : dat S (.str "move") = some (.str (so "move")) := dat_str k_move
theorem dk_turn {S} : dat S (.str "turn") = some (.str (so "turn")) := dat_str k_turn
theorem dk_turned {S} : dat S (.str "turned") = some (.str (so "turned")) := dat_str k_turned
theorem dk_drained {S} : dat S (.str "drained") = some (.str (so "drained")) := dat_str k_drained
theorem dk_final {S} : dat S (.str "final") = some (.str (so "final")) := dat_str k_final
theorem dk_asked {S} : dat S (.str "asked") = some (.str (so "asked")) := dat_str k_asked
theorem dk_answered {S} : dat S (.str "answered") = some (.str (so "answered")) := dat_str k_answered
theorem dk_returned {S} : dat S (.str "returned") = some (.str (so "returned")) := dat_str k_returned
theorem dk_one {S} : dat S (.str "one") = some (.str (so "one")) := dat_str k_one
theorem dk_notone {S} : dat S (.str "not one") = some (.str (so "not one")) := dat_str k_notone
theorem dk_many {S} : dat S (.str "many") = some (.str (so "many")) := dat_str k_many
theorem dk_from {S} : dat S (.str "from") = some (.str (so "from")) := dat_str k_from
theorem dk_never {S} : dat S (.str "never") = some (.str (so "never")) := dat_str k_never
theorem dk_instance {S} : dat S (.str "instance") = some (.str (so "instance")) := dat_str k_instance
theorem dk_release {S} : dat S (.str "release") = some (.str (so "release")) := dat_str k_release
end Ty

set_option Elab.async false
set_option linter.all false
set_option maxRecDepth 100000
set_option maxHeartbeats 4000000
/-! What a right program is. -/
namespace Ty
open PySem PySem.Spec PyProof.Rows L2 Mv Pf
def cnt (l : List Nat) : Nat := l.foldl (fun a b => a * b) 1
def WfSz (l : List Nat) : Prop := 1 ≤ l.length ∧ l.length ≤ 3 ∧ ∀ x ∈ l, 1 ≤ x ∧ x ≤ 4
def WfEx (nf sw : Nat) : Ex → Prop
  | .value n => n < 4
  | .field f => f < nf
  | .switch s => s < sw
  | _ => True
def WfTest (nf sw : Nat) (t : Test) : Prop := WfEx nf sw t.l ∧ WfEx nf sw t.r
def WfDeed (nf sw : Nat) (qs : List Qu) (serv : Nat) : Deed → Prop
  | .set f e => f < nf ∧ WfEx nf sw e
  | .add f n => f < nf ∧ n < 4
  | .ask q e => q < qs.length ∧ serv < (gt qs q).serv ∧ WfEx nf sw e
  | .answer e => WfEx nf sw e
def WfLine (nf sw : Nat) (qs : List Qu) (serv : Nat) (l : Line) : Prop := (∀ t, l.t = some t → WfTest nf sw t) ∧ WfDeed nf sw qs serv l.d
def Deed.isAsk : Deed → Bool
  | .ask _ _ => true
  | _ => false
def WfLines (nf sw : Nat) (qs : List Qu) (serv : Nat) (ls : List Line) : Prop := 1 ≤ ls.length ∧ ls.length ≤ 8 ∧ (∀ l ∈ ls, WfLine nf sw qs serv l) ∧ ls.countP (fun l => l.d.isAsk) ≤ 2
def WfHand (nf sw : Nat) (qs : List Qu) (serv q : Nat) (h : Option (List Line)) : Prop := ∀ ls, h = some ls → (gt qs q).serv = serv ∧ WfLines nf sw qs serv ls
structure WfVer (sw : Nat) (qs : List Qu) (serv below : Nat) (v : Ver) : Prop where
  sz : WfSz v.sizes
  ul : v.up.length = below
  ub : ∀ x ∈ v.up, x < cnt v.sizes
  dl : v.down.length = if 0 < below then cnt v.sizes else 0
  db : ∀ x ∈ v.down, x < below
  hl : v.hs.length = qs.length
  hw : ∀ q h, v.hs[q]? = some h → WfHand v.sizes.length sw qs serv q h
def belowOf (vs : List Ver) (i : Nat) : Nat := if i = 0 then 0 else cnt (gt vs (i - 1)).sizes
structure WfServ (sw : Nat) (qs : List Qu) (serv : Nat) (s : Serv) : Prop where
  i1 : 1 ≤ s.inst
  i2 : s.inst ≤ 2
  v1 : 1 ≤ s.vers.length
  v3 : s.vers.length ≤ 3
  vw : ∀ i v, s.vers[i]? = some v → WfVer sw qs serv (belowOf s.vers i) v
def WfQu (ns : Nat) (q : Qu) : Prop := q.serv < ns ∧ 1 ≤ q.args ∧ q.args ≤ 4 ∧ 1 ≤ q.ans ∧ q.ans ≤ 4
structure WfRel (svs : List Serv) (sw : Nat) (r : Rel) : Prop where
  vl : r.vers.length = svs.length
  vb : ∀ i x, r.vers[i]? = some x → x < (gt svs i).vers.length
  wl : r.vals.length = sw
  wb : ∀ x ∈ r.vals, x < 2
structure WfD (sw : Nat) (qs : List Qu) (svs : List Serv) (rels : List Rel) : Prop where
  s2 : sw ≤ 2
  q1 : 1 ≤ qs.length
  q3 : qs.length ≤ 3
  qw : ∀ q ∈ qs, WfQu svs.length q
  v1 : 1 ≤ svs.length
  v3 : svs.length ≤ 3
  vw : ∀ i s, svs[i]? = some s → WfServ sw qs i s
  r1 : 1 ≤ rels.length
  r4 : rels.length ≤ 4
  rw : ∀ r ∈ rels, WfRel svs sw r
structure WfP (P : Prog) : Prop where
  d : WfD P.sw P.qs P.svs P.rels
  c1 : 1 ≤ P.clients
  c2 : P.clients ≤ 2
  a : P.asks ≤ 3
  l : P.losses ≤ 2
  db : P.doubles ≤ 2
  cr : P.crashes ≤ 2
theorem cnt_snoc (l : List Nat) (x : Nat) : cnt (l ++ [x]) = cnt l * x := by simp [cnt]
theorem cnt_cons (x : Nat) (l : List Nat) : cnt (x :: l) = x * cnt l := by
  unfold cnt
  rw [List.foldl_cons]
  have : ∀ (l : List Nat) (a b : Nat), l.foldl (fun a b => a * b) (a * b) = a * l.foldl (fun a b => a * b) b := by
    intro l
    induction l with
    | nil => intro a b; rfl
    | cons c l ih => intro a b; rw [List.foldl_cons, List.foldl_cons, Nat.mul_assoc, ih]
  rw [Nat.mul_comm 1 x, this]
theorem cnt_nil : cnt [] = 1 := rfl
theorem cnt_bd : ∀ (l : List Nat), (∀ x ∈ l, 1 ≤ x ∧ x ≤ 4) → 1 ≤ cnt l ∧ cnt l ≤ 4 ^ l.length
  | [], _ => by simp [cnt_nil]
  | x :: l, h => by
    have h1 := h x (by simp)
    have ih := cnt_bd l fun y hy => h y (by simp [hy])
    rw [cnt_cons, List.length_cons, Nat.pow_succ]
    constructor
    · exact Nat.mul_pos h1.1 ih.1
    · rw [Nat.mul_comm]; exact Nat.mul_le_mul ih.2 h1.2
theorem WfSz.cnt {l : List Nat} (h : WfSz l) : 1 ≤ cnt l ∧ cnt l ≤ 64 := by
  have q := cnt_bd l h.2.2
  refine ⟨q.1, Nat.le_trans q.2 ?_⟩
  have : l.length ≤ 3 := h.2.1
  calc 4 ^ l.length ≤ 4 ^ 3 := Nat.pow_le_pow_right (by decide) this
    _ = 64 := by decide
theorem take_succ_get {α : Type} {l : List α} {i : Nat} {x : α} (h : l[i]? = some x) : l.take (i + 1) = l.take i ++ [x] := by
  rw [List.take_succ, h]; rfl
theorem map_get {α : Type} {f : α → MV} {l : List α} {i : Nat} {v : MV} (h : (l.map f)[i]? = some v) : ∃ x, l[i]? = some x ∧ v = f x := by
  rw [List.getElem?_map] at h
  cases e : l[i]? with
  | none => rw [e] at h; cases h
  | some x => rw [e] at h; cases h; exact ⟨x, rfl, rfl⟩
/-! conversions -/
def upN (vs : List Ver) : Nat → Nat → Nat → Nat
  | _, 0, n => n
  | f, k + 1, n => upN vs (f + 1) k (gt (gt vs (f + 1)).up n)
def dnN (vs : List Ver) : Nat → Nat → Nat → Nat
  | _, 0, n => n
  | f, k + 1, n => dnN vs (f - 1) k (gt (gt vs f).down n)
def conv (vs : List Ver) (f l n : Nat) : Nat := if f ≤ l then upN vs f (l - f) n else dnN vs f (f - l) n
theorem below_S {vs : List Ver} {i : Nat} : belowOf vs (i + 1) = cnt (gt vs i).sizes := by
  unfold belowOf
  rw [if_neg (by omega)]; rfl
section
variable {sw serv : Nat} {qs : List Qu} {s : Serv}
theorem WfServ.at (h : WfServ sw qs serv s) {i : Nat} (hi : i < s.vers.length) : WfVer sw qs serv (belowOf s.vers i) (gt s.vers i) := h.vw i _ (gt_get hi)
theorem WfServ.up (h : WfServ sw qs serv s) {f n : Nat} (hf : f + 1 < s.vers.length) (hn : n < cnt (gt s.vers f).sizes) : n < (gt s.vers (f + 1)).up.length ∧ gt (gt s.vers (f + 1)).up n < cnt (gt s.vers (f + 1)).sizes := by
  have w := h.at hf
  have hl := w.ul
  rw [below_S] at hl
  have : n < (gt s.vers (f + 1)).up.length := by omega
  exact ⟨this, w.ub _ (gt_mem this)⟩
theorem WfServ.down (h : WfServ sw qs serv s) {f n : Nat} (hf : f + 1 < s.vers.length) (hn : n < cnt (gt s.vers (f + 1)).sizes) : n < (gt s.vers (f + 1)).down.length ∧ gt (gt s.vers (f + 1)).down n < cnt (gt s.vers f).sizes := by
  have w := h.at hf
  have hl := w.dl
  have hb := w.db
  rw [below_S] at hl hb
  have := (h.at (show f < s.vers.length by omega)).sz.cnt
  rw [if_pos (by omega)] at hl
  have : n < (gt s.vers (f + 1)).down.length := by omega
  exact ⟨this, hb _ (gt_mem this)⟩
theorem upN_lt (h : WfServ sw qs serv s) : ∀ (k f n : Nat), f + k < s.vers.length → n < cnt (gt s.vers f).sizes → upN s.vers f k n < cnt (gt s.vers (f + k)).sizes
  | 0, f, n, _, hn => hn
  | k + 1, f, n, hf, hn => by
    have q := h.up (f := f) (by omega) hn
    have := upN_lt h k (f + 1) _ (by omega) q.2
    unfold upN
    rw [show f + (k + 1) = f + 1 + k by omega]
    exact this
theorem dnN_lt (h : WfServ sw qs serv s) : ∀ (k f n : Nat), k ≤ f → f < s.vers.length → n < cnt (gt s.vers f).sizes → dnN s.vers f k n < cnt (gt s.vers (f - k)).sizes
  | 0, f, n, _, _, hn => hn
  | k + 1, f + 1, n, hk, hf, hn => by
    have q := h.down (f := f) hf hn
    have := dnN_lt h k f _ (by omega) (by omega) q.2
    unfold dnN
    rw [show f + 1 - (k + 1) = f - k by omega]
    exact this
theorem conv_lt (h : WfServ sw qs serv s) {f l n : Nat} (hf : f < s.vers.length) (hl : l < s.vers.length) (hn : n < cnt (gt s.vers f).sizes) : conv s.vers f l n < cnt (gt s.vers l).sizes := by
  unfold conv
  split
  · have := upN_lt h (l - f) f n (by omega) hn
    rw [show f + (l - f) = l by omega] at this
    exact this
  · have := dnN_lt h (f - l) f n (by omega) hf hn
    rw [show f - (f - l) = l by omega] at this
    exact this
end
end Ty

set_option Elab.async false
set_option linter.all false
set_option maxRecDepth 100000
set_option maxHeartbeats 4000000
/-! Runs of handlers, without a program in sight. -/
namespace Ty
open PySem PySem.Spec PyProof.Rows L2 Mv Pf
def vE (fs vals : List Nat) (arg : Nat) (got : Int) : Ex → Int
  | .value n => n
  | .arg => arg
  | .got => got
  | .field f => (gt fs f : Nat)
  | .switch s => (gt vals s : Nat)
def Sg.sem : Sg → Int → Int → Bool
  | .eq, a, b => decide (a = b)
  | .ne, a, b => !decide (a = b)
  | .lt, a, b => decide (a < b)
def hT (fs vals : List Nat) (arg : Nat) (got : Int) : Option Test → Bool
  | none => true
  | some t => t.s.sem (vE fs vals arg got t.l) (vE fs vals arg got t.r)
def numF (sz fs : List Nat) : Nat := (sz.zip fs).foldl (fun n p => n * p.1 + p.2) 0
def digs : List Nat → Nat → List Nat
  | [], _ => []
  | s :: r, n => n % s :: digs r (n / s)
def recF (sz : List Nat) (n : Nat) : List Nat := (digs sz.reverse n).reverse
inductive Out where
  | ask (q a : Nat) | ans (n : Int)
  deriving DecidableEq, Inhabited
def eOut : Out → MV
  | .ask q a => .tup [.str "ask", .int (q : Int), .int (a : Int)]
  | .ans n => .tup [.str "answer", .int n]
def setF (sz fs : List Nat) (f : Nat) (v : Int) : List Nat := fs.set f (v % (gt sz f : Nat)).toNat
def runL (qs : List Qu) (q : Nat) (sz vals : List Nat) (arg : Nat) (got : Int) : List Line → Nat → List Nat → Nat × Nat × Out
  | [], i, fs => (numF sz fs, i, .ans 0)
  | ln :: r, i, fs => if hT fs vals arg got ln.t = true then (match ln.d with
      | .set f e => runL qs q sz vals arg got r (i + 1) (setF sz fs f (vE fs vals arg got e))
      | .add f n => runL qs q sz vals arg got r (i + 1) (setF sz fs f ((gt fs f : Nat) + (n : Int)))
      | .ask q' e => (numF sz fs, i + 1, .ask q' (vE fs vals arg got e % (gt qs q').args).toNat)
      | .answer e => (numF sz fs, i + 1, .ans (vE fs vals arg got e % (gt qs q).ans)))
    else runL qs q sz vals arg got r (i + 1) fs
def runV (qs : List Qu) (v : Ver) (q arg : Nat) (vals : List Nat) (line : Nat) (got : Int) (n : Nat) : Nat × Nat × Out := match gt v.hs q with
  | none => (n, 0, .ans (-1))
  | some rows => runL qs q v.sizes vals arg got (rows.drop line) line (recF v.sizes n)
def eRun (r : Nat × Nat × Out) : MV := .tup [.int (r.1 : Int), .int (r.2.1 : Int), eOut r.2.2]
structure Fit (sz fs : List Nat) : Prop where
  len : fs.length = sz.length
  lt : ∀ i < sz.length, gt fs i < gt sz i
theorem Fit.cons {s : Nat} {sz : List Nat} {f : Nat} {fs : List Nat} (h : f < s) (r : Fit sz fs) : Fit (s :: sz) (f :: fs) := by
  refine ⟨by simp [r.len], fun i hi => ?_⟩
  cases i with
  | zero => exact h
  | succ i => rw [gt_S, gt_S]; exact r.lt i (by simpa using hi)
theorem Fit.uncons {s : Nat} {sz : List Nat} {fs : List Nat} (h : Fit (s :: sz) fs) : ∃ f r, fs = f :: r ∧ f < s ∧ Fit sz r := by
  cases fs with
  | nil => have := h.len; simp at this
  | cons f r =>
    refine ⟨f, r, rfl, h.lt 0 (by simp), by simpa using h.len, fun i hi => ?_⟩
    have := h.lt (i + 1) (by simpa using hi)
    rw [gt_S, gt_S] at this
    exact this
theorem gt_rev {l : List Nat} {i : Nat} (h : i < l.length) : gt l.reverse i = gt l (l.length - 1 - i) := gt_eq (by rw [List.getElem?_reverse h]; exact gt_get (by omega))
theorem Fit.rev {sz fs : List Nat} (h : Fit sz fs) : Fit sz.reverse fs.reverse := by
  refine ⟨by simp [h.len], fun i hi => ?_⟩
  rw [List.length_reverse] at hi
  rw [gt_rev hi, gt_rev (by rw [h.len]; exact hi), h.len]
  exact h.lt _ (by omega)
theorem digs_fit : ∀ (r : List Nat) (n : Nat), (∀ x ∈ r, 1 ≤ x) → Fit r (digs r n)
  | [], n, _ => ⟨rfl, fun i hi => by simp at hi⟩
  | s :: r, n, h => by
    unfold digs
    exact .cons (Nat.mod_lt _ (h s (by simp))) (digs_fit r _ fun x hx => h x (by simp [hx]))
theorem recF_fit {sz : List Nat} {n : Nat} (h : ∀ x ∈ sz, 1 ≤ x) : Fit sz (recF sz n) := by
  have := (digs_fit sz.reverse n fun x hx => h x (by simpa using hx)).rev
  rw [List.reverse_reverse] at this
  exact this
theorem num_lt : ∀ (sz fs : List Nat) (a : Nat), Fit sz fs → (sz.zip fs).foldl (fun n p => n * p.1 + p.2) a < (a + 1) * cnt sz
  | [], fs, a, _ => by simp [cnt_nil]
  | s :: sz, fs, a, h => by
    obtain ⟨f, r, rfl, h1, h2⟩ := h.uncons
    rw [List.zip_cons_cons, List.foldl_cons]
    have ih := num_lt sz r (a * s + f) h2
    dsimp only
    rw [cnt_cons]
    refine Nat.lt_of_lt_of_le ih ?_
    rw [← Nat.mul_assoc]
    refine Nat.mul_le_mul_right _ ?_
    rw [Nat.add_mul, Nat.one_mul]
    omega
theorem numF_lt {sz fs : List Nat} (h : Fit sz fs) : numF sz fs < cnt sz := by
  have := num_lt sz fs 0 h
  rw [Nat.zero_add, Nat.one_mul] at this
  exact this
theorem gt_set {l : List Nat} {i j v : Nat} (h : i < l.length) : gt (l.set i v) j = if i = j then v else gt l j := by
  unfold gt
  rw [List.getD_eq_getElem?_getD, List.getD_eq_getElem?_getD, List.getElem?_set]
  by_cases e : i = j
  · subst e; rw [if_pos rfl, if_pos h, if_pos rfl]; rfl
  · rw [if_neg e, if_neg e]
theorem Fit.set {sz fs : List Nat} (h : Fit sz fs) {f : Nat} {v : Int} (hf : f < sz.length) (hp : ∀ i < sz.length, 1 ≤ gt sz i) : Fit sz (setF sz fs f v) := by
  unfold setF
  refine ⟨by rw [List.length_set]; exact h.len, fun i hi => ?_⟩
  rw [gt_set (by rw [h.len]; exact hf)]
  have hs := hp i hi
  split
  · rename_i e
    subst e
    have h1 := Int.emod_nonneg v (b := (gt sz f : Nat)) (by omega)
    have h2 := Int.emod_lt_of_pos v (b := (gt sz f : Nat)) (by omega)
    omega
  · exact h.lt i hi
/-- what a run's end is like -/
structure RunOk (qs : List Qu) (sz : List Nat) (serv q lo hi : Nat) (r : Nat × Nat × Out) : Prop where
  num : r.1 < cnt sz
  l1 : lo ≤ r.2.1
  l2 : r.2.1 ≤ hi
  ask : ∀ q' a, r.2.2 = .ask q' a → q' < qs.length ∧ serv < (gt qs q').serv ∧ a < (gt qs q').args
  ans : ∀ n, r.2.2 = .ans n → 0 ≤ n ∧ n < (gt qs q).ans
theorem runL_ok {qs : List Qu} {q : Nat} {sz vals : List Nat} {arg : Nat} {got : Int} {sw serv ns : Nat} (hq : ∀ i < qs.length, 1 ≤ (gt qs i).args) (hqa : 1 ≤ (gt qs q).ans) (hp : ∀ i < sz.length, 1 ≤ gt sz i) :
    ∀ (rows : List Line) (i : Nat) (fs : List Nat), Fit sz fs → (∀ l ∈ rows, WfLine sz.length sw qs serv l) → RunOk qs sz serv q (if rows = [] then i else i + 1) (i + rows.length) (runL qs q sz vals arg got rows i fs)
  | [], i, fs, hf, _ => by
    unfold runL
    exact ⟨numF_lt hf, by simp, by simp, fun q' a e => (by cases e), fun n e => by cases e; omega⟩
  | ln :: r, i, fs, hf, hw => by
    have go : ∀ fs', Fit sz fs' → RunOk qs sz serv q (if ln :: r = [] then i else i + 1) (i + (ln :: r).length) (runL qs q sz vals arg got r (i + 1) fs') := fun fs' hf' => by
      have ih := runL_ok (vals := vals) (arg := arg) (got := got) (sw := sw) (serv := serv) (ns := ns) hq hqa hp r (i + 1) fs' hf' fun l hl => hw l (by simp [hl])
      refine ⟨ih.num, ?_, ?_, ih.ask, ih.ans⟩
      · have := ih.l1
        rw [if_neg (by simp)]
        split at this <;> omega
      · have := ih.l2
        rw [List.length_cons]
        omega
    have wl := (hw ln (by simp)).2
    have e0 : (if ln :: r = [] then i else i + 1) = i + 1 := if_neg (by simp)
    rw [e0] at go ⊢
    unfold runL
    split
    · split
      · rename_i f e ed
        rw [ed] at wl
        exact go _ (hf.set wl.1 hp)
      · rename_i f n ed
        rw [ed] at wl
        exact go _ (hf.set wl.1 hp)
      · rename_i q' e ed
        rw [ed] at wl
        have h1 := hq q' wl.1
        refine ⟨numF_lt hf, by simp, by simp, fun q2 a e2 => ?_, fun n e => by cases e⟩
        cases e2
        refine ⟨wl.1, wl.2.1, ?_⟩
        have h2 := Int.emod_nonneg (vE fs vals arg got e) (b := ((gt qs q').args : Nat)) (by omega)
        have h3 := Int.emod_lt_of_pos (vE fs vals arg got e) (b := ((gt qs q').args : Nat)) (by omega)
        omega
      · rename_i e ed
        refine ⟨numF_lt hf, by simp, by simp, fun q' a e => (by cases e), fun n e2 => ?_⟩
        cases e2
        exact ⟨Int.emod_nonneg _ (by omega), Int.emod_lt_of_pos _ (by omega)⟩
    · exact go _ hf
theorem fit_eOut {o : Out} {n : Nat} : fit (eOut o) (n + 1) = true := by
  cases o with
  | ask q a => simp only [eOut, fit_tup, fits_cons, fits_nil, fit_str, fit_int, k_ask, Bool.and_true]
  | ans k => simp only [eOut, fit_tup, fits_cons, fits_nil, fit_str, fit_int, k_answer, Bool.and_true]
theorem fit_eRun {r : Nat × Nat × Out} : fit (eRun r) 60 = true := by
  simp only [eRun, fit_tup, fits_cons, fits_nil, fit_int, fit_eOut, Bool.and_true]
/-! the record with the number of a record is it -/
theorem numF_snoc {sz fs : List Nat} {s f : Nat} (h : fs.length = sz.length) : numF (sz ++ [s]) (fs ++ [f]) = numF sz fs * s + f := by
  unfold numF
  rw [List.zip_append h.symm, List.foldl_append]
  rfl
theorem digs_num : ∀ (rs rf : List Nat), Fit rs rf → digs rs (numF rs.reverse rf.reverse) = rf
  | [], rf, h => by
    have := h.len
    simp at this
    subst this
    rfl
  | s :: r, rf, h => by
    obtain ⟨f, g, rfl, h1, h2⟩ := h.uncons
    rw [List.reverse_cons, List.reverse_cons, numF_snoc (by simp [h2.len])]
    unfold digs
    have e1 : (numF r.reverse g.reverse * s + f) % s = f := by
      rw [Nat.mul_comm, Nat.mul_add_mod, Nat.mod_eq_of_lt h1]
    have e2 : (numF r.reverse g.reverse * s + f) / s = numF r.reverse g.reverse := by
      rw [Nat.mul_comm, Nat.mul_add_div (by omega), Nat.div_eq_of_lt h1, Nat.add_zero]
    rw [e1, e2, digs_num r g h2]
theorem recF_num {sz fs : List Nat} (h : Fit sz fs) : recF sz (numF sz fs) = fs := by
  have := digs_num sz.reverse fs.reverse h.rev
  rw [List.reverse_reverse, List.reverse_reverse] at this
  unfold recF
  rw [this, List.reverse_reverse]
/-! a run through all lines -/
def thruL (qs : List Qu) (q : Nat) (sz vals : List Nat) (arg : Nat) (as : List Int) : List Line → List Nat → Int → List (Nat × Nat) → List (Nat × Nat) × Int × Nat
  | [], fs, _, rows => (rows, 0, numF sz fs)
  | ln :: r, fs, got, rows => if hT fs vals arg got ln.t = true then (match ln.d with
      | .set f e => thruL qs q sz vals arg as r (setF sz fs f (vE fs vals arg got e)) got rows
      | .add f n => thruL qs q sz vals arg as r (setF sz fs f ((gt fs f : Nat) + (n : Int))) got rows
      | .ask q' e => thruL qs q sz vals arg as r fs (gt as rows.length) (rows ++ [(q', (vE fs vals arg got e % (gt qs q').args).toNat)])
      | .answer e => (rows, vE fs vals arg got e % (gt qs q).ans, numF sz fs))
    else thruL qs q sz vals arg as r fs got rows
section
variable {qs : List Qu} {q : Nat} {sz vals : List Nat} {arg : Nat} {got : Int} {ln : Line} {r : List Line} {fs : List Nat} {as : List Int} {rows : List (Nat × Nat)}
theorem thruL_no (h : hT fs vals arg got ln.t = false) : thruL qs q sz vals arg as (ln :: r) fs got rows = thruL qs q sz vals arg as r fs got rows := by
  conv => lhs; unfold thruL
  rw [if_neg (by rw [h]; exact Bool.false_ne_true)]
theorem thruL_yes (h : hT fs vals arg got ln.t = true) : thruL qs q sz vals arg as (ln :: r) fs got rows = (match ln.d with
      | .set f e => thruL qs q sz vals arg as r (setF sz fs f (vE fs vals arg got e)) got rows
      | .add f n => thruL qs q sz vals arg as r (setF sz fs f ((gt fs f : Nat) + (n : Int))) got rows
      | .ask q' e => thruL qs q sz vals arg as r fs (gt as rows.length) (rows ++ [(q', (vE fs vals arg got e % (gt qs q').args).toNat)])
      | .answer e => (rows, vE fs vals arg got e % (gt qs q).ans, numF sz fs)) := by
  conv => lhs; unfold thruL
  rw [if_pos h]
end
def ThruP (qs : List Qu) (q : Nat) (sz vals : List Nat) (arg : Nat) (got : Int) (as : List Int) (ls : List Line) (i : Nat) (fs : List Nat) (rows : List (Nat × Nat)) : Prop :=
  (∃ a fs', Fit sz fs' ∧ runL qs q sz vals arg got ls i fs = (numF sz fs', (runL qs q sz vals arg got ls i fs).2.1, .ans a) ∧ thruL qs q sz vals arg as ls fs got rows = (rows, a, numF sz fs')) ∨
  (∃ k q' a fs', Fit sz fs' ∧ k < ls.length ∧ runL qs q sz vals arg got ls i fs = (numF sz fs', i + k + 1, .ask q' a) ∧ thruL qs q sz vals arg as ls fs got rows = thruL qs q sz vals arg as (ls.drop (k + 1)) fs' (gt as rows.length) (rows ++ [(q', a)]) ∧
        (ls.drop (k + 1)).countP (fun l => l.d.isAsk) + 1 ≤ ls.countP (fun l => l.d.isAsk))
/-- up to the next question, and on behind it -/
theorem thru_run {qs : List Qu} {q : Nat} {sz vals : List Nat} {arg : Nat} {got : Int} {as : List Int} {sw serv : Nat} (hp : ∀ i < sz.length, 1 ≤ gt sz i) :
    ∀ (ls : List Line) (i : Nat) (fs : List Nat) (rows : List (Nat × Nat)), Fit sz fs → (∀ l ∈ ls, WfLine sz.length sw qs serv l) → ThruP qs q sz vals arg got as ls i fs rows
  | [], i, fs, rows, hf, _ => .inl ⟨0, fs, hf, rfl, rfl⟩
  | ln :: r, i, fs, rows, hf, hw => by
    have hw' : ∀ l ∈ r, WfLine sz.length sw qs serv l := fun l hl => hw l (by simp [hl])
    have wl := (hw ln (by simp)).2
    have go : ∀ fs', Fit sz fs' → runL qs q sz vals arg got (ln :: r) i fs = runL qs q sz vals arg got r (i + 1) fs' → thruL qs q sz vals arg as (ln :: r) fs got rows = thruL qs q sz vals arg as r fs' got rows → ThruP qs q sz vals arg got as (ln :: r) i fs rows := fun fs' hf' e1 e2 => by
      rcases thru_run (as := as) (got := got) (vals := vals) (arg := arg) (q := q) hp r (i + 1) fs' rows hf' hw' with ⟨a, f2, h1, h2, h3⟩ | ⟨k, q', a, f2, h1, h2, h3, h4, h5⟩
      · exact .inl ⟨a, f2, h1, by rw [e1]; exact h2, by rw [e2]; exact h3⟩
      · refine .inr ⟨k + 1, q', a, f2, h1, by simp; omega, by rw [e1, h3]; congr 2; omega, by rw [e2, h4]; rfl, ?_⟩
        rw [List.drop_succ_cons, List.countP_cons]
        omega
    cases hc : hT fs vals arg got ln.t with
    | false =>
      refine go fs hf ?_ (thruL_no hc)
      conv => lhs; unfold runL
      rw [if_neg (by rw [hc]; exact Bool.false_ne_true)]
    | true =>
      have er : runL qs q sz vals arg got (ln :: r) i fs = (match ln.d with
          | .set f e => runL qs q sz vals arg got r (i + 1) (setF sz fs f (vE fs vals arg got e))
          | .add f n => runL qs q sz vals arg got r (i + 1) (setF sz fs f ((gt fs f : Nat) + (n : Int)))
          | .ask q' e => (numF sz fs, i + 1, .ask q' (vE fs vals arg got e % (gt qs q').args).toNat)
          | .answer e => (numF sz fs, i + 1, .ans (vE fs vals arg got e % (gt qs q).ans))) := by
        conv => lhs; unfold runL
        rw [if_pos hc]
      have et := thruL_yes (qs := qs) (q := q) (sz := sz) (r := r) (as := as) (rows := rows) hc
      cases ed : ln.d with
      | set f e =>
        rw [ed] at er et wl
        exact go _ (hf.set wl.1 hp) er et
      | add f m =>
        rw [ed] at er et wl
        exact go _ (hf.set wl.1 hp) er et
      | ask q' e =>
        rw [ed] at er et
        refine .inr ⟨0, q', _, fs, hf, by simp, er, et, ?_⟩
        rw [List.drop_succ_cons, List.drop_zero, List.countP_cons, ed]
        simp [Deed.isAsk]
      | answer e =>
        rw [ed] at er et
        exact .inl ⟨_, fs, hf, by rw [er], et⟩
def eQA (p : Nat × Nat) : MV := .tup [.int (p.1 : Int), .int (p.2 : Int)]
def eThr (r : List (Nat × Nat) × Int × Nat) : MV := .tup [.frz (r.1.map eQA), .int r.2.1, .int (r.2.2 : Int)]
theorem fit_eThr {r : List (Nat × Nat) × Int × Nat} : fit (eThr r) 60 = true := by
  have h : fits (r.1.map eQA) 58 = true := fits_map (fun x => by simp only [eQA, fit_tup, fits_cons, fits_nil, fit_int, Bool.and_true]) _
  simp only [eThr, fit_tup, fit_frz, fits_cons, fits_nil, fit_int, h, Bool.and_true]
theorem cnt_append (a b : List Nat) : cnt (a ++ b) = cnt a * cnt b := by
  induction a with
  | nil => rw [List.nil_append, cnt_nil, Nat.one_mul]
  | cons x a ih => rw [List.cons_append, cnt_cons, cnt_cons, ih, Nat.mul_assoc]
theorem cnt_rev : ∀ l : List Nat, cnt l.reverse = cnt l
  | [] => rfl
  | x :: l => by rw [List.reverse_cons, cnt_append, cnt_rev l, cnt_cons, cnt_cons, cnt_nil, Nat.mul_one, Nat.mul_comm]
theorem num_digs : ∀ (rs : List Nat) (n : Nat), (∀ x ∈ rs, 1 ≤ x) → n < cnt rs → numF rs.reverse (digs rs n).reverse = n
  | [], n, _, h => by
    rw [cnt_nil] at h
    have : n = 0 := by omega
    subst this
    rfl
  | s :: r, n, hp, h => by
    have hs := hp s (by simp)
    rw [cnt_cons] at h
    unfold digs
    rw [List.reverse_cons, List.reverse_cons, numF_snoc (by simp [(digs_fit r (n / s) fun x hx => hp x (by simp [hx])).len]), num_digs r (n / s) (fun x hx => hp x (by simp [hx])) (Nat.div_lt_of_lt_mul h)]
    have := Nat.div_add_mod n s
    rw [Nat.mul_comm] at this
    exact this
theorem numF_rec {sz : List Nat} {n : Nat} (hp : ∀ x ∈ sz, 1 ≤ x) (h : n < cnt sz) : numF sz (recF sz n) = n := by
  have := num_digs sz.reverse n (fun x hx => hp x (by simpa using hx)) (by rw [cnt_rev]; exact h)
  rw [List.reverse_reverse] at this
  exact this
end Ty

set_option Elab.async false
set_option linter.all false
set_option maxRecDepth 100000
set_option maxHeartbeats 4000000
/-! Whole questions, without a program in sight. -/
namespace Ty
open PySem PySem.Spec PyProof.Rows L2 Mv Pf
def verOf (P : Prog) (rel : Rel) (q : Nat) : Ver := gt (gt P.svs (gt P.qs q).serv).vers (gt rel.vers (gt P.qs q).serv)
def runQ (P : Prog) (rel : Rel) (q arg line : Nat) (got : Int) (recs : List Nat) : Nat × Nat × Out := runV P.qs (verOf P rel q) q arg rel.vals line got (gt recs (gt P.qs q).serv)
def ansLoop (P : Prog) (rel : Rel) (rec : List Nat → Nat → Nat → List Nat × Int) (q arg : Nat) : Nat → List Nat → Nat → Int → List Nat × Int
  | 0, recs, _, _ => (recs, 0)
  | j + 1, recs, line, got => match (runQ P rel q arg line got recs).2.2 with
    | .ans a => (recs.set (gt P.qs q).serv (runQ P rel q arg line got recs).1, a)
    | .ask q' a' => ansLoop P rel rec q arg j (rec (recs.set (gt P.qs q).serv (runQ P rel q arg line got recs).1) q' a').1 (runQ P rel q arg line got recs).2.1 (rec (recs.set (gt P.qs q).serv (runQ P rel q arg line got recs).1) q' a').2
def ansF (P : Prog) (rel : Rel) : Nat → List Nat → Nat → Nat → List Nat × Int
  | 0, recs, _, _ => (recs, 0)
  | k + 1, recs, q, arg => ansLoop P rel (ansF P rel k) q arg 9 recs 0 (-1)
section
variable {P : Prog} {rel : Rel} {rec rec' : List Nat → Nat → Nat → List Nat × Int} {q arg j line : Nat} {recs : List Nat} {got : Int}
theorem ansLoop_ans {a : Int} (h : (runQ P rel q arg line got recs).2.2 = .ans a) : ansLoop P rel rec q arg (j + 1) recs line got = (recs.set (gt P.qs q).serv (runQ P rel q arg line got recs).1, a) := by
  conv => lhs; unfold ansLoop
  rw [h]
theorem ansLoop_ask {q' a' : Nat} (h : (runQ P rel q arg line got recs).2.2 = .ask q' a') : ansLoop P rel rec q arg (j + 1) recs line got =
    ansLoop P rel rec q arg j (rec (recs.set (gt P.qs q).serv (runQ P rel q arg line got recs).1) q' a').1 (runQ P rel q arg line got recs).2.1 (rec (recs.set (gt P.qs q).serv (runQ P rel q arg line got recs).1) q' a').2 := by
  conv => lhs; unfold ansLoop
  rw [h]
end
theorem gt_none {α : Type} [Inhabited α] {l : List α} {i : Nat} (h : l.length ≤ i) : gt l i = default := by
  unfold gt
  rw [List.getD_eq_getElem?_getD, List.getElem?_eq_none h]
  rfl
section
variable {P : Prog} {rel : Rel} (hw : WfD P.sw P.qs P.svs P.rels) (hr : WfRel P.svs P.sw rel)
include hw hr
theorem ver_wf {q : Nat} (hq : q < P.qs.length) : WfVer P.sw P.qs (gt P.qs q).serv (belowOf (gt P.svs (gt P.qs q).serv).vers (gt rel.vers (gt P.qs q).serv)) (verOf P rel q) ∧ gt rel.vers (gt P.qs q).serv < (gt P.svs (gt P.qs q).serv).vers.length ∧ (gt P.qs q).serv < P.svs.length := by
  have hs := (hw.qw _ (gt_mem hq)).1
  have hv := hr.vb _ _ (gt_get (show (gt P.qs q).serv < rel.vers.length by rw [hr.vl]; exact hs))
  exact ⟨(hw.vw _ _ (gt_get hs)).at hv, hv, hs⟩
/-- what a run of a question tells -/
theorem runQ_ok {q arg line : Nat} {got : Int} {recs : List Nat} (hq : q < P.qs.length) :
    (gt (verOf P rel q).hs q = none ∧ runQ P rel q arg line got recs = (gt recs (gt P.qs q).serv, 0, .ans (-1))) ∨
    (∃ rows, gt (verOf P rel q).hs q = some rows ∧ rows.length ≤ 8 ∧ rows.countP (fun l => l.d.isAsk) ≤ 2 ∧ runQ P rel q arg line got recs = runL P.qs q (verOf P rel q).sizes rel.vals arg got (rows.drop line) line (recF (verOf P rel q).sizes (gt recs (gt P.qs q).serv)) ∧
      ((∃ a, (runQ P rel q arg line got recs).2.2 = .ans a ∧ 0 ≤ a ∧ a < (gt P.qs q).ans) ∨
       (∃ q' a', (runQ P rel q arg line got recs).2.2 = .ask q' a' ∧ q' < P.qs.length ∧ (gt P.qs q).serv < (gt P.qs q').serv ∧ a' < (gt P.qs q').args ∧ line < rows.length ∧ line < (runQ P rel q arg line got recs).2.1 ∧ (runQ P rel q arg line got recs).2.1 ≤ rows.length ∧
          (rows.drop (runQ P rel q arg line got recs).2.1).countP (fun l => l.d.isAsk) + 1 ≤ (rows.drop line).countP (fun l => l.d.isAsk)))) := by
  obtain ⟨wv, hv, hs⟩ := ver_wf hw hr hq
  have wh := wv.hw q _ (gt_get (by rw [wv.hl]; exact hq))
  cases hh : gt (verOf P rel q).hs q with
  | none =>
    refine .inl ⟨rfl, ?_⟩
    unfold runQ runV
    rw [hh]
  | some rows =>
    obtain ⟨w1, w2, w3, w4, w5⟩ := wh rows hh
    have hp : ∀ i < (verOf P rel q).sizes.length, 1 ≤ gt (verOf P rel q).sizes i := fun i hi => (wv.sz.2.2 _ (gt_mem hi)).1
    have er : runQ P rel q arg line got recs = runL P.qs q (verOf P rel q).sizes rel.vals arg got (rows.drop line) line (recF (verOf P rel q).sizes (gt recs (gt P.qs q).serv)) := by
      unfold runQ runV
      rw [hh]
    refine .inr ⟨rows, rfl, w3, w5, er, ?_⟩
    have ok := runL_ok (q := q) (ns := 0) (vals := rel.vals) (arg := arg) (got := got) (fun i hi => (hw.qw _ (gt_mem hi)).2.1) (hw.qw _ (gt_mem hq)).2.2.2.1 hp (rows.drop line) line (recF (verOf P rel q).sizes (gt recs (gt P.qs q).serv)) (recF_fit fun x hx => (wv.sz.2.2 x hx).1) (fun l hl => w4 l (List.mem_of_mem_drop hl))
    have key := thru_run (q := q) (vals := rel.vals) (arg := arg) (got := got) (as := []) hp (rows.drop line) line (recF (verOf P rel q).sizes (gt recs (gt P.qs q).serv)) [] (recF_fit fun x hx => (wv.sz.2.2 x hx).1) (fun l hl => w4 l (List.mem_of_mem_drop hl))
    rw [← er] at ok
    rcases key with ⟨a, f2, h1, h2, h3⟩ | ⟨k, q', a, f2, h1, h2, h3, h4, h5⟩
    · rw [← er] at h2
      have e : (runQ P rel q arg line got recs).2.2 = .ans a := by rw [h2]
      exact .inl ⟨a, e, ok.ans a e⟩
    · rw [← er] at h3
      have e : (runQ P rel q arg line got recs).2.2 = .ask q' a := by rw [h3]
      have e2 : (runQ P rel q arg line got recs).2.1 = line + k + 1 := by rw [h3]
      obtain ⟨o1, o2, o3⟩ := ok.ask q' a e
      rw [List.length_drop] at h2
      rw [List.drop_drop, show line + (k + 1) = line + k + 1 by omega, ← e2] at h5
      exact .inr ⟨q', a, e, o1, o2, o3, by omega, by omega, by omega, h5⟩
theorem loop_congr {rec rec' : List Nat → Nat → Nat → List Nat × Int} {q arg : Nat} (hq : q < P.qs.length) (h : ∀ recs q' a', q' < P.qs.length → (gt P.qs q).serv < (gt P.qs q').serv → rec recs q' a' = rec' recs q' a') :
    ∀ (j : Nat) (recs : List Nat) (line : Nat) (got : Int), ansLoop P rel rec q arg j recs line got = ansLoop P rel rec' q arg j recs line got
  | 0, recs, line, got => rfl
  | j + 1, recs, line, got => by
    rcases runQ_ok hw hr (arg := arg) (line := line) (got := got) (recs := recs) hq with ⟨h1, h2⟩ | ⟨rows, h1, h2, h3, h4, h5⟩
    · have e : (runQ P rel q arg line got recs).2.2 = .ans (-1) := by rw [h2]
      rw [ansLoop_ans e, ansLoop_ans e]
    · rcases h5 with ⟨a, e, _⟩ | ⟨q', a', e, e1, e2, _⟩
      · rw [ansLoop_ans e, ansLoop_ans e]
      · rw [ansLoop_ask e, ansLoop_ask e, h _ _ _ e1 e2]
        exact loop_congr hq h j _ _ _
theorem ansF_up : ∀ (k q : Nat) (recs : List Nat) (arg : Nat), q < P.qs.length → P.svs.length - (gt P.qs q).serv ≤ k → ansF P rel k recs q arg = ansF P rel (k + 1) recs q arg
  | 0, q, recs, arg, hq, hk => by
    have := (hw.qw _ (gt_mem hq)).1
    omega
  | k + 1, q, recs, arg, hq, hk => by
    show ansLoop P rel (ansF P rel k) q arg 9 recs 0 (-1) = ansLoop P rel (ansF P rel (k + 1)) q arg 9 recs 0 (-1)
    exact loop_congr hw hr hq (fun recs q' a' h1 h2 => ansF_up k q' recs a' h1 (by omega)) _ _ _ _
theorem loop_keeps {rec : List Nat → Nat → Nat → List Nat × Int} {q arg : Nat} (hq : q < P.qs.length) (h : ∀ recs q' a', q' < P.qs.length → (gt P.qs q).serv < (gt P.qs q').serv → (rec recs q' a').1.length = recs.length ∧ ∀ i < (gt P.qs q').serv, gt (rec recs q' a').1 i = gt recs i) :
    ∀ (j : Nat) (recs : List Nat) (line : Nat) (got : Int), (ansLoop P rel rec q arg j recs line got).1.length = recs.length ∧ ∀ i < (gt P.qs q).serv, gt (ansLoop P rel rec q arg j recs line got).1 i = gt recs i
  | 0, recs, line, got => ⟨rfl, fun _ _ => rfl⟩
  | j + 1, recs, line, got => by
    have hset : ∀ v i, i < (gt P.qs q).serv → gt (recs.set (gt P.qs q).serv v) i = gt recs i := fun v i hi => by
      generalize (gt P.qs q).serv = m at hi
      unfold gt
      rw [List.getD_eq_getElem?_getD, List.getD_eq_getElem?_getD, List.getElem?_set_ne (by omega)]
    rcases runQ_ok hw hr (arg := arg) (line := line) (got := got) (recs := recs) hq with ⟨h1, h2⟩ | ⟨rows, h1, h2, h3, h4, h5⟩
    · have e : (runQ P rel q arg line got recs).2.2 = .ans (-1) := by rw [h2]
      rw [ansLoop_ans e]
      exact ⟨List.length_set .., fun i hi => hset _ i hi⟩
    · rcases h5 with ⟨a, e, _⟩ | ⟨q', a', e, e1, e2, _⟩
      · rw [ansLoop_ans e]
        exact ⟨List.length_set .., fun i hi => hset _ i hi⟩
      · rw [ansLoop_ask e]
        obtain ⟨i1, i2⟩ := loop_keeps hq h j (rec (recs.set (gt P.qs q).serv (runQ P rel q arg line got recs).1) q' a').1 (runQ P rel q arg line got recs).2.1 (rec (recs.set (gt P.qs q).serv (runQ P rel q arg line got recs).1) q' a').2
        obtain ⟨k1, k2⟩ := h (recs.set (gt P.qs q).serv (runQ P rel q arg line got recs).1) q' a' e1 e2
        exact ⟨by rw [i1, k1, List.length_set], fun i hi => by rw [i2 i hi, k2 i (by omega), hset _ i hi]⟩
theorem ansF_keeps : ∀ (k q : Nat) (recs : List Nat) (arg : Nat), q < P.qs.length → (ansF P rel k recs q arg).1.length = recs.length ∧ ∀ i < (gt P.qs q).serv, gt (ansF P rel k recs q arg).1 i = gt recs i
  | 0, q, recs, arg, hq => ⟨rfl, fun _ _ => rfl⟩
  | k + 1, q, recs, arg, hq => loop_keeps hw hr hq (fun recs q' a' h1 h2 => ansF_keeps k q' recs a' h1) 9 recs 0 (-1)
/-- the answer, if the lines suffice -/
theorem loop_ans {rec : List Nat → Nat → Nat → List Nat × Int} {q arg : Nat} (hq : q < P.qs.length) {rows : List Line} (hh : gt (verOf P rel q).hs q = some rows) :
    ∀ (j : Nat) (recs : List Nat) (line : Nat) (got : Int), rows.length - line < j → 0 ≤ (ansLoop P rel rec q arg j recs line got).2 ∧ (ansLoop P rel rec q arg j recs line got).2 < (gt P.qs q).ans
  | 0, recs, line, got, h => by omega
  | j + 1, recs, line, got, h => by
    rcases runQ_ok hw hr (arg := arg) (line := line) (got := got) (recs := recs) hq with ⟨h1, h2⟩ | ⟨rows', h1, h2, h3, h4, h5⟩
    · rw [h1] at hh; cases hh
    · rw [hh] at h1
      cases h1
      rcases h5 with ⟨a, e, b1, b2⟩ | ⟨q', a', e, e1, e2, e3, e4, e5, e6, _⟩
      · rw [ansLoop_ans e]
        exact ⟨b1, b2⟩
      · rw [ansLoop_ask e]
        exact loop_ans hq hh j _ _ _ (by omega)
theorem ansF_ans {k q arg : Nat} {recs : List Nat} (hq : q < P.qs.length) :
    (gt (verOf P rel q).hs q = none ∧ ansF P rel (k + 1) recs q arg = (recs, -1)) ∨ (∃ rows, gt (verOf P rel q).hs q = some rows ∧ 0 ≤ (ansF P rel (k + 1) recs q arg).2 ∧ (ansF P rel (k + 1) recs q arg).2 < (gt P.qs q).ans) := by
  rcases runQ_ok hw hr (arg := arg) (line := 0) (got := -1) (recs := recs) hq with ⟨h1, h2⟩ | ⟨rows, h1, h2, h3, h4, h5⟩
  · refine .inl ⟨h1, ?_⟩
    have e : (runQ P rel q arg 0 (-1) recs).2.2 = .ans (-1) := by rw [h2]
    show ansLoop P rel (ansF P rel k) q arg 9 recs 0 (-1) = _
    rw [ansLoop_ans e, h2]
    dsimp only
    have : recs.set (gt P.qs q).serv (gt recs (gt P.qs q).serv) = recs := by
      apply List.ext_getElem?
      intro i
      rw [List.getElem?_set]
      split
      · rename_i e
        subst e
        split
        · rename_i hi; exact (gt_get hi).symm
        · rename_i hi; rw [List.getElem?_eq_none (by omega)]
      · rfl
    rw [this]
  · exact .inr ⟨rows, h1, loop_ans hw hr hq h1 9 recs 0 (-1) (by omega)⟩
end
end Ty

set_option Elab.async false
set_option linter.all false
set_option maxRecDepth 100000
set_option maxHeartbeats 4000000
local macro_rules
  | `(tactic| exists $ts,*) => `(tactic| simp (implicitDefEqProofs := false) (disch := first | assumption | omega | (simp only [Pf.l_lenS, Pf.l_len0, Pf.l_len_map, Ty.k_value, Ty.k_arg, Ty.k_got, Ty.k_field, Ty.k_switch, Ty.k_eq, Ty.k_ne, Ty.k_lt, Ty.k_set, Ty.k_add, Ty.k_ask, Ty.k_answer, Ty.k_lose, Ty.k_double, Ty.k_crash, Ty.k_take, Ty.k_go, Ty.k_step, Ty.k_turnback, Ty.k_unstep, Ty.k_raise, Ty.k_flip, Ty.k_move, Ty.k_turn, Ty.k_turned, Ty.k_drained, Ty.k_final, Ty.k_asked, Ty.k_answered, Ty.k_returned, Ty.k_one, Ty.k_notone, Ty.k_many, Ty.k_from, Ty.k_never, Ty.k_instance, Ty.k_release] <;> omega)) only [Pf.kOpt_some, Pf.look_ap, Pf.lkO_l, Pf.lkO_r, Pf.var_ap, Pf.c_ap, Pf.op_ap, Pf.op1_ap, Pf.op2_ap, Pf.tst_ap, Pf.kB_ap, Pf.asB_ap, Pf.kTo_some, Pf.tru_ap, Pf.kTru_ap, Pf.truB_bl, Pf.truB_non, Pf.truB_int, Pf.truB_tup, Pf.truB_frz, Pf.andV_ap, Pf.kAndV_ap, Pf.kAndB_t, Pf.kAndB_f, Pf.orV_ap, Pf.kOrV_ap, Pf.kOrB_t, Pf.kOrB_f, Pf.notV_ap, Pf.kNotV_ap, Pf.kNotB_ap, Pf.and_ap, Pf.kAnd_t, Pf.kAnd_f, Pf.or_ap, Pf.kOr_t, Pf.kOr_f, Pf.not_ap, Pf.kNot_ap, Pf.if_ap, Pf.kIf_t, Pf.kIf_f, Pf.un_ap, Pf.kUn_ap, Pf.neg_ap, Pf.chain_ap, Pf.kCh1_ap, Pf.kCh2_ap, Pf.kCh3_t, Pf.kCh3_f, Pf.maNil_ap, Pf.maCons_ap, Pf.kArg_ap, Pf.kArg2_ap, Pf.tup_ap, Pf.kTup_ap, Pf.lst_ap, Pf.kLst_ap, Pf.call_ap, Pf.kCall_ap, Pf.cb_ap, Pf.kCB_ap, Pf.isi_ap, Pf.kIsi_ap, Pf.kIsi2_some, Pf.tyN_int, Pf.tyN_bl, Pf.tyN_non, Pf.tyN_str, Pf.tyN_tup, Pf.tyN_frz, Pf.tyB_ii, Pf.tyB_ib, Pf.tyB_bi, Pf.tyB_bb, Pf.tyB_tt, Pf.bm_ap, Pf.kBM_ap, Pf.kBM2_ap, Pf.msNil_ap, Pf.seq_ap, Pf.nx_mk, Pf.rt_mk, Pf.bk_mk, Pf.ct_mk, Pf.ret_ap, Pf.retN_ap, Pf.brk_ap, Pf.cont_ap, Pf.set_ap, Pf.kSet_ap, Pf.expr_ap, Pf.kDrop_ap, Pf.ifS_ap, Pf.kIfS_t, Pf.kIfS_f, Pf.sub_ap, Pf.kSub1_ap, Pf.kSub2_ap, Pf.kSub3_ap, Pf.defW_ap, Pf.add_ii, Pf.add_tt, Pf.sub_ii, Pf.mul_lt, Pf.mul_rt, Pf.mod_ii, Pf.fdiv_ii, Pf.lt_ii, Pf.le_ii, Pf.gt_ii, Pf.ge_ii, Pf.bId_ap, Pf.eq_ap, Pf.ne_ap, Pf.kEq_some, Pf.dat_int, Pf.dat_bl, Pf.dat_non, Pf.dat_str, Pf.dat_tup, Pf.eqv_ii, Pf.eqv_ss, Pf.eqv_bb, Pf.kO_some, Pf.ix_t, Pf.kL_some, Pf.at_0, Pf.at_1, Pf.at_2, Pf.at_3, Pf.at_4, Pf.at_5, Pf.len_t, Pf.list_t, Pf.list_f, Pf.tuple_t, Pf.int_i, Pf.int_b, Pf.l_set0, Pf.l_setS, Pf.l_get0, Pf.l_getS, Pf.l_len0, Pf.l_lenS, Pf.l_app0, Pf.l_appS, Pf.l_map0, Pf.l_mapS, Pf.l_len_map, Pf.l_rep0, Pf.l_repS, Pf.start_ap, Pf.wipe_nil, Pf.wipe_cons, Pf.sd_same, Pf.sd_ne, Pf.supd_supd, Pf.o_map_some, Pf.ixN_nat, Pf.ixN_0, Pf.ixN_1, Pf.ixN_2, Pf.ixN_3, Pf.for_ap, Pf.kFor_ap, Pf.iter_ap, Pf.kIter_t, Pf.kIter_f, Pf.rng1_ap, Pf.kRng1_ap, Pf.rng2_ap, Pf.kRng2_ap, Pf.rev_ap, Pf.kRev_t, Pf.kRev_f, Pf.kNew_ap, Pf.lc_ap, Pf.kLc_ap, Pf.yes_ap, Pf.bind_nm, Pf.bind_tp, Pf.bindL_nil, Pf.bindL_cons, Pf.kBL_ap, Pf.pat_ap, Pf.kPat_ap, Pf.aug_ap, Pf.kAugO_ap, Pf.kAug1_ap, Pf.iadd_ii, Pf.rng_len, Pf.isL_r, Pf.kIsL_some, Pf.ix_r, Pf.kIx_some, Pf.len_r, Pf.kLen_some, Pf.list_r, Pf.kList_some, Pf.tuple_r, Pf.kTuple_some, Pf.put_r, Pf.kPut_l, Pf.kPutO_some, Pf.append_r, Pf.kApp_l, Pf.pop0_r, Pf.kPop0_l, Pf.kIter_r, Pf.kRev_r, Pf.kIterO_some, Pf.id_ap, Pf.dat_r, Pf.kDatL_some, Pf.bind_tpr, Pf.kBindO_some, Pf.disp_ap, Pf.dictN_ap, Pf.zip_nil, Pf.zip_cons, Pf.dget_ap, Pf.kDg_d, Pf.look_if, Pf.is_bb, Pf.is_nn, Pf.is_in, Pf.is_sn, Pf.is_tn, Pf.is_rn, Pf.isnt_bb, Pf.isnt_nn, Pf.isnt_in, Pf.isnt_sn, Pf.isnt_tn, Pf.isnt_rn, Pf.fld_ap, Pf.kFld_ap, Pf.kFldO_i, Pf.meth_ap, Pf.kMeth_ap, Pf.kMethO_i, Pf.kMethA_ap, Pf.make_ap, Pf.sl_ap, Pf.kSl1_ap, Pf.kSl2_ap, Pf.kSl3_ap, Pf.pNo_ap, Pf.pYes_ap, Pf.kPart_ap, Pf.revL_ap, Pf.kRvL_ap, Pf.kRvO_some, Pf.kRvL_f, Pf.dat_frz, Pf.ix_f, Pf.len_f, Pf.tuple_f, Pf.bind_tpf, Pf.lstV_ap, Pf.kLstV_ap, Pf.listVV_t, Pf.listVV_f, Pf.listVV_r, Pf.kListV_some, Pf.addVV_ii, Pf.addVV_tt, Pf.addVV_ff, Pf.slV_ap, Pf.kSlV1_ap, Pf.kSlV2_ap, Pf.kSlV3_ap, Pf.slVV_t, Pf.slVV_f, Pf.slVV_r, Pf.kCut_some, Pf.revV_ap, Pf.kRvV_ap, Pf.revVV_f, Pf.revVV_r, Pf.kRvVO_some, Pf.kVal_ap, Pf.lcV_ap, Pf.kLcV_ap, Pf.fz_ap, Pf.fzK_r, Pf.kFzO_l, Pf.fzK_t, Pf.fzK_i, Pf.fzK_n, Pf.fzK_f, Pf.enum_ap, Pf.kEnum_ap, Pf.kEnumO_some, Pf.seqI_t, Pf.seqI_f, Pf.seqI_r, Pf.kSeqI_some, Pf.zip_ap, Pf.kZip_ap, Pf.kZipO_some, Pf.allN_ap, Pf.kAllN_ap, Pf.kAllNO_some, Pf.fldS_ap, Pf.kFldS1_ap, Pf.kFldS2_ap, Pf.fldPut_r, Pf.kFldO2_i, Pf.makeK_ap, Pf.kNonR_ap, Pf.kMkK_ap, Pf.kMk_ap, Pf.put_0, Pf.put_S, Pf.sets_nil, Pf.sets_cons, Pf.put_s, Pf.kPutD_d, Pf.at_lastA, Pf.in_str2, Pf.in_str3, Pf.notin_str2, Pf.c_0, Pf.c_1, Pf.c_2, Pf.c_3, Pf.c_4, Pf.c_5, Pf.c_6, Pf.c_7, Pf.c_8, Pf.c_9, Pf.c_10, Pf.kWh_t, Pf.kWh_f, Pf.at_neg1, Pf.at_neg2, Pf.at_neg3, Pf.cut_to, Pf.cut_from, Pf.cut_ft, Pf.cut_to1, Pf.cut_to2, Pf.cut_to3, Pf.cut_to4, Pf.cut_from1, Pf.cut_from2, Pf.cut_from5, Pf.l_take0, Pf.l_takeS, Pf.l_takeN, Pf.l_drop0, Pf.l_dropS, Pf.l_dropN, Pf.revT_ap, Pf.kRvT_ap, Pf.revT_t, Pf.revT_f, Pf.revT_r, Pf.revA_ap, Pf.kRvA_ap, Pf.revA_t, Pf.revA_f, Pf.revA_r, Pf.max2_ii, Pf.min2_ii, Pf.cut_fromS, Ty.gt_0, Ty.gt_S, Ty.at_gt, Ty.at_gtI, Ty.at_lastD, Ty.eI_ap, Ty.eL_ap, Ty.eO_n, Ty.eO_s, Ty.eHand_n, Ty.eHand_s, Ty.eVer_ap, Ty.eServ_ap, Ty.eQu_ap, Ty.eRel_ap, Ty.eLine_ap, Ty.eTest_ap, Ty.toN_cast, Ty.toN_add, Ty.toN_add1, Ty.toN_add2, Ty.toN_1add, Ty.toN_sub1, Ty.dk_value, Ty.dk_arg, Ty.dk_got, Ty.dk_field, Ty.dk_switch, Ty.dk_eq, Ty.dk_ne, Ty.dk_lt, Ty.dk_set, Ty.dk_add, Ty.dk_ask, Ty.dk_answer, Ty.dk_lose, Ty.dk_double, Ty.dk_crash, Ty.dk_take, Ty.dk_go, Ty.dk_step, Ty.dk_turnback, Ty.dk_unstep, Ty.dk_raise, Ty.dk_flip, Ty.dk_move, Ty.dk_turn, Ty.dk_turned, Ty.dk_drained, Ty.dk_final, Ty.dk_asked, Ty.dk_answered, Ty.dk_returned, Ty.dk_one, Ty.dk_notone, Ty.dk_many, Ty.dk_from, Ty.dk_never, Ty.dk_instance, Ty.dk_release, Rw.t_Scope_fields, Rw.t_Scope_questions, Rw.t_Scope_service, Rw.t_Scope_switches, Rw.t_Program_asks, Rw.t_Program_clients, Rw.t_Program_crashes, Rw.t_Program_doubles, Rw.t_Program_losses, Rw.t_Program_questions, Rw.t_Program_releases, Rw.t_Program_services, Rw.t_Program_switches, List.lookup_nil, eq_self, Bool.or_true, Bool.true_or, Bool.or_false, Bool.false_or, Bool.and_true, Bool.true_and, ge_iff_le, String.reduceEq, Int.reduceEq, if_true, if_false, Nat.reduceEqDiff, decide_not, beq_self_eq_true, true_and, and_true, decide_true, decide_false, Int.reduceLT, Int.reduceLE, Int.reduceNeg, Int.reduceAdd, Int.reduceSub, Int.reduceMul, Int.reducePow, Nat.reduceAdd, Nat.reduceSub, Nat.reduceLT, Nat.reduceLeDiff, Int.reduceToNat, Bool.not_true, Bool.not_false, Bool.not_not, $[$ts:term],*])
local macro_rules
  | `(tactic| exists Nat, $ts,*) => `(tactic| try simp (implicitDefEqProofs := false) (disch := first | assumption | omega | (simp only [Pf.l_lenS, Pf.l_len0, Pf.l_len_map, Ty.k_value, Ty.k_arg, Ty.k_got, Ty.k_field, Ty.k_switch, Ty.k_eq, Ty.k_ne, Ty.k_lt, Ty.k_set, Ty.k_add, Ty.k_ask, Ty.k_answer, Ty.k_lose, Ty.k_double, Ty.k_crash, Ty.k_take, Ty.k_go, Ty.k_step, Ty.k_turnback, Ty.k_unstep, Ty.k_raise, Ty.k_flip, Ty.k_move, Ty.k_turn, Ty.k_turned, Ty.k_drained, Ty.k_final, Ty.k_asked, Ty.k_answered, Ty.k_returned, Ty.k_one, Ty.k_notone, Ty.k_many, Ty.k_from, Ty.k_never, Ty.k_instance, Ty.k_release] <;> omega)) only [Pf.kOpt_some, Pf.look_ap, Pf.lkO_l, Pf.lkO_r, Pf.var_ap, Pf.c_ap, Pf.op_ap, Pf.op1_ap, Pf.op2_ap, Pf.tst_ap, Pf.kB_ap, Pf.asB_ap, Pf.kTo_some, Pf.tru_ap, Pf.kTru_ap, Pf.truB_bl, Pf.truB_non, Pf.truB_int, Pf.truB_tup, Pf.truB_frz, Pf.andV_ap, Pf.kAndV_ap, Pf.kAndB_t, Pf.kAndB_f, Pf.orV_ap, Pf.kOrV_ap, Pf.kOrB_t, Pf.kOrB_f, Pf.notV_ap, Pf.kNotV_ap, Pf.kNotB_ap, Pf.and_ap, Pf.kAnd_t, Pf.kAnd_f, Pf.or_ap, Pf.kOr_t, Pf.kOr_f, Pf.not_ap, Pf.kNot_ap, Pf.if_ap, Pf.kIf_t, Pf.kIf_f, Pf.un_ap, Pf.kUn_ap, Pf.neg_ap, Pf.chain_ap, Pf.kCh1_ap, Pf.kCh2_ap, Pf.kCh3_t, Pf.kCh3_f, Pf.maNil_ap, Pf.maCons_ap, Pf.kArg_ap, Pf.kArg2_ap, Pf.tup_ap, Pf.kTup_ap, Pf.lst_ap, Pf.kLst_ap, Pf.call_ap, Pf.kCall_ap, Pf.cb_ap, Pf.kCB_ap, Pf.isi_ap, Pf.kIsi_ap, Pf.kIsi2_some, Pf.tyN_int, Pf.tyN_bl, Pf.tyN_non, Pf.tyN_str, Pf.tyN_tup, Pf.tyN_frz, Pf.tyB_ii, Pf.tyB_ib, Pf.tyB_bi, Pf.tyB_bb, Pf.tyB_tt, Pf.bm_ap, Pf.kBM_ap, Pf.kBM2_ap, Pf.msNil_ap, Pf.nx_mk, Pf.rt_mk, Pf.bk_mk, Pf.ct_mk, Pf.ret_ap, Pf.retN_ap, Pf.brk_ap, Pf.cont_ap, Pf.set_ap, Pf.kSet_ap, Pf.expr_ap, Pf.kDrop_ap, Pf.ifS_ap, Pf.kIfS_t, Pf.kIfS_f, Pf.sub_ap, Pf.kSub1_ap, Pf.kSub2_ap, Pf.kSub3_ap, Pf.defW_ap, Pf.add_ii, Pf.add_tt, Pf.sub_ii, Pf.mul_lt, Pf.mul_rt, Pf.mod_ii, Pf.fdiv_ii, Pf.lt_ii, Pf.le_ii, Pf.gt_ii, Pf.ge_ii, Pf.bId_ap, Pf.eq_ap, Pf.ne_ap, Pf.kEq_some, Pf.dat_int, Pf.dat_bl, Pf.dat_non, Pf.dat_str, Pf.dat_tup, Pf.eqv_ii, Pf.eqv_ss, Pf.eqv_bb, Pf.kO_some, Pf.ix_t, Pf.kL_some, Pf.at_0, Pf.at_1, Pf.at_2, Pf.at_3, Pf.at_4, Pf.at_5, Pf.len_t, Pf.list_t, Pf.list_f, Pf.tuple_t, Pf.int_i, Pf.int_b, Pf.l_set0, Pf.l_setS, Pf.l_get0, Pf.l_getS, Pf.l_len0, Pf.l_lenS, Pf.l_app0, Pf.l_appS, Pf.l_map0, Pf.l_mapS, Pf.l_len_map, Pf.l_rep0, Pf.l_repS, Pf.start_ap, Pf.wipe_nil, Pf.wipe_cons, Pf.sd_same, Pf.sd_ne, Pf.supd_supd, Pf.o_map_some, Pf.ixN_nat, Pf.ixN_0, Pf.ixN_1, Pf.ixN_2, Pf.ixN_3, Pf.for_ap, Pf.kFor_ap, Pf.iter_ap, Pf.kIter_t, Pf.kIter_f, Pf.rng1_ap, Pf.kRng1_ap, Pf.rng2_ap, Pf.kRng2_ap, Pf.rev_ap, Pf.kRev_t, Pf.kRev_f, Pf.kNew_ap, Pf.lc_ap, Pf.kLc_ap, Pf.yes_ap, Pf.bind_nm, Pf.bind_tp, Pf.bindL_nil, Pf.bindL_cons, Pf.kBL_ap, Pf.pat_ap, Pf.kPat_ap, Pf.aug_ap, Pf.kAugO_ap, Pf.kAug1_ap, Pf.iadd_ii, Pf.rng_len, Pf.isL_r, Pf.kIsL_some, Pf.ix_r, Pf.kIx_some, Pf.len_r, Pf.kLen_some, Pf.list_r, Pf.kList_some, Pf.tuple_r, Pf.kTuple_some, Pf.put_r, Pf.kPut_l, Pf.kPutO_some, Pf.append_r, Pf.kApp_l, Pf.pop0_r, Pf.kPop0_l, Pf.kIter_r, Pf.kRev_r, Pf.kIterO_some, Pf.id_ap, Pf.dat_r, Pf.kDatL_some, Pf.bind_tpr, Pf.kBindO_some, Pf.disp_ap, Pf.dictN_ap, Pf.zip_nil, Pf.zip_cons, Pf.dget_ap, Pf.kDg_d, Pf.look_if, Pf.is_bb, Pf.is_nn, Pf.is_in, Pf.is_sn, Pf.is_tn, Pf.is_rn, Pf.isnt_bb, Pf.isnt_nn, Pf.isnt_in, Pf.isnt_sn, Pf.isnt_tn, Pf.isnt_rn, Pf.fld_ap, Pf.kFld_ap, Pf.kFldO_i, Pf.meth_ap, Pf.kMeth_ap, Pf.kMethO_i, Pf.kMethA_ap, Pf.make_ap, Pf.sl_ap, Pf.kSl1_ap, Pf.kSl2_ap, Pf.kSl3_ap, Pf.pNo_ap, Pf.pYes_ap, Pf.kPart_ap, Pf.revL_ap, Pf.kRvL_ap, Pf.kRvO_some, Pf.kRvL_f, Pf.dat_frz, Pf.ix_f, Pf.len_f, Pf.tuple_f, Pf.bind_tpf, Pf.lstV_ap, Pf.kLstV_ap, Pf.listVV_t, Pf.listVV_f, Pf.listVV_r, Pf.kListV_some, Pf.addVV_ii, Pf.addVV_tt, Pf.addVV_ff, Pf.slV_ap, Pf.kSlV1_ap, Pf.kSlV2_ap, Pf.kSlV3_ap, Pf.slVV_t, Pf.slVV_f, Pf.slVV_r, Pf.kCut_some, Pf.revV_ap, Pf.kRvV_ap, Pf.revVV_f, Pf.revVV_r, Pf.kRvVO_some, Pf.kVal_ap, Pf.lcV_ap, Pf.kLcV_ap, Pf.fz_ap, Pf.fzK_r, Pf.kFzO_l, Pf.fzK_t, Pf.fzK_i, Pf.fzK_n, Pf.fzK_f, Pf.enum_ap, Pf.kEnum_ap, Pf.kEnumO_some, Pf.seqI_t, Pf.seqI_f, Pf.seqI_r, Pf.kSeqI_some, Pf.zip_ap, Pf.kZip_ap, Pf.kZipO_some, Pf.allN_ap, Pf.kAllN_ap, Pf.kAllNO_some, Pf.fldS_ap, Pf.kFldS1_ap, Pf.kFldS2_ap, Pf.fldPut_r, Pf.kFldO2_i, Pf.makeK_ap, Pf.kNonR_ap, Pf.kMkK_ap, Pf.kMk_ap, Pf.put_0, Pf.put_S, Pf.sets_nil, Pf.sets_cons, Pf.put_s, Pf.kPutD_d, Pf.at_lastA, Pf.in_str2, Pf.in_str3, Pf.notin_str2, Pf.c_0, Pf.c_1, Pf.c_2, Pf.c_3, Pf.c_4, Pf.c_5, Pf.c_6, Pf.c_7, Pf.c_8, Pf.c_9, Pf.c_10, Pf.kWh_t, Pf.kWh_f, Pf.at_neg1, Pf.at_neg2, Pf.at_neg3, Pf.cut_to, Pf.cut_from, Pf.cut_ft, Pf.cut_to1, Pf.cut_to2, Pf.cut_to3, Pf.cut_to4, Pf.cut_from1, Pf.cut_from2, Pf.cut_from5, Pf.l_take0, Pf.l_takeS, Pf.l_takeN, Pf.l_drop0, Pf.l_dropS, Pf.l_dropN, Pf.revT_ap, Pf.kRvT_ap, Pf.revT_t, Pf.revT_f, Pf.revT_r, Pf.revA_ap, Pf.kRvA_ap, Pf.revA_t, Pf.revA_f, Pf.revA_r, Pf.max2_ii, Pf.min2_ii, Pf.cut_fromS, Ty.gt_0, Ty.gt_S, Ty.at_gt, Ty.at_gtI, Ty.at_lastD, Ty.eI_ap, Ty.eL_ap, Ty.eO_n, Ty.eO_s, Ty.eHand_n, Ty.eHand_s, Ty.eVer_ap, Ty.eServ_ap, Ty.eQu_ap, Ty.eRel_ap, Ty.eLine_ap, Ty.eTest_ap, Ty.toN_cast, Ty.toN_add, Ty.toN_add1, Ty.toN_add2, Ty.toN_1add, Ty.toN_sub1, Ty.dk_value, Ty.dk_arg, Ty.dk_got, Ty.dk_field, Ty.dk_switch, Ty.dk_eq, Ty.dk_ne, Ty.dk_lt, Ty.dk_set, Ty.dk_add, Ty.dk_ask, Ty.dk_answer, Ty.dk_lose, Ty.dk_double, Ty.dk_crash, Ty.dk_take, Ty.dk_go, Ty.dk_step, Ty.dk_turnback, Ty.dk_unstep, Ty.dk_raise, Ty.dk_flip, Ty.dk_move, Ty.dk_turn, Ty.dk_turned, Ty.dk_drained, Ty.dk_final, Ty.dk_asked, Ty.dk_answered, Ty.dk_returned, Ty.dk_one, Ty.dk_notone, Ty.dk_many, Ty.dk_from, Ty.dk_never, Ty.dk_instance, Ty.dk_release, Rw.t_Scope_fields, Rw.t_Scope_questions, Rw.t_Scope_service, Rw.t_Scope_switches, Rw.t_Program_asks, Rw.t_Program_clients, Rw.t_Program_crashes, Rw.t_Program_doubles, Rw.t_Program_losses, Rw.t_Program_questions, Rw.t_Program_releases, Rw.t_Program_services, Rw.t_Program_switches, List.lookup_nil, eq_self, Bool.or_true, Bool.true_or, Bool.or_false, Bool.false_or, Bool.and_true, Bool.true_and, ge_iff_le, String.reduceEq, Int.reduceEq, if_true, if_false, Nat.reduceEqDiff, decide_not, beq_self_eq_true, true_and, and_true, decide_true, decide_false, Int.reduceLT, Int.reduceLE, Int.reduceNeg, Int.reduceAdd, Int.reduceSub, Int.reduceMul, Int.reducePow, Nat.reduceAdd, Nat.reduceSub, Nat.reduceLT, Nat.reduceLeDiff, Int.reduceToNat, Bool.not_true, Bool.not_false, Bool.not_not, $[$ts:term],*])
namespace Nx
open PySem PySem.Spec PyProof.Rows L2 Mv Pf Ty
/-! The drawing state: two objects over the rest. -/
structure GS where
  ns : List Int
  a : Int
  b : Int
def GS.ok (q : GS) : Prop := 0 ≤ q.a ∧ 0 ≤ q.b ∧ q.b < 2147483647
theorem GS.ok0 {ns : List Int} : GS.ok ⟨ns, 0, 1⟩ := by
  refine ⟨?_, ?_, ?_⟩ <;> dsimp only <;> omega
def G (st l : Addr) (S : Sto) (q : GS) : Sto := fun x => if x = st then some (.lst [.ref l, .int q.a, .int q.b]) else if x = l then some (.lst (q.ns.map .int)) else S x
variable {st l : Addr} {S : Sto} {q : GS}
theorem G_st : G st l S q st = some (.lst [.ref l, .int q.a, .int q.b]) := by unfold G; rw [if_pos rfl]
theorem G_l (h : l ≠ st) : G st l S q l = some (.lst (q.ns.map .int)) := by unfold G; rw [if_neg h, if_pos rfl]
theorem G_ne {p : Addr} (h1 : p ≠ st) (h2 : p ≠ l) : G st l S q p = S p := by unfold G; rw [if_neg h1, if_neg h2]
theorem G_free {p : Addr} (h : G st l S q p = none) (hl : l ≠ st) : p ≠ st ∧ p ≠ l ∧ S p = none := by
  have h1 : p ≠ st := fun e => by subst e; rw [G_st] at h; cases h
  have h2 : p ≠ l := fun e => by subst e; rw [G_l hl] at h; cases h
  exact ⟨h1, h2, by rw [G_ne h1 h2] at h; exact h⟩
theorem G_put {p : Addr} {o : MO} (h1 : p ≠ st) (h2 : p ≠ l) : supd (G st l S q) p o = G st l (supd S p o) q := by
  funext x
  unfold supd G
  by_cases e : x = p
  · subst e; simp [h1, h2]
  · simp [e]
theorem G_setst {a b : Int} : supd (G st l S q) st (.lst [.ref l, .int a, .int b]) = G st l S ⟨q.ns, a, b⟩ := by
  funext x
  unfold supd G
  by_cases e : x = st <;> simp [e]
theorem G_setl {ns : List Int} (h : l ≠ st) : supd (G st l S q) l (.lst (ns.map .int)) = G st l S ⟨ns, q.a, q.b⟩ := by
  funext x
  unfold supd G
  by_cases e : x = l
  · subst e; simp [h]
  · simp [e]
theorem G_start {ns : List Int} {p r : Addr} (h : p ≠ r) (a b : Int) : supd (supd S p (.lst (ns.map .int))) r (.lst [.ref p, .int a, .int b]) = G r p S ⟨ns, a, b⟩ := by
  funext x
  unfold supd G
  by_cases e : x = r <;> simp [e]
theorem nx_spec {many : Int} {R : MK} (hl : l ≠ st) (hq : q.ok) (hm : 0 < many) (hm2 : many < 1073741824) (h : ∀ (v : Int) (q' : GS), q'.ok → 0 ≤ v → v < many → R (.int v) (G st l S q')) : Rw.W__law_next [.ref st, .int many] (G st l S q) R := by
  have fin : ∀ (ns : List Int) (a b : Int), 0 ≤ a → 0 ≤ b → b < 2147483647 → R (.int (a % many)) (G st l S ⟨ns, a / many, b⟩) := fun ns a b h0 h1 h2 =>
    h _ _ ⟨Int.ediv_nonneg h0 (Int.le_of_lt hm), h1, h2⟩ (Int.emod_nonneg _ (by omega)) (Int.emod_lt_of_pos _ hm)
  obtain ⟨ns, a, b⟩ := q
  obtain ⟨h0, h1, h2⟩ := hq
  dsimp only at h0 h1 h2
  unfold Rw.W__law_next Rw.B__law_next
  have e0 : (List.map MV.int ns).length = ns.length := List.length_map _
  exists G_st, G_l hl, G_setst
  by_cases ha : a < many
  · cases ns with
    | nil =>
      have y0 := Int.emod_nonneg (b * 48271 + 11) (b := 2147483647) (by decide)
      have y1 := Int.emod_lt_of_pos (b * 48271 + 11) (b := 2147483647) (by decide)
      have y2 := Int.emod_nonneg ((b * 48271 + 11) % 2147483647 * ((b * 48271 + 11) % 2147483647)) (b := 1000003) (by decide)
      exists ha, G_st, G_l hl, G_setst, Int.natCast_zero, Int.lt_irrefl
      exact drop_refl <| fin _ _ _ y2 y0 y1
    | cons n ns =>
      have e1 : (0 : Int) < (ns.length + 1 : Nat) := by omega
      exists ha, G_st, G_l hl, G_setst, G_setl hl, e1
      have y0 := fun x : Int => Int.emod_nonneg (b * 69621 + x) (b := 2147483647) (by decide)
      have y1 := fun x : Int => Int.emod_lt_of_pos (b * 69621 + x) (b := 2147483647) (by decide)
      by_cases hn : 0 ≤ n
      · exists hn, G_st, G_l hl, G_setst, G_setl hl
        exact drop_refl <| fin _ _ _ (by omega) (y0 _) (y1 _)
      · exists hn, G_st, G_l hl, G_setst, G_setl hl
        exact drop_refl <| fin _ _ _ (by omega) (y0 _) (y1 _)
  · exists ha, G_st, G_l hl, G_setst
    exact drop_refl <| fin _ _ _ h0 h1 h2
theorem newG {k : List MV} {R : MK} (hl : l ≠ st) (h : ∀ p, p ≠ st → p ≠ l → S p = none → R (.ref p) (G st l (supd S p (.lst k)) q)) : newL k (G st l S q) R := fun p hp => by
  obtain ⟨h1, h2, h3⟩ := G_free hp hl
  rw [G_put h1 h2]
  exact h p h1 h2 h3
theorem dropG {p : Addr} {o : MO} {v : MV} {R : MK} (hl : l ≠ st) (hp : S p = none) (h : R v (G st l S q)) : dropK R v (G st l (supd S p o) q) := drop_at (fun a u e => by
  by_cases e1 : a = st
  · subst e1; rw [G_st] at e ⊢; exact e
  · by_cases e2 : a = l
    · subst e2; rw [G_l hl] at e ⊢; exact e
    · rw [G_ne e1 e2] at e ⊢
      exact le_supd hp a u e) h
theorem ne_of {a p : Addr} {o : MO} (h : S a = some o) (hp : S p = none) : a ≠ p := fun e => by subst e; rw [h] at hp; cases hp
/-- a comprehension of draws -/
theorem lc_drawG {α : Type} {pt : Pat} {te : ME} {ρ : Mv.Env} {vs : List MV} {Q : List MV → Sto → Prop} (enc : α → MV) (WF : Nat → α → Prop) (hq : q.ok) (hn : vs.length < 100000)
    (hstep : ∀ (i : Nat) (v : MV) (q : GS), vs[i]? = some v → q.ok → ∀ R : MK, (∀ x q', q'.ok → WF i x → R (enc x) (G st l S q')) → bindP pt v (G st l S q) ρ fun ρ' => te ρ' (G st l S q) R)
    (hQ : ∀ (xs : List α) (q' : GS), q'.ok → xs.length = vs.length → (∀ i x, xs[i]? = some x → WF i x) → Q (xs.map enc) (G st l S q')) : lcL [] pt mYes te ρ Q vs [] (G st l S q) := by
  have hs : (1000000 : Nat) ≤ sizeLine := by decide
  refine lc_rule (I := fun i acc S' => ∃ (xs : List α) (q' : GS), acc = xs.map enc ∧ S' = G st l S q' ∧ q'.ok ∧ xs.length = i ∧ ∀ i x, xs[i]? = some x → WF i x) (fun _ _ _ _ => keep_nil) (by omega) ?_ ?_ ?_ ⟨[], q, rfl, rfl, hq, rfl, fun i v h => by simp at h⟩
  · rintro i acc S' ⟨vs, q', rfl, rfl, _, e, _⟩
    simp [e]
  · rintro i v acc S' hv ⟨xs, q', rfl, rfl, hq', e, hb⟩ R N hR _
    refine bindP_imp _ _ _ _ (fun ρ' h => ?_) (hstep i v q' hv hq' R fun x q2 hq2 hx => hR _ _ ⟨xs ++ [x], q2, by simp, rfl, hq2, by simp [e], fun j y hy => ?_⟩)
    · exact h
    · rw [List.getElem?_append] at hy
      split at hy
      · exact hb j y hy
      · rename_i hj
        have : j = i := by
          have := (List.getElem?_eq_some_iff.mp hy).1
          simp at this
          omega
        subst this
        rw [e, Nat.sub_self] at hy
        cases hy
        exact hx
  · rintro acc S' ⟨xs, q', rfl, rfl, hq', e, hb⟩
    exact hQ xs q' hq' e hb
/-- the same number drawn again and again -/
theorem draws_spec {te : ME} {ρ : Mv.Env} {j cnt : Nat} {many : Int} {Q : List MV → Sto → Prop} (hl : l ≠ st) (hq : q.ok) (hm : 0 < many) (hm2 : many < 1073741824) (hc : cnt < 1000)
    (hte : ∀ (v : MV) (S : Sto) (R : MK), te (ρ.set j (some v)) S R = Rw.W__law_next [.ref st, .int many] S R)
    (h : ∀ (vs : List Nat) (q' : GS), q'.ok → vs.length = cnt → (∀ v ∈ vs, (v : Int) < many) → Q (vs.map eI) (G st l S q')) : lcL [] (.nm j) mYes te ρ Q (rngM 0 cnt) [] (G st l S q) := by
  refine lc_drawG (α := Nat) eI (fun _ n => (n : Int) < many) hq (by rw [rng_len]; omega) (fun i v q hv hq R hR => ?_) fun xs q' hq' e hx => ?_
  · rw [Pf.bind_nm, hte]
    refine nx_spec hl hq hm hm2 fun w q2 hq2 h1 h2 => ?_
    obtain ⟨w, rfl⟩ := Int.eq_ofNat_of_zero_le h1
    exact hR w q2 hq2 h2
  · rw [rng_len] at e
    refine h xs q' hq' e fun v hv => ?_
    obtain ⟨i, hi, rfl⟩ := List.getElem_of_mem hv
    exact hx i _ (by simp [hi])
/-- with a natural number -/
theorem nxN {many : Nat} {R : MK} (hl : l ≠ st) (hq : q.ok) (hm : 0 < many) (hm2 : many < 1073741824) (h : ∀ (v : Nat) (q' : GS), q'.ok → v < many → R (.int v) (G st l S q')) : Rw.W__law_next [.ref st, .int many] (G st l S q) R :=
  nx_spec hl hq (by omega) (by omega) fun w q2 hq2 h1 h2 => by
    obtain ⟨w, rfl⟩ := Int.eq_ofNat_of_zero_le h1
    exact h w q2 hq2 (by omega)
end Nx

set_option Elab.async false
set_option linter.all false
set_option maxRecDepth 100000
set_option maxHeartbeats 4000000
namespace Dr
open PySem PySem.Spec PyProof.Rows L2 Mv Pf Ty Nx
variable {st l : Addr} {S : Sto} {q : GS}
theorem count_spec {sz : List Nat} {S : Sto} {R : MK} (hz : ∀ x ∈ sz, 1 ≤ x ∧ x ≤ 4) (hR : R (.int (cnt sz : Nat)) S) : Rw.W__law_count [eL eI sz] S R := by
  unfold Rw.W__law_count Rw.B__law_count
  exists Pf.kB_ap
  refine for_J [1, 2] (I := fun i xs S' => S' = S ∧ ∃ y, xs = [some (.int (cnt (sz.take i) : Nat)), y]) (fun _ _ _ _ => keep_nil) ?_ ?_ [_, _] rfl ⟨rfl, _, rfl⟩
  · rintro i v xs S' D' hv ⟨rfl, y, rfl⟩ hnx _ _ _
    obtain ⟨x, hx, rfl⟩ := map_get hv
    have := hz x (List.mem_of_getElem? hx)
    exists Pf.kB_ap
    rw [← Int.natCast_mul, ← cnt_snoc, ← take_succ_get hx]
    exact hnx [_, _] _ ⟨rfl, _, rfl⟩
  · rintro xs S' ⟨rfl, y, rfl⟩
    rw [List.length_map, List.take_length]
    exists Pf.kB_ap
    exact drop_refl hR
theorem sizes_spec {R : MK} (hl : l ≠ st) (hq : q.ok) (h : ∀ sz q', q'.ok → WfSz sz → R (eL eI sz) (G st l S q')) : Rw.W__law_sizes [.ref st] (G st l S q) R := by
  unfold Rw.W__law_sizes Rw.B__law_sizes
  exists Pf.kB_ap
  refine nxN (many := 3) hl hq (by omega) (by omega) fun k q1 hq1 hk => ?_
  obtain ⟨m, hm, e⟩ : ∃ m : Nat, (1 ≤ m ∧ m ≤ 4) ∧ atI [MV.int 4, MV.int 4, MV.int 2] (k : Int) = some (.int (m : Int)) := by
    have : k = 0 ∨ k = 1 ∨ k = 2 := by omega
    rcases this with rfl | rfl | rfl
    · exact ⟨4, by omega, rfl⟩
    · exact ⟨4, by omega, rfl⟩
    · exact ⟨2, by omega, rfl⟩
  exists e
  refine nxN (many := 3) hl hq1 (by omega) (by omega) fun n q2 hq2 hn => ?_
  exists Pf.kB_ap
  refine lc_drawG (α := Nat) eI (fun _ x => 1 ≤ x ∧ x ≤ 4) hq2 (by rw [rng_len]; omega) (fun i v q3 hv hq3 R hR => ?_) fun xs q3 hq3 e hx => ?_
  · exists Pf.kB_ap
    refine nxN (many := m) hl hq3 (by omega) (by omega) fun x q4 hq4 h1 => ?_
    exists Pf.kB_ap
    have := hR (1 + x) q4 hq4 (by omega)
    simpa [eI] using this
  · rw [rng_len] at e
    exists Pf.kB_ap
    refine drop_refl (h xs q3 hq3 ⟨by omega, by omega, fun x hm => ?_⟩)
    obtain ⟨i, hi, rfl⟩ := List.getElem_of_mem hm
    exact hx i _ (by simp [hi])
theorem expr_spec {pd : Addr} {kvs : List (String × MV)} {sw : Nat} {sz : List Nat} {R : MK} (hl : l ≠ st) (hq : q.ok) (h1 : pd ≠ st) (h2 : pd ≠ l) (hd : S pd = some (.dct kvs)) (hs : kvs.lookup "switches" = some (.int (sw : Int)))
    (hz : 1 ≤ sz.length) (hz3 : sz.length ≤ 3) (hw : sw ≤ 2) (h : ∀ e q', q'.ok → WfEx sz.length sw e → R (eEx e) (G st l S q')) : Rw.W__law_expr [.ref st, .ref pd, eL eI sz] (G st l S q) R := by
  unfold Rw.W__law_expr Rw.B__law_expr
  exists Pf.kB_ap
  refine nxN (many := 6) hl hq (by omega) (by omega) fun k q1 hq1 hk => ?_
  by_cases e0 : (k : Int) = 0
  · exists e0
    exact drop_refl (h .arg q1 hq1 trivial)
  by_cases e1 : (k : Int) = 1
  · exists e1
    exact drop_refl (h .got q1 hq1 trivial)
  by_cases e2 : (k : Int) < 4
  · exists e0, e1, e2
    refine nxN hl hq1 (by omega) (by omega) fun f q2 hq2 hf => ?_
    exists Pf.kB_ap
    exact drop_refl (h (.field f) q2 hq2 hf)
  by_cases e3 : (k : Int) = 4
  · by_cases e4 : (0 : Int) < sw
    · exists e3, e4, G_ne h1 h2, hd, hs
      refine nxN hl hq1 (by omega) (by omega) fun f q2 hq2 hf => ?_
      exists Pf.kB_ap
      exact drop_refl (h (.switch f) q2 hq2 hf)
    · exists e3, e4, G_ne h1 h2, hd, hs
      refine nxN (many := 4) hl hq1 (by omega) (by omega) fun f q2 hq2 hf => ?_
      exists Pf.kB_ap
      exact drop_refl (h (.value f) q2 hq2 hf)
  · exists e0, e1, e2, e3
    refine nxN (many := 4) hl hq1 (by omega) (by omega) fun f q2 hq2 hf => ?_
    exists Pf.kB_ap
    exact drop_refl (h (.value f) q2 hq2 hf)

theorem deed_spec {pd : Addr} {kvs : List (String × MV)} {sw serv : Nat} {sz lt : List Nat} {qs : List Qu} {R : MK} (hl : l ≠ st) (hq : q.ok) (h1 : pd ≠ st) (h2 : pd ≠ l) (hd : S pd = some (.dct kvs)) (hs : kvs.lookup "switches" = some (.int (sw : Int)))
    (hz : 1 ≤ sz.length) (hz3 : sz.length ≤ 3) (hw : sw ≤ 2) (hlt : ∀ x ∈ lt, x < qs.length ∧ serv < (gt qs x).serv) (hl3 : lt.length ≤ 3)
    (h : ∀ d q', q'.ok → WfDeed sz.length sw qs serv d → (lt = [] → d.isAsk = false) → R (eDeed d) (G st l S q')) : Rw.W__law_deed [.ref st, .ref pd, eL eI sz, .frz (lt.map eI)] (G st l S q) R := by
  unfold Rw.W__law_deed Rw.B__law_deed
  have hex := fun (q : GS) (hq : q.ok) (R : MK) => expr_spec (R := R) hl hq h1 h2 hd hs hz hz3 hw
  exists Pf.kB_ap
  refine nxN (many := 8) hl hq (by omega) (by omega) fun k q1 hq1 hk => ?_
  have set_ : ∀ q1 : GS, q1.ok → Rw.W__law_next [.ref st, .int (sz.length : Int)] (G st l S q1) (fun v S' => ∃ f : Nat, v = .int (f : Int) ∧ f < sz.length ∧ ∃ q', q'.ok ∧ S' = G st l S q') := fun q1 hq1 => nxN hl hq1 (by omega) (by omega) fun f q2 hq2 hf => ⟨f, rfl, hf, q2, hq2, rfl⟩
  by_cases e0 : (k : Int) < 2
  · exists e0
    refine nxN hl hq1 (by omega) (by omega) fun f q2 hq2 hf => ?_
    exists Pf.kB_ap
    refine nxN (many := 4) hl hq2 (by omega) (by omega) fun n q3 hq3 hn => ?_
    exists Pf.kB_ap
    exact drop_refl (h (.add f n) q3 hq3 ⟨hf, hn⟩ fun _ => rfl)
  by_cases e1 : (k : Int) < 5
  · by_cases e2 : (0 : Int) < lt.length
    · exists e0, e1, e2
      refine nxN hl hq1 (by omega) (by omega) fun j q2 hq2 hj => ?_
      exists Pf.kB_ap
      refine hex q2 hq2 _ fun e q3 hq3 he => ?_
      exists Pf.kB_ap
      have := hlt _ (gt_mem hj)
      exact drop_refl (h (.ask (gt lt j) e) q3 hq3 ⟨this.1, this.2, he⟩ fun z => by rw [z] at hj; simp at hj)
    · have e7 : (k : Int) < 7 := by omega
      exists e0, e1, e2, e7
      refine nxN hl hq1 (by omega) (by omega) fun f q2 hq2 hf => ?_
      exists Pf.kB_ap
      refine hex q2 hq2 _ fun e q3 hq3 he => ?_
      exists Pf.kB_ap
      exact drop_refl (h (.set f e) q3 hq3 ⟨hf, he⟩ fun _ => rfl)
  by_cases e7 : (k : Int) < 7
  · exists e0, e1, e7
    refine nxN hl hq1 (by omega) (by omega) fun f q2 hq2 hf => ?_
    exists Pf.kB_ap
    refine hex q2 hq2 _ fun e q3 hq3 he => ?_
    exists Pf.kB_ap
    exact drop_refl (h (.set f e) q3 hq3 ⟨hf, he⟩ fun _ => rfl)
  · exists e0, e1, e7
    refine hex q1 hq1 _ fun e q3 hq3 he => ?_
    exists Pf.kB_ap
    exact drop_refl (h (.answer e) q3 hq3 he fun _ => rfl)
theorem eDeed_ask {d : Deed} : ∃ (s : String) (r : List MV), eDeed d = .tup (.str s :: r) ∧ PyData.strOk (so s) = true ∧ decide (s = "ask") = d.isAsk := by
  cases d with
  | set f e => exact ⟨_, _, rfl, k_set, rfl⟩
  | add f e => exact ⟨_, _, rfl, k_add, rfl⟩
  | ask f e => exact ⟨_, _, rfl, k_ask, rfl⟩
  | answer e => exact ⟨_, _, rfl, k_answer, rfl⟩
theorem handler_spec {pd : Addr} {kvs : List (String × MV)} {sw serv : Nat} {sz : List Nat} {qs : List Qu} {R : MK} (hl : l ≠ st) (hq : q.ok) (h1 : pd ≠ st) (h2 : pd ≠ l) (hd : S pd = some (.dct kvs)) (hs : kvs.lookup "switches" = some (.int (sw : Int))) (hqs : kvs.lookup "questions" = some (eL eQu qs))
    (hz : 1 ≤ sz.length) (hz3 : sz.length ≤ 3) (hw : sw ≤ 2) (hq3 : qs.length ≤ 3)
    (h : ∀ ls q', q'.ok → WfLines sz.length sw qs serv ls → R (eL eLine ls) (G st l S q')) : Rw.W__law_handler [.ref st, .ref pd, eL eI sz, .int (serv : Int)] (G st l S q) R := by
  unfold Rw.W__law_handler Rw.B__law_handler
  exists G_ne h1 h2, hd, hqs, rng_eq
  refine lc_filter (List.range qs.length) (fun k : Nat => MV.int (k : Int)) eI (fun k => decide (serv < (gt qs k).serv)) keep_nil (by simp; omega) (fun x hx R N h1' h2' => ?_) ?_
  · have hx : x < qs.length := List.mem_range.mp hx
    by_cases e : serv < (gt qs x).serv
    · have e' : (serv : Int) < ((gt qs x).serv : Int) := by omega
      exists G_ne h1 h2, hd, hqs, e'
      exact h1' (by simpa using e)
    · have e' : ¬ (serv : Int) < ((gt qs x).serv : Int) := by omega
      exists G_ne h1 h2, hd, hqs, e'
      exact h2' (by simpa using e)
  generalize hlt : (List.range qs.length).filter (fun k => decide (serv < (gt qs k).serv)) = lt
  have hlt1 : ∀ x ∈ lt, x < qs.length ∧ serv < (gt qs x).serv := fun x hx => by
    subst hlt
    have := List.mem_filter.mp hx
    exact ⟨List.mem_range.mp this.1, by simpa using this.2⟩
  have hlt2 : lt.length ≤ 3 := by
    subst hlt
    have := List.length_filter_le (fun k => decide (serv < (gt qs k).serv)) (List.range qs.length)
    simp at this
    omega
  exists Pf.kB_ap
  refine newG hl fun p hp1 hp2 hp3 => ?_
  have npd : pd ≠ p := ne_of hd hp3
  exists Pf.kB_ap
  refine nxN (many := 8) hl hq (by omega) (by omega) fun n q1 hq1 hn => ?_
  exists Pf.kB_ap
  refine for_J [6, 7, 8, 9, 10] (I := fun i xs S' => ∃ (ls : List Line) (q' : GS) (x7 x8 x9 x10 : Option MV), xs = [some (.int (ls.countP (fun l => l.d.isAsk) : Nat)), x7, x8, x9, x10] ∧ S' = G st l (supd S p (.lst (ls.map eLine))) q' ∧ q'.ok ∧ ls.length = i ∧ (∀ l ∈ ls, WfLine sz.length sw qs serv l) ∧ ls.countP (fun l => l.d.isAsk) ≤ 2) (fun _ _ _ _ => keep_nil) ?_ ?_ [_, _, _, _, _] rfl ⟨[], q1, _, _, _, _, rfl, rfl, hq1, rfl, (fun l hl => by cases hl), by simp⟩
  · rintro i v xs S' D' hv ⟨ls, q2, x7, x8, x9, x10, rfl, rfl, hq2, hi, hw1, hw2⟩ hnx _ _ _
    have hin : i < 8 := by
      have := (rng_get hv).1
      omega
    have hd' : supd S p (.lst (ls.map eLine)) pd = some (.dct kvs) := by rw [supd_ne npd]; exact hd
    have hex := fun (q : GS) (hq : q.ok) (R : MK) => expr_spec (R := R) hl hq h1 h2 hd' hs hz hz3 hw
    exists Nat, Pf.kB_ap
    rw [seq_ap]
    exists Nat, Pf.kB_ap
    refine seq_join (P := fun ρ' S' => ∃ (t : Option Test) (x9 x10 : Option MV) (q3 : GS), ρ' = [some (.ref st), some (.ref pd), some (.tup (sz.map eI)), some (.int (serv : Int)), some (.frz (lt.map eI)), some (.ref p), some (.int (ls.countP (fun l => l.d.isAsk) : Nat)), some v, some (eO eTest t), x9, x10] ∧ S' = G st l (supd S p (.lst (ls.map eLine))) q3 ∧ q3.ok ∧ ∀ t', t = some t' → WfTest sz.length sw t') (fun nx hnx => ?_) ?_
    · exists Pf.kB_ap
      refine nxN (many := 2) hl hq2 (by omega) (by omega) fun b q3 hq3 hb => ?_
      by_cases eb : (b : Int) = 0
      · exists eb
        refine hex q3 hq3 _ fun e1 q4 hq4 he1 => ?_
        exists Pf.kB_ap
        refine nxN (many := 3) hl hq4 (by omega) (by omega) fun k q5 hq5 hk => ?_
        obtain ⟨s, es⟩ : ∃ s : Sg, atI [MV.str "==", MV.str "!=", MV.str "<"] (k : Int) = some (.str s.str) := by
          have : k = 0 ∨ k = 1 ∨ k = 2 := by omega
          rcases this with rfl | rfl | rfl
          · exact ⟨.eq, rfl⟩
          · exact ⟨.ne, rfl⟩
          · exact ⟨.lt, rfl⟩
        exists es
        refine hex q5 hq5 _ fun e2 q6 hq6 he2 => ?_
        exists Pf.kB_ap
        exact hnx _ _ ⟨some ⟨e1, s, e2⟩, _, _, q6, rfl, rfl, hq6, fun t' z => by cases z; exact ⟨he1, he2⟩⟩
      · exists eb
        exact hnx _ _ ⟨none, _, _, q3, rfl, rfl, hq3, fun t' z => by cases z⟩
    · rintro ρ' S' ⟨t, x9, x10, q3, rfl, rfl, hq3, ht⟩
      have fin : ∀ (d : Deed) (q4 : GS), q4.ok → WfDeed sz.length sw qs serv d → (¬ ((ls.countP (fun l => l.d.isAsk) : Nat) : Int) < 2 → d.isAsk = false) → D'.nx [some (.ref st), some (.ref pd), some (.tup (sz.map eI)), some (.int (serv : Int)), some (.frz (lt.map eI)), some (.ref p), some (.int (((ls.countP (fun l => l.d.isAsk) : Nat) : Int) + if d.isAsk = true then 1 else 0)), some v, some (eO eTest t), some (eDeed d), x10] (G st l (supd S p (.lst (ls.map eLine ++ [.tup [eO eTest t, eDeed d]]))) q4) := fun d q4 hq4 hd1 hd2 => by
        have ec : ((ls.countP (fun l => l.d.isAsk) : Nat) : Int) + (if d.isAsk = true then 1 else 0) = ((ls ++ [(⟨t, d⟩ : Line)]).countP (fun l => l.d.isAsk) : Nat) := by
          rw [List.countP_append, List.countP_cons, List.countP_nil]
          dsimp only
          split <;> omega
        have el : ls.map eLine ++ [.tup [eO eTest t, eDeed d]] = (ls ++ [(⟨t, d⟩ : Line)]).map eLine := by simp [eLine]
        rw [ec, el]
        refine hnx [_, _, _, _, _] _ ⟨ls ++ [⟨t, d⟩], q4, _, _, _, _, rfl, rfl, hq4, by simp [hi], fun l hm => ?_, ?_⟩
        · rcases List.mem_append.mp hm with hm | hm
          · exact hw1 l hm
          · cases List.mem_singleton.mp hm
            exact ⟨ht, hd1⟩
        · by_cases hc : ((ls.countP (fun l => l.d.isAsk) : Nat) : Int) < 2
          · rw [List.countP_append, List.countP_cons, List.countP_nil]
            split <;> omega
          · rw [hd2 hc, if_neg (by simp)] at ec
            omega
      by_cases hc : ((ls.countP (fun l => l.d.isAsk) : Nat) : Int) < 2
      · exists hc
        refine deed_spec hl hq3 h1 h2 hd' hs hz hz3 hw hlt1 hlt2 fun d q4 hq4 hd1 hd2 => ?_
        obtain ⟨s, r, e1, e2, e3⟩ := eDeed_ask (d := d)
        have := fin d q4 hq4 hd1 fun z => absurd hc z
        rw [e1] at this
        rw [← e3] at this
        exists e1, dat_str e2, G_ne hp1 hp2, G_put hp1 hp2
        exact this
      · exists hc
        refine deed_spec (lt := []) (qs := qs) (serv := serv) hl hq3 h1 h2 hd' hs hz hz3 hw (fun x hx => by cases hx) (by simp) fun d q4 hq4 hd1 hd2 => ?_
        obtain ⟨s, r, e1, e2, e3⟩ := eDeed_ask (d := d)
        have := fin d q4 hq4 hd1 fun z => hd2 rfl
        rw [e1] at this
        rw [← e3] at this
        exists e1, dat_str e2, G_ne hp1 hp2, G_put hp1 hp2
        exact this
  · rintro xs S' ⟨ls, q2, x7, x8, x9, x10, rfl, rfl, hq2, hi, hw1, hw2⟩
    exists G_ne hp1 hp2
    rw [rng_len] at hi
    exact dropG hl hp3 (h ls q2 hq2 ⟨by omega, by omega, hw1, hw2⟩)

theorem wf_snoc {nq : Nat} {hs : List (Option (List Line))} {h : Option (List Line)} {P : Nat → Option (List Line) → Prop} (h1 : ∀ j x, hs[j]? = some x → P j x) (h2 : P hs.length h) : ∀ j x, (hs ++ [h])[j]? = some x → P j x := fun j x e => by
  rw [List.getElem?_append] at e
  split at e
  · exact h1 j x e
  · rename_i hj
    have : j = hs.length := by
      have := (List.getElem?_eq_some_iff.mp e).1
      simp at this
      omega
    subst this
    simp at e
    subst e
    exact h2
theorem version_spec {pd : Addr} {kvs : List (String × MV)} {sw serv below : Nat} {qs : List Qu} {R : MK} (hl : l ≠ st) (hq : q.ok) (h1 : pd ≠ st) (h2 : pd ≠ l) (hd : S pd = some (.dct kvs)) (hs : kvs.lookup "switches" = some (.int (sw : Int))) (hqs : kvs.lookup "questions" = some (eL eQu qs))
    (hw : sw ≤ 2) (hq3 : qs.length ≤ 3) (hb : below ≤ 64)
    (h : ∀ v q', q'.ok → WfVer sw qs serv below v → R (eVer v) (G st l S q')) : Rw.W__law_version [.ref st, .ref pd, .int (serv : Int), .int (below : Int)] (G st l S q) R := by
  unfold Rw.W__law_version Rw.B__law_version
  exists Pf.kB_ap
  refine sizes_spec hl hq fun sz q1 hq1 hsz => ?_
  have hcn := hsz.cnt
  exists Nat, Pf.kB_ap
  rw [seq_ap]
  exists Nat, Pf.kB_ap
  refine count_spec hsz.2.2 ?_
  exists Nat, Pf.kB_ap
  rw [seq_ap]
  exists Nat, Pf.kB_ap
  rw [seq_ap]
  exists Nat, Pf.kB_ap
  refine seq_join (P := fun ρ' S' => ∃ (up down : List Nat) (q3 : GS), ρ' = [some (.ref st), some (.ref pd), some (.int (serv : Int)), some (.int (below : Int)), some (eL eI sz), some (.int (cnt sz : Nat)), some (eL eI up), some (eL eI down), none, none, none] ∧ S' = G st l S q3 ∧ q3.ok ∧ up.length = below ∧ (∀ x ∈ up, x < cnt sz) ∧ (down.length = if 0 < below then cnt sz else 0) ∧ ∀ x ∈ down, x < below) (fun nx hnx => ?_) ?_
  · by_cases hb0 : (0 : Int) < below
    · exists hb0
      refine draws_spec (many := (cnt sz : Nat)) hl hq1 (by omega) (by omega) (by omega) (fun v S R => by exists Pf.kB_ap) fun up q2 hq2 hu1 hu2 => ?_
      exists Pf.kB_ap
      refine draws_spec (many := (below : Nat)) hl hq2 (by omega) (by omega) (by omega) (fun v S R => by exists Pf.kB_ap) fun down q3 hq3 hd1 hd2 => ?_
      exists Pf.kB_ap
      have hb1 : 0 < below := by omega
      exact hnx _ _ ⟨up, down, q3, rfl, rfl, hq3, hu1, fun x hx => by have := hu2 x hx; omega, by rw [if_pos hb1]; exact hd1, fun x hx => by have := hd2 x hx; omega⟩
    · exists hb0
      have hb1 : below = 0 := by omega
      exact hnx _ _ ⟨[], [], q1, rfl, rfl, hq1, hb1.symm, (fun x hx => by cases hx), by rw [if_neg (by omega)]; rfl, fun x hx => by cases hx⟩
  · rintro ρ' S' ⟨up, down, q3, rfl, rfl, hq3', hu1, hu2, hd1, hd2⟩
    exists Pf.kB_ap
    refine newG hl fun p hp1 hp2 hp3 => ?_
    have npd : pd ≠ p := ne_of hd hp3
    exists G_ne h1 h2, sd_ne npd, hd, hqs
    refine for_J [9] (I := fun i xs S' => ∃ (hs : List (Option (List Line))) (q' : GS) (x9 : Option MV), xs = [x9] ∧ S' = G st l (supd S p (.lst (hs.map eHand))) q' ∧ q'.ok ∧ hs.length = i ∧ ∀ j h, hs[j]? = some h → WfHand sz.length sw qs serv j h) (fun _ _ _ _ => keep_nil) ?_ ?_ [_] rfl ⟨[], q3, _, rfl, rfl, hq3', rfl, fun j h e => by simp at e⟩
    · rintro i v xs S' D' hv ⟨hs', q4, x9, rfl, rfl, hq4, hi, hwf⟩ hnx _ _ _
      obtain ⟨qu, hqu, rfl⟩ := map_get hv
      have hin := (List.getElem?_eq_some_iff.mp hqu).1
      have hd' : supd S p (.lst (hs'.map eHand)) pd = some (.dct kvs) := by rw [supd_ne npd]; exact hd
      have non : ∀ q5 : GS, q5.ok → D'.nx [some (.ref st), some (.ref pd), some (.int (serv : Int)), some (.int (below : Int)), some (.tup (sz.map eI)), some (.int (cnt sz : Nat)), some (.tup (up.map eI)), some (.tup (down.map eI)), some (.ref p), some (.tup [.int (qu.serv : Int), .int (qu.args : Int), .int (qu.ans : Int)]), none] (G st l (supd S p (.lst (hs'.map eHand ++ [.non]))) q5) := fun q5 hq5 => by
        have el : hs'.map eHand ++ [.non] = (hs' ++ [none]).map eHand := by simp [eHand, eO]
        rw [el]
        exact hnx [_] _ ⟨hs' ++ [none], q5, _, rfl, rfl, hq5, by simp [hi], wf_snoc (nq := 0) hwf fun ls z => by cases z⟩
      by_cases e1 : (qu.serv : Int) = serv
      · exists e1
        refine nxN (many := 8) hl hq4 (by omega) (by omega) fun k q5 hq5 hk => ?_
        by_cases e2 : (k : Int) = 0
        · exists e2, G_ne hp1 hp2, G_put hp1 hp2
          rw [e1] at non
          exact non q5 hq5
        · exists e2, G_ne hp1 hp2
          refine handler_spec hl hq5 h1 h2 hd' hs hqs hsz.1 hsz.2.1 hw hq3 fun ls q6 hq6 hls => ?_
          exists G_ne hp1 hp2, G_put hp1 hp2
          have el : hs'.map eHand ++ [.tup (ls.map eLine)] = (hs' ++ [some ls]).map eHand := by simp [eHand, eO, eL]
          rw [el]
          refine hnx [_] _ ⟨hs' ++ [some ls], q6, _, rfl, rfl, hq6, by simp [hi], wf_snoc (nq := 0) hwf fun ls' z => ?_⟩
          cases z
          rw [hi, gt_eq hqu]
          exact ⟨by omega, hls⟩
      · exists e1, G_ne hp1 hp2, G_put hp1 hp2
        exact non q4 hq4
    · rintro xs S' ⟨hs', q4, x9, rfl, rfl, hq4, hi, hwf⟩
      exists G_ne hp1 hp2
      rw [List.length_map] at hi
      exact dropG hl hp3 (h ⟨sz, up, down, hs'⟩ q4 hq4 ⟨hsz, hu1, hu2, hd1, hd2, hi, hwf⟩)

theorem below_snoc {vs : List Ver} {v : Ver} {j : Nat} (h : j ≤ vs.length) : belowOf (vs ++ [v]) j = belowOf vs j := by
  unfold belowOf
  by_cases e : j = 0
  · rw [if_pos e, if_pos e]
  · rw [if_neg e, if_neg e]
    have : gt (vs ++ [v]) (j - 1) = gt vs (j - 1) := by
      apply gt_eq
      rw [List.getElem?_append_left (by omega)]
      exact gt_get (by omega)
    rw [this]
theorem below_len {vs : List Ver} {v : Ver} : belowOf (vs ++ [v]) (vs.length + 1) = cnt v.sizes := by
  unfold belowOf
  rw [if_neg (by omega)]
  have : gt (vs ++ [v]) (vs.length + 1 - 1) = v := gt_eq (by simp)
  rw [this]
theorem service_spec {pd : Addr} {kvs : List (String × MV)} {sw serv : Nat} {qs : List Qu} {R : MK} (hl : l ≠ st) (hq : q.ok) (h1 : pd ≠ st) (h2 : pd ≠ l) (hd : S pd = some (.dct kvs)) (hs : kvs.lookup "switches" = some (.int (sw : Int))) (hqs : kvs.lookup "questions" = some (eL eQu qs))
    (hw : sw ≤ 2) (hq3 : qs.length ≤ 3)
    (h : ∀ v q', q'.ok → WfServ sw qs serv v → R (eServ v) (G st l S q')) : Rw.W__law_service [.ref st, .ref pd, .int (serv : Int)] (G st l S q) R := by
  unfold Rw.W__law_service Rw.B__law_service
  exists Pf.kB_ap
  refine newG hl fun p hp1 hp2 hp3 => ?_
  have npd : pd ≠ p := ne_of hd hp3
  exists Pf.kB_ap
  refine nxN (many := 3) hl hq (by omega) (by omega) fun n q1 hq1 hn => ?_
  exists Pf.kB_ap
  refine for_J [4, 5] (I := fun i xs S' => ∃ (vs : List Ver) (q' : GS) (x5 : Option MV), xs = [some (.int (belowOf vs i : Nat)), x5] ∧ S' = G st l (supd S p (.lst (vs.map eVer))) q' ∧ q'.ok ∧ vs.length = i ∧ belowOf vs i ≤ 64 ∧ ∀ j v, vs[j]? = some v → WfVer sw qs serv (belowOf vs j) v) (fun _ _ _ _ => keep_nil) ?_ ?_ [_, _] rfl ⟨[], q1, _, rfl, rfl, hq1, rfl, by decide, fun j h e => by simp at e⟩
  · rintro i v xs S' D' hv ⟨vs, q2, x5, rfl, rfl, hq2, hi, hb, hwf⟩ hnx _ _ _
    have hin : i < 3 := by
      have := (rng_get hv).1
      omega
    have hd' : supd S p (.lst (vs.map eVer)) pd = some (.dct kvs) := by rw [supd_ne npd]; exact hd
    exists G_ne hp1 hp2
    refine version_spec hl hq2 h1 h2 hd' hs hqs hw hq3 hb fun v q3 hq3' hv => ?_
    exists G_ne hp1 hp2, G_put hp1 hp2
    refine count_spec hv.sz.2.2 ?_
    exists Pf.kB_ap
    have el : vs.map eVer ++ [.tup [.tup (v.sizes.map eI), .tup (v.up.map eI), .tup (v.down.map eI), .tup (v.hs.map eHand)]] = (vs ++ [v]).map eVer := by simp [eVer, eL]
    subst hi
    rw [el, ← below_len (vs := vs)]
    refine hnx [_, _] _ ⟨vs ++ [v], q3, _, rfl, rfl, hq3', by simp, by rw [below_len]; exact hv.sz.cnt.2, fun j x e => ?_⟩
    have hj : j ≤ vs.length := by
      have := (List.getElem?_eq_some_iff.mp e).1
      simp at this
      omega
    rw [below_snoc hj]
    rw [List.getElem?_append] at e
    split at e
    · exact hwf j x e
    · rename_i hj2
      have : j = vs.length := by omega
      subst this
      simp at e
      subst e
      exact hv
  · rintro xs S' ⟨vs, q2, x5, rfl, rfl, hq2, hi, hb, hwf⟩
    exists Pf.kB_ap
    rw [rng_len] at hi
    refine nxN (many := 2) hl hq2 (by omega) (by omega) fun k q3 hq3' hk => ?_
    exists G_ne hp1 hp2
    have := h ⟨1 + k, vs⟩ q3 hq3' ⟨Nat.le_add_right _ _, by dsimp only; omega, by dsimp only; omega, by dsimp only; omega, hwf⟩
    rw [eServ_ap, eL_ap] at this
    dsimp only at this
    rw [Int.natCast_add] at this
    exact dropG hl hp3 this
theorem release_spec {pd : Addr} {kvs : List (String × MV)} {sw : Nat} {svs : List Serv} {R : MK} (hl : l ≠ st) (hq : q.ok) (h1 : pd ≠ st) (h2 : pd ≠ l) (hd : S pd = some (.dct kvs)) (hs : kvs.lookup "switches" = some (.int (sw : Int))) (hsv : kvs.lookup "services" = some (eL eServ svs))
    (hw : sw ≤ 2) (hv3 : svs.length ≤ 3) (hvv : ∀ s ∈ svs, 1 ≤ s.vers.length ∧ s.vers.length ≤ 3)
    (h : ∀ r q', q'.ok → WfRel svs sw r → R (eRel r) (G st l S q')) : Rw.W__law_release [.ref st, .ref pd] (G st l S q) R := by
  unfold Rw.W__law_release Rw.B__law_release
  exists G_ne h1 h2, hd, hsv
  refine lc_drawG (α := Nat) eI (fun i x => x < (gt svs i).vers.length) hq (by rw [List.length_map]; omega) (fun i v q3 hv hq3 R hR => ?_) fun vers q3 hq3 e hx => ?_
  · obtain ⟨s, hsi, rfl⟩ := map_get hv
    have := hvv s (List.mem_of_getElem? hsi)
    exists Pf.kB_ap
    refine nxN hl hq3 (by omega) (by omega) fun x q4 hq4 h1 => ?_
    exact hR x q4 hq4 (by rw [gt_eq hsi]; exact h1)
  · rw [List.length_map] at e
    exists G_ne h1 h2, hd, hs
    refine draws_spec (many := 2) hl hq3 (by omega) (by omega) (by omega) (fun v S R => by exists Pf.kB_ap) fun vals q4 hq4 hv1 hv2 => ?_
    exists Pf.kB_ap
    exact drop_refl (h ⟨vers, vals⟩ q4 hq4 ⟨e, hx, hv1, fun x hx => by have := hv2 x hx; omega⟩)
/-- the drawn data as a dict -/
def dataF (sw : Nat) (qs : List Qu) (svs : List Serv) (rels : List Rel) : List (String × MV) := [("switches", .int (sw : Int)), ("questions", eL eQu qs), ("services", eL eServ svs), ("releases", eL eRel rels)]
theorem data_spec {R : MK} (hl : l ≠ st) (hq : q.ok)
    (h : ∀ p sw qs svs rels q', p ≠ st → p ≠ l → S p = none → q'.ok → WfD sw qs svs rels → R (.ref p) (G st l (supd S p (.dct (dataF sw qs svs rels))) q')) : Rw.W__law_data [.ref st] (G st l S q) R := by
  unfold Rw.W__law_data Rw.B__law_data
  exists Pf.kB_ap
  refine nxN (many := 4) hl hq (by omega) (by omega) fun k q1 hq1 hk => ?_
  obtain ⟨n, hn, e⟩ : ∃ n : Nat, (1 ≤ n ∧ n ≤ 3) ∧ atI [MV.int 3, MV.int 2, MV.int 1, MV.int 2] (k : Int) = some (.int (n : Int)) := by
    have : k = 0 ∨ k = 1 ∨ k = 2 ∨ k = 3 := by omega
    rcases this with rfl | rfl | rfl | rfl
    · exact ⟨3, by omega, rfl⟩
    · exact ⟨2, by omega, rfl⟩
    · exact ⟨1, by omega, rfl⟩
    · exact ⟨2, by omega, rfl⟩
  exists e
  refine nxN (many := 3) hl hq1 (by omega) (by omega) fun sw q2 hq2 hsw => ?_
  have hd1 := fun (R : MK) (vs : List MV) (S : Sto) => @kDisp_ap ["switches"] R vs S (by decide)
  exists hd1
  intro p hp
  obtain ⟨hp1, hp2, hp3⟩ := G_free hp hl
  exists G_put hp1 hp2
  refine newG hl fun r hr1 hr2 hr3 => ?_
  have hpr : p ≠ r := ne_of Mv.supd_same hr3
  exists Pf.kB_ap
  refine nxN (many := 3) hl hq2 (by omega) (by omega) fun m q3 hq3 hm => ?_
  exists Pf.kB_ap
  refine for_J [4] (I := fun i xs S' => ∃ (qs : List Qu) (q' : GS) (x4 : Option MV), xs = [x4] ∧ S' = G st l (supd (supd S p (.dct [("switches", .int (sw : Int))])) r (.lst (qs.map eQu))) q' ∧ q'.ok ∧ qs.length = i ∧ ∀ q ∈ qs, WfQu n q) (fun _ _ _ _ => keep_nil) ?_ ?_ [_] rfl ⟨[], q3, _, rfl, rfl, hq3, rfl, fun j h => by cases h⟩
  · rintro i v xs S' D' hv ⟨qs, q4, x4, rfl, rfl, hq4, hi, hwf⟩ hnx _ _ _
    have hin : i < 3 := by
      have := (rng_get hv).1
      omega
    exists G_ne hr1 hr2
    refine nxN hl hq4 (by omega) (by omega) fun a q5 hq5 ha => ?_
    exists Pf.kB_ap
    refine nxN (many := 4) hl hq5 (by omega) (by omega) fun b q6 hq6 hb => ?_
    exists Pf.kB_ap
    refine nxN (many := 4) hl hq6 (by omega) (by omega) fun c q7 hq7 hc => ?_
    exists G_ne hr1 hr2, G_put hr1 hr2
    have el : qs.map eQu ++ [.tup [.int (a : Int), .int (1 + (b : Int)), .int (1 + (c : Int))]] = (qs ++ [(⟨a, 1 + b, 1 + c⟩ : Qu)]).map eQu := by simp [eQu]
    rw [el]
    refine hnx [_] _ ⟨qs ++ [(⟨a, 1 + b, 1 + c⟩ : Qu)], q7, _, rfl, rfl, hq7, by simp [hi], fun x hx => ?_⟩
    rcases List.mem_append.mp hx with hx | hx
    · exact hwf x hx
    · cases List.mem_singleton.mp hx
      refine ⟨ha, ?_, ?_, ?_, ?_⟩ <;> dsimp only <;> omega
  · rintro xs S' ⟨qs, q4, x4, rfl, rfl, hq4, hi, hqw⟩
    rw [rng_len] at hi
    have ep1 : ∀ v w : MV, putD [("switches", v)] "questions" w = [("switches", v), ("questions", w)] := fun v w => by simp [putD]
    have ep2 : ∀ v w u : MV, putD [("switches", v), ("questions", w)] "services" u = [("switches", v), ("questions", w), ("services", u)] := fun v w u => by simp [putD]
    have ep3 : ∀ v w u z : MV, putD [("switches", v), ("questions", w), ("services", u)] "releases" z = [("switches", v), ("questions", w), ("services", u), ("releases", z)] := fun v w u z => by simp [putD]
    exists G_ne hr1 hr2, G_ne hp1 hp2, sd_ne hpr, G_put hp1 hp2, supd_comm hpr, ep1
    have hpd : ∀ kvs L, supd (supd S p (.dct kvs)) r L p = some (.dct kvs) := fun kvs L => by rw [Mv.supd_ne hpr, Mv.supd_same]
    rw [rng_eq]
    refine lc_drawG (α := Serv) eServ (fun i x => WfServ sw qs i x) hq4 (by simp; omega) (fun i v q5 hv hq5 R hR => ?_) fun svs q5 hq5 e hx => ?_
    · obtain ⟨x, hx, rfl⟩ := map_get hv
      have ei : x = i := by
        rw [List.getElem?_range (by have := (List.getElem?_eq_some_iff.mp hx).1; simpa using this)] at hx
        exact (Option.some.inj hx).symm
      subst ei
      exists Pf.kB_ap
      exact service_spec hl hq5 hp1 hp2 (hpd _ _) (by exists Pf.kB_ap) (by exists Pf.kB_ap) (by omega) (by omega) fun v q6 hq6 hv => hR v q6 hq6 hv
    · rw [List.length_map, List.length_range] at e
      exists G_ne hr1 hr2, G_ne hp1 hp2, sd_ne hpr, G_put hp1 hp2, supd_comm hpr, ep2
      refine nxN (many := 4) hl hq5 (by omega) (by omega) fun m2 q6 hq6 hm2 => ?_
      exists Pf.kB_ap
      have hvv : ∀ s ∈ svs, 1 ≤ s.vers.length ∧ s.vers.length ≤ 3 := fun s hs => by
        obtain ⟨i, hi, rfl⟩ := List.getElem_of_mem hs
        have := hx i _ (List.getElem?_eq_getElem hi)
        exact ⟨this.v1, this.v3⟩
      refine lc_drawG (α := Rel) eRel (fun i x => WfRel svs sw x) hq6 (by rw [rng_len]; omega) (fun i v q7 hv hq7 R hR => ?_) fun rels q7 hq7 e2 hx2 => ?_
      · exists Pf.kB_ap
        exact release_spec hl hq7 hp1 hp2 (hpd _ _) (by exists Pf.kB_ap) (by exists Pf.kB_ap) (by omega) (by omega) hvv fun v q6 hq6 hv => hR v q6 hq6 hv
      · rw [rng_len] at e2
        exists G_ne hr1 hr2, G_ne hp1 hp2, sd_ne hpr, G_put hp1 hp2, supd_comm hpr, ep3
        refine dropG hl ?_ (h p sw qs svs rels q7 hp1 hp2 hp3 hq7 ⟨by omega, by omega, by omega, fun q hq => by rw [e]; exact hqw q hq, by omega, by omega, hx, by omega, by omega, fun r hr => ?_⟩)
        · rw [Mv.supd_ne (Ne.symm hpr)] at hr3 ⊢
          exact hr3
        · obtain ⟨i, hi, rfl⟩ := List.getElem_of_mem hr
          exact hx2 i _ (List.getElem?_eq_getElem hi)
end Dr

set_option Elab.async false
set_option linter.all false
set_option maxRecDepth 100000
set_option maxHeartbeats 4000000
namespace Mk
open PySem PySem.Spec PyProof.Rows L2 Mv Pf Ty Dr
variable {S : Sto} {R : MK}
theorem isnum {v a b : Int} (hR : R (.bl (decide (a ≤ v) && decide (v ≤ b))) S) : Rw.W_is_number [.int v, .int a, .int b] S R := by
  unfold Rw.W_is_number Rw.B_is_number
  exists Pf.kB_ap
  by_cases h : a ≤ v
  · exists h
    rw [decide_eq_true h, Bool.true_and] at hR
    exact drop_refl hR
  · exists h
    rw [decide_eq_false h, Bool.false_and] at hR
    exact drop_refl hR
theorem isnum1 {v a b : Int} (h1 : a ≤ v) (h2 : v ≤ b) (hR : R (.bl true) S) : Rw.W_is_number [.int v, .int a, .int b] S R := isnum (by rw [decide_eq_true h1, decide_eq_true h2]; exact hR)
theorem arenum {l : List Nat} {a b : Int} (hR : R (.bl (l.all fun x => decide (a ≤ (x : Int)) && decide ((x : Int) ≤ b))) S) : Rw.W_are_numbers [.tup (l.map eI), .int a, .int b] S R := by
  unfold Rw.W_are_numbers Rw.B_are_numbers
  exists Pf.kB_ap
  refine ⟨fun v hv => ?_, ?_⟩
  · obtain ⟨x, _, rfl⟩ := List.mem_map.mp hv
    trivial
  · rw [List.all_map]
    exact drop_refl hR
theorem arenum1 {l : List Nat} {a b : Int} (h : ∀ x ∈ l, a ≤ (x : Int) ∧ (x : Int) ≤ b) (hR : R (.bl true) S) : Rw.W_are_numbers [.tup (l.map eI), .int a, .int b] S R := arenum (by
  rw [List.all_eq_true.mpr fun x hx => ?_]
  · exact hR
  · rw [decide_eq_true (h x hx).1, decide_eq_true (h x hx).2]; rfl)
/-- a scope's attributes -/
def scF (nf sw : Nat) (qs : List Qu) (serv : Nat) : List (String × MV) := [("fields", .int (nf : Int)), ("switches", .int (sw : Int)), ("questions", eL eQu qs), ("service", .int (serv : Int))]
section
variable {a : Addr} {nf sw serv : Nat} {qs : List Qu}
theorem has_expr {e : Ex} (ha : S a = some (.ins "Scope" (scF nf sw qs serv))) (h : WfEx nf sw e) (hR : R (.bl true) S) : Rw.W_Scope_has_expr [.ref a, eEx e] S R := by
  unfold Rw.W_Scope_has_expr Rw.B_Scope_has_expr
  unfold scF at ha
  cases e with
  | value n =>
    have h : n < 4 := h
    exists eEx
    exact isnum1 (by omega) (by omega) (drop_refl hR)
  | arg =>
    exists eEx
    exact drop_refl hR
  | got =>
    exists eEx
    exact drop_refl hR
  | field f =>
    have h : f < nf := h
    exists eEx, ha
    exact isnum1 (by omega) (by omega) (drop_refl hR)
  | switch s =>
    have h : s < sw := h
    exists eEx, ha
    exact isnum1 (by omega) (by omega) (drop_refl hR)

theorem sg_in {s : Sg} : inM (.str s.str) (.tup [.str "==", .str "!=", .str "<"]) S R = R (.bl true) S := by
  cases s with
  | eq => unfold Sg.str; exists Pf.kB_ap
  | ne => unfold Sg.str; exists Pf.kB_ap
  | lt => unfold Sg.str; exists Pf.kB_ap
theorem has_test {t : Option Test} (ha : S a = some (.ins "Scope" (scF nf sw qs serv))) (h : ∀ t', t = some t' → WfTest nf sw t') (hR : R (.bl true) S) : Rw.W_Scope_has_test [.ref a, eO eTest t] S R := by
  unfold Rw.W_Scope_has_test Rw.B_Scope_has_test
  cases t with
  | none =>
    exists Pf.kB_ap
    exact drop_refl hR
  | some t =>
    obtain ⟨h1, h2⟩ := h t rfl
    have ha' := ha
    unfold scF at ha'
    have sg := fun (R : MK) => @sg_in S R t.s
    exists ha'
    refine has_expr ha h1 ?_
    unfold Rw.gt_SIGNS Rw.gl_SIGNS
    exists ha', sg
    exact has_expr ha h2 (drop_refl hR)
theorem has_deed {d : Deed} (ha : S a = some (.ins "Scope" (scF nf sw qs serv))) (h : WfDeed nf sw qs serv d) (hR : R (.bl true) S) : Rw.W_Scope_has_deed [.ref a, eDeed d] S R := by
  unfold Rw.W_Scope_has_deed Rw.B_Scope_has_deed
  have ha' := ha
  unfold scF at ha'
  cases d with
  | set f e =>
    obtain ⟨h1, h2⟩ := h
    exists eDeed, ha'
    refine isnum1 (by omega) (by omega) ?_
    exists ha'
    exact has_expr ha h2 (drop_refl hR)
  | add f n =>
    obtain ⟨h1, h2⟩ := h
    exists eDeed, ha'
    refine isnum1 (by omega) (by omega) ?_
    exists ha'
    exact isnum1 (by omega) (by omega) (drop_refl hR)
  | ask q e =>
    obtain ⟨h1, h2, h3⟩ := h
    exists eDeed, ha'
    refine isnum1 (by omega) (by omega) ?_
    have e1 : (serv : Int) < ((gt qs q).serv : Int) := by omega
    exists ha', e1
    exact has_expr ha h3 (drop_refl hR)
  | answer e =>
    exists eDeed, ha'
    exact has_expr ha h (drop_refl hR)
theorem has_handler {q : Nat} {h : Option (List Line)} (ha : S a = some (.ins "Scope" (scF nf sw qs serv))) (hq : q < qs.length) (hw : WfHand nf sw qs serv q h) (hR : R (.bl true) S) : Rw.W_Scope_has_handler [.ref a, .int (q : Int), eHand h] S R := by
  unfold Rw.W_Scope_has_handler Rw.B_Scope_has_handler
  have ha' := ha
  unfold scF at ha'
  cases h with
  | none =>
    exists eHand
    exact drop_refl hR
  | some ls =>
    obtain ⟨h1, h2, h3, h4, h5⟩ := hw ls rfl
    have e1 : ((gt qs q).serv : Int) = serv := by omega
    have e2 : (1 : Int) ≤ ls.length := by omega
    have e3 : (ls.length : Int) ≤ 8 := by omega
    exists eHand, ha', e1, e2, e3
    refine for_J [3, 4, 5] (I := fun i xs S' => S' = S ∧ ∃ x4 x5, xs = [some (.int ((ls.take i).countP (fun l => l.d.isAsk) : Nat)), x4, x5]) (fun _ _ _ _ => keep_nil) ?_ ?_ [_, _, _] rfl ⟨rfl, _, _, rfl⟩
    · rintro i v xs S' D' hv ⟨rfl, x4, x5, rfl⟩ hnx _ _ _
      obtain ⟨ln, hln, rfl⟩ := map_get hv
      obtain ⟨ht, hd⟩ := h4 ln (List.mem_of_getElem? hln)
      exists ha'
      refine has_test ha ht ?_
      exists ha'
      refine has_deed ha hd ?_
      obtain ⟨s, r, f1, f2, f3⟩ := eDeed_ask (d := ln.d)
      exists f1, dat_str f2, f3
      have ec : (((ls.take i).countP (fun l => l.d.isAsk) : Nat) : Int) + (if ln.d.isAsk = true then 1 else 0) = ((ls.take (i + 1)).countP (fun l => l.d.isAsk) : Nat) := by
        rw [take_succ_get hln, List.countP_append, List.countP_cons, List.countP_nil]
        split <;> omega
      rw [ec]
      exact hnx [_, _, _] _ ⟨rfl, _, _, rfl⟩
    · rintro xs S' ⟨rfl, x4, x5, rfl⟩
      rw [List.length_map, List.take_length]
      have e4 : ((ls.countP (fun l => l.d.isAsk) : Nat) : Int) ≤ 2 := by omega
      exists e4
      exact drop_refl hR
end
theorem rcount {sz : List Nat} (hz : ∀ x ∈ sz, 1 ≤ x ∧ x ≤ 4) (hR : R (.int (cnt sz : Nat)) S) : Rw.W_record_count [eL eI sz] S R := by
  unfold Rw.W_record_count Rw.B_record_count
  exists Pf.kB_ap
  refine for_J [1, 2] (I := fun i xs S' => S' = S ∧ ∃ y, xs = [some (.int (cnt (sz.take i) : Nat)), y]) (fun _ _ _ _ => keep_nil) ?_ ?_ [_, _] rfl ⟨rfl, _, rfl⟩
  · rintro i v xs S' D' hv ⟨rfl, y, rfl⟩ hnx _ _ _
    obtain ⟨x, hx, rfl⟩ := map_get hv
    have := hz x (List.mem_of_getElem? hx)
    exists Pf.kB_ap
    rw [← Int.natCast_mul, ← cnt_snoc, ← take_succ_get hx]
    exact hnx [_, _] _ ⟨rfl, _, rfl⟩
  · rintro xs S' ⟨rfl, y, rfl⟩
    rw [List.length_map, List.take_length]
    exists Pf.kB_ap
    exact drop_refl hR
theorem qfit {qs : List Qu} {svs : List Serv} (h1 : 1 ≤ qs.length) (h3 : qs.length ≤ 3) (hq : ∀ q ∈ qs, WfQu svs.length q) (hR : R (.bl true) S) : Rw.W_questions_fit [eL eQu qs, eL eServ svs] S R := by
  unfold Rw.W_questions_fit Rw.B_questions_fit
  have e2 : (1 : Int) ≤ qs.length := by omega
  have e3 : (qs.length : Int) ≤ 3 := by omega
  exists e2, e3
  refine for_J [2, 3, 4] (I := fun i xs S' => S' = S ∧ ∃ x y z, xs = [x, y, z]) (fun _ _ _ _ => keep_nil) ?_ ?_ [_, _, _] rfl ⟨rfl, _, _, _, rfl⟩
  · rintro i v xs S' D' hv ⟨rfl, x, y, z, rfl⟩ hnx _ _ _
    obtain ⟨q, hqi, rfl⟩ := map_get hv
    obtain ⟨w1, w2, w3, w4, w5⟩ := hq q (List.mem_of_getElem? hqi)
    exists Pf.kB_ap
    refine isnum1 (by omega) (by omega) ?_
    exists Pf.kB_ap
    refine arenum1 (l := [q.args, q.ans]) (fun x hx => ?_) ?_
    · rcases hx with _ | ⟨_, _ | ⟨_, hx⟩⟩
      · omega
      · omega
      · cases hx
    exists Pf.kB_ap
    exact hnx [_, _, _] _ ⟨rfl, _, _, _, rfl⟩
  · rintro xs S' ⟨rfl, x, y, z, rfl⟩
    exists Pf.kB_ap
    exact drop_refl hR

section
variable {p : Addr} {P : Prog}
theorem scope_init {a : Addr} {serv : Nat} {sz : List Nat} (hp : S p = some (.ins "Program" (progF P))) (ha : S a = some (.ins "Scope" [])) (hR : R .non (supd S a (.ins "Scope" (scF sz.length P.sw P.qs serv)))) : Rw.W_Scope___init__ [.ref a, .ref p, .int (serv : Int), eL eI sz] S R := by
  unfold Rw.W_Scope___init__ Rw.B_Scope___init__
  have hpa : p ≠ a := fun e => by subst e; rw [hp] at ha; injection ha with ha; injection ha with ha; exact absurd ha (by decide)
  unfold progF at hp
  exists hp, ha, sd_ne hpa
  exact drop_refl hR
theorem req_version {serv i : Nat} {vs : List Ver} {v : Ver} (hp : S p = some (.ins "Program" (progF P))) (hi : vs[i]? = some v) (h3 : vs.length ≤ 3) (hb : ∀ w ∈ vs, WfSz w.sizes) (hw : WfVer P.sw P.qs serv (belowOf vs i) v) (hR : R .non S) : Rw.W_require_version [.ref p, .int (serv : Int), eL eVer vs, .int (i : Int)] S R := by
  unfold Rw.W_require_version Rw.B_require_version
  have hin := (List.getElem?_eq_some_iff.mp hi).1
  have hv : gt vs i = v := gt_eq hi
  obtain ⟨z1, z3, zb⟩ := hw.sz
  have e1 : (1 : Int) ≤ v.sizes.length := by omega
  have e2 : (v.sizes.length : Int) ≤ 3 := by omega
  have hcn := hw.sz.cnt
  exists Nat, Pf.kB_ap
  rw [seq_ap]
  exists Nat, hv
  rw [seq_ap]
  exists Nat, e1, e2
  refine arenum1 (fun x hx => by have := zb x hx; omega) ?_
  exists Nat, Pf.kB_ap
  rw [seq_ap]
  exists Nat, Pf.kB_ap
  refine rcount zb ?_
  exists Nat, Pf.kB_ap
  rw [seq_ap]
  exists Nat, Pf.kB_ap
  refine seq_join (P := fun ρ' S' => S' = S ∧ ρ' = [some (.ref p), some (.int (serv : Int)), some (.tup (vs.map eVer)), some (.int (i : Int)), some (.int (cnt v.sizes : Nat)), some (.int (belowOf vs i : Nat)), none, some (.tup (v.sizes.map eI)), some (.tup (v.up.map eI)), some (.tup (v.down.map eI)), some (.tup (v.hs.map eHand)), none, none]) (fun nx hnx => ?_) ?_
  · by_cases hi0 : (0 : Int) < i
    · have hi1 : (0 : Int) ≤ (i : Int) - 1 := by omega
      exists hi0
      refine rcount (hb _ (gt_mem (by omega))).2.2 ?_
      exists Pf.kB_ap
      have : (cnt (gt vs (i - 1)).sizes) = belowOf vs i := by unfold belowOf; rw [if_neg (by omega)]
      rw [this]
      exact hnx _ _ ⟨rfl, rfl⟩
    · have : i = 0 := by omega
      subst this
      exists hi0
      exact hnx _ _ ⟨rfl, rfl⟩
  · rintro ρ' S' ⟨rfl, rfl⟩
    exists Nat, Pf.kB_ap
    rw [seq_ap]
    have eu : (v.up.length : Int) = (belowOf vs i : Nat) := by rw [hw.ul]
    exists Nat, eu
    refine arenum1 (fun x hx => by have := hw.ub x hx; omega) ?_
    exists Nat, Pf.kB_ap
    rw [seq_ap]
    have ed : (if (0 : Int) < i then (cnt v.sizes : Int) else 0) = (v.down.length : Int) := by
      rw [hw.dl]
      have : (0 < belowOf vs i) ↔ 0 < i := by
        unfold belowOf
        by_cases e : i = 0
        · simp [e]
        · rw [if_neg e]
          have := (hb _ (gt_mem (l := vs) (i := i - 1) (by omega))).cnt
          omega
      by_cases e : 0 < i
      · rw [if_pos (by omega), if_pos (this.2 e)]
      · rw [if_neg (by omega), if_neg (fun z => e (this.1 z))]; rfl
    have down : ∀ (D : MD) (S' : Sto), D.nx [some (.ref p), some (.int (serv : Int)), some (.tup (vs.map eVer)), some (.int (i : Int)), some (.int (cnt v.sizes : Nat)), some (.int (belowOf vs i : Nat)), none, some (.tup (v.sizes.map eI)), some (.tup (v.up.map eI)), some (.tup (v.down.map eI)), some (.tup (v.hs.map eHand)), none, none] S' → msIf
              (mOr (mTst (mOp neV' (mCB lenV (maCons (mVar 9) maNil)) (mIf (mTst (mOp gtV (mVar 3) (mC (.int 0)))) (mVar 4) (mC (.int 0))))) (mNot (mTru (mCall Rw.W_are_numbers (maCons (mVar 9) (maCons (mC (.int 0)) (maCons (mOp subV (mVar 5) (mC (.int 1))) maNil)))))))
              msNever msNil D [some (.ref p), some (.int (serv : Int)), some (.tup (vs.map eVer)), some (.int (i : Int)), some (.int (cnt v.sizes : Nat)), some (.int (belowOf vs i : Nat)), none, some (.tup (v.sizes.map eI)), some (.tup (v.up.map eI)), some (.tup (v.down.map eI)), some (.tup (v.hs.map eHand)), none, none] S' := fun D S' h => by
      by_cases hi0 : (0 : Int) < i
      · rw [if_pos hi0] at ed
        exists hi0, ed.symm
        refine arenum1 (fun x hx => by have := hw.db x hx; omega) ?_
        exists Pf.kB_ap
        exact h
      · rw [if_neg hi0] at ed
        exists hi0, ed.symm
        refine arenum1 (fun x hx => by have := hw.db x hx; omega) ?_
        exists Pf.kB_ap
        exact h
    refine down _ _ ?_
    have hp' := hp
    unfold progF at hp'
    exists Pf.kB_ap
    intro a ha
    have hpa : p ≠ a := Nx.ne_of hp ha
    refine scope_init (by rw [Mv.supd_ne hpa]; exact hp) Mv.supd_same ?_
    have el : (v.hs.length : Int) = P.qs.length := by rw [hw.hl]
    exists sd_ne hpa, hp', el
    refine for_J [11, 12] (I := fun j xs S'' => S'' = supd S' a (.ins "Scope" (scF v.sizes.length P.sw P.qs serv)) ∧ ∃ x y, xs = [x, y]) (fun _ _ _ _ => keep_nil) ?_ ?_ [_, _] rfl ⟨rfl, _, _, rfl⟩
    · rintro j w xs S'' D' hv ⟨rfl, x, y, rfl⟩ hnx _ _ _
      obtain ⟨u, hu, rfl⟩ := enumM_get _ _ _ _ hv
      obtain ⟨h, hh, rfl⟩ := map_get hu
      have hj := (List.getElem?_eq_some_iff.mp hh).1
      rw [Nat.zero_add]
      exists Pf.kB_ap
      unfold scF
      exists Pf.kB_ap
      refine has_handler (nf := v.sizes.length) (sw := P.sw) (qs := P.qs) (serv := serv) Mv.supd_same (by rw [← hw.hl]; exact hj) (hw.hw j h hh) ?_
      exists Pf.kB_ap
      exact hnx [_, _] _ ⟨rfl, _, _, rfl⟩
    · rintro xs S'' ⟨rfl, x, y, rfl⟩
      exists Pf.kB_ap
      exact drop_at (le_supd ha) hR
theorem req_services (hp : S p = some (.ins "Program" (progF P))) (hw : WfD P.sw P.qs P.svs P.rels) (hR : R .non S) : Rw.W_require_services [.ref p] S R := by
  unfold Rw.W_require_services Rw.B_require_services
  have hp' := hp
  unfold progF at hp'
  have e1 : (1 : Int) ≤ P.svs.length := by have := hw.v1; omega
  have e2 : (P.svs.length : Int) ≤ 3 := by have := hw.v3; omega
  exists hp', e1, e2
  refine for_J [1, 2, 3, 4] (I := fun j xs S' => S' = S ∧ ∃ x y z w, xs = [x, y, z, w]) (fun _ _ _ _ => keep_nil) ?_ ?_ [_, _, _, _] rfl ⟨rfl, _, _, _, _, rfl⟩
  · rintro j u xs S' D' hv ⟨rfl, x, y, z, w, rfl⟩ hnx _ _ _
    obtain ⟨u, hu, rfl⟩ := enumM_get _ _ _ _ hv
    obtain ⟨s, hs, rfl⟩ := map_get hu
    have ws := hw.vw j s hs
    have e3 : (1 : Int) ≤ s.vers.length := by have := ws.v1; omega
    have e4 : (s.vers.length : Int) ≤ 3 := by have := ws.v3; omega
    have hb : ∀ w ∈ s.vers, WfSz w.sizes := fun w hm => by
      obtain ⟨k, hk, rfl⟩ := List.getElem_of_mem hm
      exact (ws.vw k _ (List.getElem?_eq_getElem hk)).sz
    rw [Nat.zero_add]
    exists Pf.kB_ap
    refine isnum1 (by have := ws.i1; omega) (by have := ws.i2; omega) ?_
    exists e3, e4
    refine for_J [2] (I := fun k xs S'' => S'' = S' ∧ ∃ x, xs = [x]) (fun _ _ _ _ => keep_nil) ?_ ?_ [_] rfl ⟨rfl, _, rfl⟩
    · rintro k u xs S'' D'' hv ⟨rfl, x, rfl⟩ hnx2 _ _ _
      obtain ⟨hk, rfl⟩ := rng_get hv
      have hk : k < s.vers.length := by omega
      rw [Int.zero_add]
      exists Pf.kB_ap
      refine req_version hp (gt_get hk) ws.v3 hb (ws.vw k _ (gt_get hk)) ?_
      exists Pf.kB_ap
      exact hnx2 [_] _ ⟨rfl, _, rfl⟩
    · rintro xs S'' ⟨rfl, x, rfl⟩
      exists Pf.kB_ap
      exact hnx [_, _, _, _] _ ⟨rfl, _, _, _, _, rfl⟩
  · rintro xs S' ⟨rfl, x, y, z, w, rfl⟩
    exists Pf.kB_ap
    exact drop_refl hR
theorem rfit (hp : S p = some (.ins "Program" (progF P))) (hw : WfD P.sw P.qs P.svs P.rels) (hR : R (.bl true) S) : Rw.W_releases_fit [.ref p] S R := by
  unfold Rw.W_releases_fit Rw.B_releases_fit
  have hp' := hp
  unfold progF at hp'
  have e1 : (1 : Int) ≤ P.rels.length := by have := hw.r1; omega
  have e2 : (P.rels.length : Int) ≤ 4 := by have := hw.r4; omega
  exists hp', e1, e2
  refine for_J [1, 2, 3, 4, 5] (I := fun j xs S' => S' = S ∧ ∃ x y z w v, xs = [x, y, z, w, v]) (fun _ _ _ _ => keep_nil) ?_ ?_ [_, _, _, _, _] rfl ⟨rfl, _, _, _, _, _, rfl⟩
  · rintro j u xs S' D' hv ⟨rfl, x, y, z, w, v, rfl⟩ hnx _ _ _
    obtain ⟨r, hr, rfl⟩ := map_get hv
    have wr := hw.rw r (List.mem_of_getElem? hr)
    have e3 : (r.vers.length : Int) = P.svs.length := by rw [wr.vl]
    have e4 : (r.vals.length : Int) = P.sw := by rw [wr.wl]
    exists hp', e3, e4
    refine arenum1 (fun x hx => by have := wr.wb x hx; omega) ?_
    exists hp'
    refine for_J [3, 4, 5] (I := fun k xs S'' => S'' = S' ∧ ∃ x y z, xs = [x, y, z]) (fun _ _ _ _ => keep_nil) ?_ ?_ [_, _, _] rfl ⟨rfl, _, _, _, rfl⟩
    · rintro k u xs S'' D'' hv ⟨rfl, x, y, z, rfl⟩ hnx2 _ _ _
      obtain ⟨u1, u2, h1, h2, rfl⟩ := zipM_get hv
      obtain ⟨n, hn, rfl⟩ := map_get h1
      obtain ⟨s, hs, rfl⟩ := map_get h2
      have := wr.vb k n hn
      rw [gt_eq hs] at this
      exists Pf.kB_ap
      refine isnum1 (by omega) (by omega) ?_
      exists Pf.kB_ap
      exact hnx2 [_, _, _] _ ⟨rfl, _, _, _, rfl⟩
    · rintro xs S'' ⟨rfl, x, y, z, rfl⟩
      exists Pf.kB_ap
      exact hnx [_, _, _, _, _] _ ⟨rfl, _, _, _, _, _, rfl⟩
  · rintro xs S' ⟨rfl, x, y, z, w, v, rfl⟩
    exists Pf.kB_ap
    exact drop_refl hR
theorem require (hp : S p = some (.ins "Program" (progF P))) (hw : WfP P) (hR : R .non S) : Rw.W_Program_require [.ref p] S R := by
  unfold Rw.W_Program_require Rw.B_Program_require
  have hp' := hp
  unfold progF at hp'
  have hd := hw.d
  exists hp'
  refine isnum1 (by omega) (by have := hd.s2; omega) ?_
  exists hp'
  refine qfit hd.q1 hd.q3 hd.qw ?_
  exists hp'
  refine req_services hp hd ?_
  exists hp'
  refine rfit hp hd ?_
  exists hp'
  refine isnum1 (by have := hw.c1; omega) (by have := hw.c2; omega) ?_
  exists hp'
  refine isnum1 (by omega) (by have := hw.a; omega) ?_
  exists hp'
  refine for_J [1, 2] (I := fun k xs S'' => S'' = S ∧ ∃ x y, xs = [x, y]) (fun _ _ _ _ => keep_nil) ?_ ?_ [_, _] rfl ⟨rfl, _, _, rfl⟩
  · rintro k u xs S'' D'' hv ⟨rfl, x, y, rfl⟩ hnx2 _ _ _
    obtain ⟨s, n, rfl, hn⟩ : ∃ (s : String) (n : Nat), u = .tup [.str s, .int (n : Int)] ∧ n ≤ 2 := by
      rcases List.mem_of_getElem? hv with _ | ⟨_, _ | ⟨_, _ | ⟨_, h⟩⟩⟩
      · exact ⟨_, _, rfl, hw.l⟩
      · exact ⟨_, _, rfl, hw.db⟩
      · exact ⟨_, _, rfl, hw.cr⟩
      · cases h
    exists Pf.kB_ap
    refine isnum1 (by omega) (by omega) ?_
    exists Pf.kB_ap
    exact hnx2 [_, _] _ ⟨rfl, _, _, rfl⟩
  · rintro xs S'' ⟨rfl, x, y, rfl⟩
    exists Pf.kB_ap
    exact drop_refl hR
theorem prog_init (hp : S p = some (.ins "Program" [])) (hw : WfP P) (hR : R .non (supd S p (.ins "Program" (progF P)))) :
    Rw.W_Program___init__ [.ref p, eL eQu P.qs, eL eServ P.svs, eL eRel P.rels, .int (P.sw : Int), .int (P.clients : Int), .int (P.asks : Int), .int (P.losses : Int), .int (P.doubles : Int), .int (P.crashes : Int)] S R := by
  unfold Rw.W_Program___init__ Rw.B_Program___init__
  exists hp
  refine require (P := P) Mv.supd_same hw ?_
  exists Pf.kB_ap
  exact drop_refl hR
end
end Mk

set_option Elab.async false
set_option linter.all false
set_option maxRecDepth 100000
set_option maxHeartbeats 4000000
namespace P13
open PySem PySem.Spec PyProof.Rows L2 Mv Pf Ty Nx Dr
/-! what can be compared -/
theorem fits_of {α : Type} {f : α → MV} {n : Nat} (h : ∀ x, fit (f x) n = true) (l : List α) : fits (l.map f) n = true := fits_map h l
theorem fit_L {α : Type} {f : α → MV} {n : Nat} (h : ∀ x, fit (f x) n = true) (l : List α) : fit (eL f l) (n + 1) = true := by rw [eL_ap, fit_tup]; exact fits_of h l
theorem fit_I {n k : Nat} : fit (eI k) n = true := by simp only [eI, fit_int]
theorem fit_Ex {n : Nat} (e : Ex) : fit (eEx e) (n + 1) = true := by
  cases e <;> simp only [eEx, fit_tup, fits_cons, fits_nil, fit_int, fit_str, k_value, k_arg, k_got, k_field, k_switch, Bool.and_true]
theorem fit_Sg (s : Sg) {n : Nat} : fit (.str s.str) n = true := by
  cases s <;> simp only [Sg.str, fit_str, k_eq, k_ne, k_lt]
theorem fit_Test {n : Nat} (t : Test) : fit (eTest t) (n + 2) = true := by
  simp only [eTest, fit_tup, fits_cons, fits_nil, fit_Ex, fit_Sg, Bool.and_true]
theorem fit_Deed {n : Nat} (d : Deed) : fit (eDeed d) (n + 2) = true := by
  cases d <;> simp only [eDeed, fit_tup, fits_cons, fits_nil, fit_int, fit_str, fit_Ex, k_set, k_add, k_ask, k_answer, Bool.and_true]
theorem fit_O {α : Type} {f : α → MV} {n : Nat} (h : ∀ x, fit (f x) n = true) (o : Option α) : fit (eO f o) n = true := by
  cases o with
  | none => exact fit_non
  | some x => exact h x
theorem fit_Line {n : Nat} (l : Line) : fit (eLine l) (n + 3) = true := by
  have h := fit_O (f := eTest) (n := n + 2) fit_Test l.t
  simp only [eLine, fit_tup, fits_cons, fits_nil, fit_Deed, h, Bool.and_true]
theorem fit_Hand {n : Nat} (h : Option (List Line)) : fit (eHand h) (n + 4) = true := fit_O (fun l => fit_L fit_Line l) h
theorem fit_Ver {n : Nat} (v : Ver) : fit (eVer v) (n + 6) = true := by
  have h1 := fun l : List Nat => fit_L (f := eI) (n := n + 4) (fun _ => fit_I) l
  have h2 := fit_L (f := eHand) (n := n + 4) fit_Hand v.hs
  simp only [eVer, fit_tup, fits_cons, fits_nil, h1, h2, Bool.and_true]
theorem fit_Serv {n : Nat} (s : Serv) : fit (eServ s) (n + 8) = true := by
  have h := fit_L (f := eVer) (n := n + 6) fit_Ver s.vers
  simp only [eServ, fit_tup, fits_cons, fits_nil, fit_int, h, Bool.and_true]
theorem fit_Qu {n : Nat} (q : Qu) : fit (eQu q) (n + 1) = true := by
  simp only [eQu, fit_tup, fits_cons, fits_nil, fit_int, Bool.and_true]
theorem fit_Rel {n : Nat} (r : Rel) : fit (eRel r) (n + 2) = true := by
  have h1 := fun l : List Nat => fit_L (f := eI) (n := n) (fun _ => fit_I) l
  simp only [eRel, fit_tup, fits_cons, fits_nil, h1, Bool.and_true]
theorem fit_Qs (l : List Qu) : fit (.tup (l.map eQu)) 60 = true := fit_L fit_Qu l
theorem fit_Ss (l : List Serv) : fit (.tup (l.map eServ)) 60 = true := fit_L fit_Serv l
theorem fit_Rs (l : List Rel) : fit (.tup (l.map eRel)) 60 = true := fit_L fit_Rel l
/-! the same program without handlers and switches -/
def bareV (v : Ver) : Ver := { v with hs := v.hs.map fun _ => none }
def bareS (s : Serv) : Serv := { s with vers := s.vers.map bareV }
def bareR (r : Rel) : Rel := { r with vals := [] }
theorem mget {α β : Type} {f : α → β} {l : List α} {i : Nat} {y : β} (h : (l.map f)[i]? = some y) : ∃ x, l[i]? = some x ∧ f x = y := by
  rw [List.getElem?_map] at h
  exact Option.map_eq_some_iff.mp h
theorem gt_map {α β : Type} [Inhabited α] [Inhabited β] {f : α → β} {l : List α} {i : Nat} (h : i < l.length) : gt (l.map f) i = f (gt l i) := by
  apply gt_eq
  rw [List.getElem?_map, gt_get h]
  rfl
theorem below_bare {vs : List Ver} {i : Nat} (h : i < vs.length) : belowOf (vs.map bareV) i = belowOf vs i := by
  unfold belowOf
  split
  · rfl
  · rw [gt_map (by omega)]
    rfl
theorem wf_bare {sw : Nat} {qs : List Qu} {svs : List Serv} {rels : List Rel} (h : WfD sw qs svs rels) : WfD 0 qs (svs.map bareS) (rels.map bareR) where
  s2 := by omega
  q1 := h.q1
  q3 := h.q3
  qw := fun q hq => by rw [List.length_map]; exact h.qw q hq
  v1 := by rw [List.length_map]; exact h.v1
  v3 := by rw [List.length_map]; exact h.v3
  vw := fun i s hs => by
    obtain ⟨s', h', rfl⟩ := mget hs
    have w := h.vw i s' h'
    refine ⟨w.i1, w.i2, ?_, ?_, fun j v hv => ?_⟩
    · show 1 ≤ (s'.vers.map bareV).length
      rw [List.length_map]; exact w.v1
    · show (s'.vers.map bareV).length ≤ 3
      rw [List.length_map]; exact w.v3
    · have hv : (s'.vers.map bareV)[j]? = some v := hv
      obtain ⟨v', hv', rfl⟩ := mget hv
      have wv := w.vw j v' hv'
      have hj := (List.getElem?_eq_some_iff.mp hv').1
      show WfVer 0 qs i (belowOf (s'.vers.map bareV) j) (bareV v')
      rw [below_bare hj]
      refine ⟨wv.sz, wv.ul, wv.ub, wv.dl, wv.db, ?_, fun q o ho ls e => ?_⟩
      · show (v'.hs.map _).length = _
        rw [List.length_map]; exact wv.hl
      · have ho : (v'.hs.map fun _ => none)[q]? = some o := ho
        obtain ⟨_, _, rfl⟩ := mget ho
        cases e
  r1 := by rw [List.length_map]; exact h.r1
  r4 := by rw [List.length_map]; exact h.r4
  rw := fun r hr => by
    obtain ⟨r', h', rfl⟩ := List.mem_map.mp hr
    have w := h.rw r' h'
    refine ⟨?_, fun i x hx => ?_, rfl, fun x hx => by cases hx⟩
    · rw [List.length_map]; exact w.vl
    · have := w.vb i x hx
      have hi : i < svs.length := by have := (List.getElem?_eq_some_iff.mp hx).1; have e : (bareR r').vers = r'.vers := rfl; rw [e, w.vl] at this; exact this
      rw [gt_map hi]
      show x < ((gt svs i).vers.map bareV).length
      rw [List.length_map]
      exact this
def dataB (P : Prog) : List (String × MV) := [("switches", .int (P.sw : Int)), ("questions", .tup (P.qs.map eQu)), ("services", .tup (P.svs.map eServ)), ("releases", .tup (P.rels.map eRel)), ("clients", .int (P.clients : Int)), ("asks", .int (P.asks : Int)), ("losses", .int (P.losses : Int)), ("doubles", .int (P.doubles : Int)), ("crashes", .int (P.crashes : Int))]
section
variable {S : Sto} {R : MK} {pd st l : Addr} {q : GS} {sw : Nat} {qs : List Qu} {svs : List Serv} {rels : List Rel} {P : Prog}
theorem bounded (hl : l ≠ st) (hq : q.ok) (h1 : pd ≠ st) (h2 : pd ≠ l) (hw : WfD sw qs svs rels)
    (hR : ∀ P q', q'.ok → WfP P → R (.ref pd) (G st l (supd S pd (.dct (dataB P))) q')) : Rw.W__law_bounded [.ref st, .ref pd] (G st l (supd S pd (.dct (dataF sw qs svs rels))) q) R := by
  unfold Rw.W__law_bounded Rw.B__law_bounded dataF
  have ep1 : ∀ v1 v2 v3 v4 v5 : MV, putD [("switches", v1), ("questions", v2), ("services", v3), ("releases", v4)] "clients" v5 = [("switches", v1), ("questions", v2), ("services", v3), ("releases", v4), ("clients", v5)] := fun v1 v2 v3 v4 v5 => by simp [putD]
  have ep2 : ∀ v1 v2 v3 v4 v5 v6 : MV, putD [("switches", v1), ("questions", v2), ("services", v3), ("releases", v4), ("clients", v5)] "asks" v6 = [("switches", v1), ("questions", v2), ("services", v3), ("releases", v4), ("clients", v5), ("asks", v6)] := fun v1 v2 v3 v4 v5 v6 => by simp [putD]
  have ep3 : ∀ v1 v2 v3 v4 v5 v6 v7 : MV, putD [("switches", v1), ("questions", v2), ("services", v3), ("releases", v4), ("clients", v5), ("asks", v6)] "losses" v7 = [("switches", v1), ("questions", v2), ("services", v3), ("releases", v4), ("clients", v5), ("asks", v6), ("losses", v7)] := fun v1 v2 v3 v4 v5 v6 v7 => by simp [putD]
  have ep4 : ∀ v1 v2 v3 v4 v5 v6 v7 v8 : MV, putD [("switches", v1), ("questions", v2), ("services", v3), ("releases", v4), ("clients", v5), ("asks", v6), ("losses", v7)] "doubles" v8 = [("switches", v1), ("questions", v2), ("services", v3), ("releases", v4), ("clients", v5), ("asks", v6), ("losses", v7), ("doubles", v8)] := fun v1 v2 v3 v4 v5 v6 v7 v8 => by simp [putD]
  have ep5 : ∀ v1 v2 v3 v4 v5 v6 v7 v8 v9 : MV, putD [("switches", v1), ("questions", v2), ("services", v3), ("releases", v4), ("clients", v5), ("asks", v6), ("losses", v7), ("doubles", v8)] "crashes" v9 = [("switches", v1), ("questions", v2), ("services", v3), ("releases", v4), ("clients", v5), ("asks", v6), ("losses", v7), ("doubles", v8), ("crashes", v9)] := fun v1 v2 v3 v4 v5 v6 v7 v8 v9 => by simp [putD]
  exists Pf.kB_ap
  refine nxN (many := 2) hl hq (by omega) (by omega) fun c q1 hq1 hc => ?_
  exists G_ne h1 h2, G_put h1 h2, ep1
  refine nxN (many := 4) hl hq1 (by omega) (by omega) fun a q2 hq2 ha => ?_
  exists G_ne h1 h2, G_put h1 h2, ep2
  rw [forL.eq_def]
  refine ⟨keep_nil, ?_⟩
  exists Pf.kB_ap
  refine nxN (many := 3) hl hq2 (by omega) (by omega) fun x1 q3 hq3 hx1 => ?_
  exists G_ne h1 h2, G_put h1 h2, ep3
  rw [forL.eq_def]
  refine ⟨keep_nil, ?_⟩
  exists Pf.kB_ap
  refine nxN (many := 3) hl hq3 (by omega) (by omega) fun x2 q4 hq4 hx2 => ?_
  exists G_ne h1 h2, G_put h1 h2, ep4
  rw [forL.eq_def]
  refine ⟨keep_nil, ?_⟩
  exists Pf.kB_ap
  refine nxN (many := 3) hl hq4 (by omega) (by omega) fun x3 q5 hq5 hx3 => ?_
  exists G_ne h1 h2, G_put h1 h2, ep5
  rw [forL.eq_def]
  refine ⟨keep_nil, ?_⟩
  exists Pf.kB_ap
  have := hR ⟨qs, svs, rels, sw, 1 + c, a, x1, x2, x3⟩ q5 hq5 ⟨hw, by dsimp only; omega, by dsimp only; omega, by dsimp only; omega, by dsimp only; omega, by dsimp only; omega, by dsimp only; omega⟩
  refine drop_refl ?_
  simpa only [dataB, Int.natCast_add, Int.natCast_one] using this
theorem told (hd : S pd = some (.dct (dataB P))) (hw : WfP P) (hR : R (.tup [.str "made"]) S) : Rw.W__law_told [.ref pd] S R := by
  unfold Rw.W__law_told Rw.B__law_told
  unfold dataB at hd
  exists hd
  intro p hp
  refine Mk.prog_init (P := P) Mv.supd_same hw ?_
  exists Pf.kB_ap
  exact drop_at (le_supd hp) hR
theorem bare (hd : S pd = some (.dct (dataB P))) (hw : WfP P) (hR : R (.bl true) S) : Rw.W__law_bare [.ref pd] S R := by
  unfold Rw.W__law_bare Rw.B__law_bare
  unfold dataB at hd
  have r4 := hw.d.r4
  exists hd
  refine lc_map P.rels eRel (fun r => eRel (bareR r)) keep_nil (by omega) (fun r hr R hR => ?_) ?_
  · exists Pf.kB_ap
    exact hR
  rw [show P.rels.map (fun r => eRel (bareR r)) = (P.rels.map bareR).map eRel by rw [List.map_map]; rfl]
  exists Pf.kB_ap
  intro r hr
  have hdr : pd ≠ r := fun e => by subst e; rw [hd] at hr; cases hr
  exists Mv.supd_ne hdr, hd
  refine for_J [4, 5, 6] (I := fun i xs S' => ∃ x4 x5 x6 : Option MV, xs = [x4, x5, x6] ∧ S' = supd S r (.lst (((P.svs.take i).map bareS).map eServ))) (fun _ _ _ _ => keep_nil) ?_ ?_ [_, _, _] rfl ⟨_, _, _, rfl, rfl⟩
  · rintro i v xs S' D' hv ⟨x4, x5, x6, rfl, rfl⟩ hnx _ _ _
    obtain ⟨s, hs, rfl⟩ := map_get hv
    have ws := hw.d.vw i s hs
    have v3 := ws.v3
    exists Pf.kB_ap
    refine lc_map s.vers eVer (fun v => eVer (bareV v)) keep_nil (by omega) (fun v hv R hR => ?_) ?_
    · obtain ⟨j, hj, ej⟩ := List.getElem_of_mem hv
      have wv := ws.vw j v (by rw [List.getElem?_eq_getElem hj, ej])
      have := wv.hl
      have := hw.d.q3
      exists cut_to3
      refine lc_map v.hs eHand (fun _ => .non) keep_nil (by omega) (fun h hh R hR => ?_) ?_
      · exists Pf.kB_ap
        exact hR
      exists Pf.kB_ap
      have e : eVer (bareV v) = .tup [.tup (v.sizes.map eI), .tup (v.up.map eI), .tup (v.down.map eI), .tup (v.hs.map fun _ => MV.non)] := by
        show MV.tup [_, _, _, .tup ((v.hs.map fun _ => none).map eHand)] = _
        rw [List.map_map]
        rfl
      rw [e] at hR
      exact hR
    rw [show s.vers.map (fun v => eVer (bareV v)) = (s.vers.map bareV).map eVer by rw [List.map_map]; rfl]
    have ht : (P.svs.take i).length ≤ 3 := by rw [List.length_take]; have := hw.d.v3; omega
    exists Pf.kB_ap
    have ea : ((P.svs.take i).map bareS).map eServ ++ [.tup [.int (s.inst : Int), .tup ((s.vers.map bareV).map eVer)]] = ((P.svs.take (i + 1)).map bareS).map eServ := by
      rw [take_succ_get hs, List.map_append, List.map_append]
      rfl
    rw [ea]
    exact hnx [_, _, _] _ ⟨_, _, _, rfl, rfl⟩
  · rintro xs S' ⟨x4, x5, x6, rfl, rfl⟩
    rw [List.length_map, List.take_length]
    exists Mv.supd_ne hdr, hd
    intro p hp
    have hrp : r ≠ p := ne_of Mv.supd_same hp
    have hp0 : S p = none := by rw [Mv.supd_ne (fun e => hrp e.symm)] at hp; exact hp
    have hdp : pd ≠ p := ne_of hd hp0
    refine Mk.prog_init (P := ⟨P.qs, P.svs.map bareS, P.rels.map bareR, 0, 1, 1, 0, 0, 0⟩) Mv.supd_same ⟨wf_bare hw.d, by dsimp only; omega, by dsimp only; omega, by dsimp only; omega, by dsimp only; omega, by dsimp only; omega, by dsimp only; omega⟩ ?_
    have f6 : fit (.tup [.int 1, .int 1, .int 0, .int 0, .int 0, .int 0]) 60 = true := by
      simp only [fit_tup, fits_cons, fits_nil, fit_int, Bool.and_true]
    exists progF, Int.natCast_one, Int.natCast_zero, dat_fit f6, eqv_same f6, Mv.supd_ne hdp, Mv.supd_ne hdr, Mv.supd_ne hrp, hd, dat_fit (fit_Qs P.qs), eqv_same (fit_Qs P.qs), dat_fit (fit_Ss (P.svs.map bareS)), eqv_same (fit_Ss (P.svs.map bareS)), dat_fit (fit_Rs (P.rels.map bareR)), eqv_same (fit_Rs (P.rels.map bareR))
    exact drop_at (le_trans (le_supd hr) (le_supd hp)) hR
theorem law (ns : List Int) (x : MV) (S0 : Sto) (hx : ∀ R, listV [x] S0 R = newL (ns.map .int) S0 R) : Rw.W_law [x] S0 (fun v _ => v = .bl true) := by
  unfold Rw.W_law Rw.B_law
  exists hx
  intro l hl0
  exists Pf.kB_ap
  intro st hst
  have hl : l ≠ st := fun e => by subst e; rw [Mv.supd_same] at hst; cases hst
  exists G_start hl
  refine data_spec hl GS.ok0 fun pd sw qs svs rels q1 hpd1 hpd2 hpd3 hq1 hwd => ?_
  exists Pf.kB_ap
  refine bounded hl hq1 hpd1 hpd2 hwd fun P q2 hq2 hw => ?_
  have hd : G st l (supd S0 pd (.dct (dataB P))) q2 pd = some (.dct (dataB P)) := by rw [G_ne hpd1 hpd2, Mv.supd_same]
  generalize G st l (supd S0 pd (.dct (dataB P))) q2 = S1 at hd ⊢
  exists Pf.kB_ap
  refine told hd hw ?_
  have fm : fit (.tup [.str "made"]) 60 = true := by
    simp only [fit_tup, fits_cons, fits_nil, fit_str, show PyData.strOk (so "made") = true by decide +kernel, Bool.and_true]
  have hd' := hd
  unfold dataB at hd'
  exists dat_fit fm, eqv_same fm, hd'
  intro p hp
  have hpd : pd ≠ p := ne_of hd hp
  refine Mk.prog_init (P := P) Mv.supd_same hw ?_
  have f3 : ∀ a b c : Int, fit (.tup [.int a, .int b, .int c]) 60 = true := fun a b c => by
    simp only [fit_tup, fits_cons, fits_nil, fit_int, Bool.and_true]
  have hd2 : supd S1 p (.ins "Program" (progF P)) pd = some (.dct (dataB P)) := by rw [Mv.supd_ne hpd]; exact hd
  exists progF, dat_fit (f3 (P.sw : Int) P.clients P.asks), eqv_same (f3 (P.sw : Int) P.clients P.asks), dat_fit (f3 (P.losses : Int) P.doubles P.crashes), eqv_same (f3 (P.losses : Int) P.doubles P.crashes), Mv.supd_ne hpd, hd', dat_fit (fit_Qs P.qs), eqv_same (fit_Qs P.qs), dat_fit (fit_Ss P.svs), eqv_same (fit_Ss P.svs), dat_fit (fit_Rs P.rels), eqv_same (fit_Rs P.rels)
  refine bare (P := P) (by rw [Mv.supd_ne hpd]; exact hd) hw ?_
  exact drop_refl rfl
end
end P13

set_option Elab.async false
set_option linter.all false
set_option maxRecDepth 100000
set_option maxHeartbeats 300000
namespace Rw
open PySem PySem.Spec PyProof.Rows L2 Mv
def top (i : Nat) : Stmt := PySem.Challenge.pw_rollwarden_k13_programs_keep_what_was_pa.main.body.getD i (.Pass ⟨0, 0, 0, 0⟩)
abbrev s_record_count : Stmt := top 5
def d_record_count : He.DefD := ⟨("record_count", none), "record_count", "record_count", defArgs s_record_count, defBody s_record_count, defScope s_record_count, [], []⟩
abbrev s_is_number : Stmt := top 8
def d_is_number : He.DefD := ⟨("is_number", none), "is_number", "is_number", defArgs s_is_number, defBody s_is_number, defScope s_is_number, [], []⟩
abbrev s_are_numbers : Stmt := top 9
def d_are_numbers : He.DefD := ⟨("are_numbers", none), "are_numbers", "are_numbers", defArgs s_are_numbers, defBody s_are_numbers, defScope s_are_numbers, [], []⟩
abbrev s_Scope___init__ : Stmt := inClass (top 10) 0
def d_Scope___init__ : He.DefD := ⟨("Scope", some "__init__"), "__init__", "Scope.__init__", defArgs s_Scope___init__, defBody s_Scope___init__, defScope s_Scope___init__, [], []⟩
abbrev s_Scope_has_expr : Stmt := inClass (top 10) 1
def d_Scope_has_expr : He.DefD := ⟨("Scope", some "has_expr"), "has_expr", "Scope.has_expr", defArgs s_Scope_has_expr, defBody s_Scope_has_expr, defScope s_Scope_has_expr, [], []⟩
abbrev s_Scope_has_test : Stmt := inClass (top 10) 2
def d_Scope_has_test : He.DefD := ⟨("Scope", some "has_test"), "has_test", "Scope.has_test", defArgs s_Scope_has_test, defBody s_Scope_has_test, defScope s_Scope_has_test, [], []⟩
abbrev s_Scope_has_deed : Stmt := inClass (top 10) 3
def d_Scope_has_deed : He.DefD := ⟨("Scope", some "has_deed"), "has_deed", "Scope.has_deed", defArgs s_Scope_has_deed, defBody s_Scope_has_deed, defScope s_Scope_has_deed, [], []⟩
abbrev s_Scope_has_handler : Stmt := inClass (top 10) 4
def d_Scope_has_handler : He.DefD := ⟨("Scope", some "has_handler"), "has_handler", "Scope.has_handler", defArgs s_Scope_has_handler, defBody s_Scope_has_handler, defScope s_Scope_has_handler, [], []⟩
abbrev s_questions_fit : Stmt := top 11
def d_questions_fit : He.DefD := ⟨("questions_fit", none), "questions_fit", "questions_fit", defArgs s_questions_fit, defBody s_questions_fit, defScope s_questions_fit, [], []⟩
abbrev s_require_version : Stmt := top 12
def d_require_version : He.DefD := ⟨("require_version", none), "require_version", "require_version", defArgs s_require_version, defBody s_require_version, defScope s_require_version, [], []⟩
abbrev s_require_services : Stmt := top 13
def d_require_services : He.DefD := ⟨("require_services", none), "require_services", "require_services", defArgs s_require_services, defBody s_require_services, defScope s_require_services, [], []⟩
abbrev s_releases_fit : Stmt := top 14
def d_releases_fit : He.DefD := ⟨("releases_fit", none), "releases_fit", "releases_fit", defArgs s_releases_fit, defBody s_releases_fit, defScope s_releases_fit, [], []⟩
abbrev s_Program___init__ : Stmt := inClass (top 15) 0
def d_Program___init__ : He.DefD := ⟨("Program", some "__init__"), "__init__", "Program.__init__", defArgs s_Program___init__, defBody s_Program___init__, defScope s_Program___init__, [], [("switches", .int 0), ("clients", .int 1), ("asks", .int 1), ("losses", .int 0), ("doubles", .int 0), ("crashes", .int 0)]⟩
abbrev s_Program_require : Stmt := inClass (top 15) 1
def d_Program_require : He.DefD := ⟨("Program", some "require"), "require", "Program.require", defArgs s_Program_require, defBody s_Program_require, defScope s_Program_require, [], []⟩
abbrev s__law_next : Stmt := top 17
def d__law_next : He.DefD := ⟨("_law_next", none), "_law_next", "_law_next", defArgs s__law_next, defBody s__law_next, defScope s__law_next, [], []⟩
abbrev s__law_count : Stmt := top 18
def d__law_count : He.DefD := ⟨("_law_count", none), "_law_count", "_law_count", defArgs s__law_count, defBody s__law_count, defScope s__law_count, [], []⟩
abbrev s__law_sizes : Stmt := top 19
def d__law_sizes : He.DefD := ⟨("_law_sizes", none), "_law_sizes", "_law_sizes", defArgs s__law_sizes, defBody s__law_sizes, defScope s__law_sizes, [], []⟩
abbrev s__law_expr : Stmt := top 20
def d__law_expr : He.DefD := ⟨("_law_expr", none), "_law_expr", "_law_expr", defArgs s__law_expr, defBody s__law_expr, defScope s__law_expr, [], []⟩
abbrev s__law_deed : Stmt := top 21
def d__law_deed : He.DefD := ⟨("_law_deed", none), "_law_deed", "_law_deed", defArgs s__law_deed, defBody s__law_deed, defScope s__law_deed, [], []⟩
abbrev s__law_handler : Stmt := top 22
def d__law_handler : He.DefD := ⟨("_law_handler", none), "_law_handler", "_law_handler", defArgs s__law_handler, defBody s__law_handler, defScope s__law_handler, [], []⟩
abbrev s__law_version : Stmt := top 23
def d__law_version : He.DefD := ⟨("_law_version", none), "_law_version", "_law_version", defArgs s__law_version, defBody s__law_version, defScope s__law_version, [], []⟩
abbrev s__law_service : Stmt := top 24
def d__law_service : He.DefD := ⟨("_law_service", none), "_law_service", "_law_service", defArgs s__law_service, defBody s__law_service, defScope s__law_service, [], []⟩
abbrev s__law_release : Stmt := top 25
def d__law_release : He.DefD := ⟨("_law_release", none), "_law_release", "_law_release", defArgs s__law_release, defBody s__law_release, defScope s__law_release, [], []⟩
abbrev s__law_data : Stmt := top 26
def d__law_data : He.DefD := ⟨("_law_data", none), "_law_data", "_law_data", defArgs s__law_data, defBody s__law_data, defScope s__law_data, [], []⟩
abbrev s__law_told : Stmt := top 27
def d__law_told : He.DefD := ⟨("_law_told", none), "_law_told", "_law_told", defArgs s__law_told, defBody s__law_told, defScope s__law_told, [], []⟩
abbrev s__law_bounded : Stmt := top 28
def d__law_bounded : He.DefD := ⟨("_law_bounded", none), "_law_bounded", "_law_bounded", defArgs s__law_bounded, defBody s__law_bounded, defScope s__law_bounded, [], []⟩
abbrev s__law_bare : Stmt := top 29
def d__law_bare : He.DefD := ⟨("_law_bare", none), "_law_bare", "_law_bare", defArgs s__law_bare, defBody s__law_bare, defScope s__law_bare, [], []⟩
abbrev s_law : Stmt := top 30
def d_law : He.DefD := ⟨("law", none), "law", "law", defArgs s_law, defBody s_law, defScope s_law, [], []⟩
def fn0 : List He.DefD := [d_record_count, d_is_number, d_are_numbers, d_Scope___init__, d_Scope_has_expr, d_Scope_has_test, d_Scope_has_deed, d_Scope_has_handler, d_questions_fit, d_require_version, d_require_services, d_releases_fit, d_Program___init__, d_Program_require, d__law_next, d__law_count, d__law_sizes, d__law_expr, d__law_deed, d__law_handler]
def fn1 : List He.DefD := [d__law_version, d__law_service, d__law_release, d__law_data, d__law_told, d__law_bounded, d__law_bare, d_law]
def fn : List He.DefD := fn0 ++ fn1
def fa0 : List He.Fa := [.glo "record_count", .glo "is_number", .glo "are_numbers", .glo "questions_fit", .glo "require_version", .glo "require_services", .glo "releases_fit", .glo "_law_next", .glo "_law_count", .glo "_law_sizes", .glo "_law_expr", .glo "_law_deed", .glo "_law_handler", .glo "_law_version", .glo "_law_service", .glo "_law_release", .glo "_law_data", .glo "_law_told", .glo "_law_bounded", .glo "_law_bare"]
def fa1 : List He.Fa := [.glo "law", .glo "Scope", .cls "Scope", .mkr "Scope", .meth "Scope" "has_expr", .meth "Scope" "has_test", .meth "Scope" "has_deed", .meth "Scope" "has_handler", .glo "Program", .cls "Program", .mkr "Program", .meth "Program" "require", .noat "Scope" "fields", .noat "Scope" "questions", .noat "Scope" "service", .noat "Scope" "switches", .noat "Program" "asks", .noat "Program" "clients", .noat "Program" "crashes", .noat "Program" "doubles"]
def fa2 : List He.Fa := [.noat "Program" "losses", .noat "Program" "questions", .noat "Program" "releases", .noat "Program" "services", .noat "Program" "switches", .glo "SIGNS", .free "ValueError", .free "all", .free "bool", .free "enumerate", .free "int", .free "isinstance", .free "len", .free "list", .free "range", .free "tuple", .free "zip"]
def fa : List He.Fa := fa0 ++ fa1 ++ fa2

def tbs : List (Str × List He.Dv) := [("SIGNS", [.str "==", .str "!=", .str "<"])]
abbrev R : PySem.W.OpenRow := PySem.W.OpenLaw.row PySem.Challenge.rw_rollwarden_k13_programs_keep_what_was_pa
abbrev hk : PySem.W.Hook := hookY tbs fa fn "are_numbers"
def ob (s : PySem.W.SharedT) : AlY := obsY tbs fa fn "are_numbers" (HandSHeadRun.getT s)
theorem ob_eq (s : PySem.W.SharedT) : ob s = hk.obs s.abs := obsY_eq (HandSHeadRun.getT_eq s)
def loose0 : List PySem.Str := ["RollError", "BadProgram", "BadPlan", "record_count", "SIGNS", "is_number", "are_numbers", "Scope", "questions_fit", "require_version", "require_services", "releases_fit", "Program", "_law_next", "_law_count", "_law_sizes", "_law_expr", "_law_deed", "_law_handler", "_law_version"]
def loose1 : List PySem.Str := ["_law_service", "_law_release", "_law_data", "_law_told", "_law_bounded", "_law_bare"]
def loose : List PySem.Str := loose0 ++ loose1
theorem run (w : World) : HandSHeadRun.RunEq R (PySem.W.view R.prog [30]) hk ob 20000 loose w := by
  intro os
  kernel_rfl
structure Fx (K : PySem.W.Frag) (mg : Str → Option Value) (base : Heap) (tc tb : Addr) : Prop where
  says : SaysX tbs fa fn K
  inn : K.In base
  ns : base.Ns mainGlobals mg
  TB : GxR.TabB base mg tc tb
  code : ∀ oc od fd osl, K.lookup (He.ga K "are_numbers") = some ⟨oc, od, .func fd, osl⟩ → fd.code = .ref tc
section
variable {P : Program} {w : World} {K : PySem.W.Frag} {mg : Str → Option Value} {base : Heap} {tc tb : Addr} 
theorem Fx.glo_record_count (F : Fx K mg base tc tb) : mg "record_count" = some (.ref (He.ga K "record_count")) := He.glo_ok F.inn F.ns (F.says.says.fact 0 rfl)
theorem Fx.glo_is_number (F : Fx K mg base tc tb) : mg "is_number" = some (.ref (He.ga K "is_number")) := He.glo_ok F.inn F.ns (F.says.says.fact 1 rfl)
theorem Fx.glo_are_numbers (F : Fx K mg base tc tb) : mg "are_numbers" = some (.ref (He.ga K "are_numbers")) := He.glo_ok F.inn F.ns (F.says.says.fact 2 rfl)
theorem Fx.glo_questions_fit (F : Fx K mg base tc tb) : mg "questions_fit" = some (.ref (He.ga K "questions_fit")) := He.glo_ok F.inn F.ns (F.says.says.fact 3 rfl)
theorem Fx.glo_require_version (F : Fx K mg base tc tb) : mg "require_version" = some (.ref (He.ga K "require_version")) := He.glo_ok F.inn F.ns (F.says.says.fact 4 rfl)
theorem Fx.glo_require_services (F : Fx K mg base tc tb) : mg "require_services" = some (.ref (He.ga K "require_services")) := He.glo_ok F.inn F.ns (F.says.says.fact 5 rfl)
theorem Fx.glo_releases_fit (F : Fx K mg base tc tb) : mg "releases_fit" = some (.ref (He.ga K "releases_fit")) := He.glo_ok F.inn F.ns (F.says.says.fact 6 rfl)
theorem Fx.glo__law_next (F : Fx K mg base tc tb) : mg "_law_next" = some (.ref (He.ga K "_law_next")) := He.glo_ok F.inn F.ns (F.says.says.fact 7 rfl)
theorem Fx.glo__law_count (F : Fx K mg base tc tb) : mg "_law_count" = some (.ref (He.ga K "_law_count")) := He.glo_ok F.inn F.ns (F.says.says.fact 8 rfl)
theorem Fx.glo__law_sizes (F : Fx K mg base tc tb) : mg "_law_sizes" = some (.ref (He.ga K "_law_sizes")) := He.glo_ok F.inn F.ns (F.says.says.fact 9 rfl)
theorem Fx.glo__law_expr (F : Fx K mg base tc tb) : mg "_law_expr" = some (.ref (He.ga K "_law_expr")) := He.glo_ok F.inn F.ns (F.says.says.fact 10 rfl)
theorem Fx.glo__law_deed (F : Fx K mg base tc tb) : mg "_law_deed" = some (.ref (He.ga K "_law_deed")) := He.glo_ok F.inn F.ns (F.says.says.fact 11 rfl)
theorem Fx.glo__law_handler (F : Fx K mg base tc tb) : mg "_law_handler" = some (.ref (He.ga K "_law_handler")) := He.glo_ok F.inn F.ns (F.says.says.fact 12 rfl)
theorem Fx.glo__law_version (F : Fx K mg base tc tb) : mg "_law_version" = some (.ref (He.ga K "_law_version")) := He.glo_ok F.inn F.ns (F.says.says.fact 13 rfl)
theorem Fx.glo__law_service (F : Fx K mg base tc tb) : mg "_law_service" = some (.ref (He.ga K "_law_service")) := He.glo_ok F.inn F.ns (F.says.says.fact 14 rfl)
theorem Fx.glo__law_release (F : Fx K mg base tc tb) : mg "_law_release" = some (.ref (He.ga K "_law_release")) := He.glo_ok F.inn F.ns (F.says.says.fact 15 rfl)
theorem Fx.glo__law_data (F : Fx K mg base tc tb) : mg "_law_data" = some (.ref (He.ga K "_law_data")) := He.glo_ok F.inn F.ns (F.says.says.fact 16 rfl)
theorem Fx.glo__law_told (F : Fx K mg base tc tb) : mg "_law_told" = some (.ref (He.ga K "_law_told")) := He.glo_ok F.inn F.ns (F.says.says.fact 17 rfl)
theorem Fx.glo__law_bounded (F : Fx K mg base tc tb) : mg "_law_bounded" = some (.ref (He.ga K "_law_bounded")) := He.glo_ok F.inn F.ns (F.says.says.fact 18 rfl)
theorem Fx.glo__law_bare (F : Fx K mg base tc tb) : mg "_law_bare" = some (.ref (He.ga K "_law_bare")) := He.glo_ok F.inn F.ns (F.says.says.fact 19 rfl)
theorem Fx.glo_law (F : Fx K mg base tc tb) : mg "law" = some (.ref (He.ga K "law")) := He.glo_ok F.inn F.ns (F.says.says.fact 20 rfl)
theorem Fx.glo_Scope (F : Fx K mg base tc tb) : mg "Scope" = some (.ref (He.ga K "Scope")) := He.glo_ok F.inn F.ns (F.says.says.fact 21 rfl)
theorem Fx.cl_Scope (F : Fx K mg base tc tb) : Cls K (He.ga K (so "Scope")) := He.cls_ok (F.says.says.fact 22 rfl)
theorem Fx.mk_Scope (F : Fx K mg base tc tb) : Mk K (He.ga K (so "Scope")) (He.ma K (He.ga K (so "Scope")) "__init__") := He.mkr_ok (F.says.says.fact 23 rfl)
theorem Fx.mt_Scope_has_expr (F : Fx K mg base tc tb) : Meth K (He.ga K (so "Scope")) (so "has_expr") (He.ma K (He.ga K (so "Scope")) "has_expr") := He.meth_ok (F.says.says.fact 24 rfl)
theorem Fx.mt_Scope_has_test (F : Fx K mg base tc tb) : Meth K (He.ga K (so "Scope")) (so "has_test") (He.ma K (He.ga K (so "Scope")) "has_test") := He.meth_ok (F.says.says.fact 25 rfl)
theorem Fx.mt_Scope_has_deed (F : Fx K mg base tc tb) : Meth K (He.ga K (so "Scope")) (so "has_deed") (He.ma K (He.ga K (so "Scope")) "has_deed") := He.meth_ok (F.says.says.fact 26 rfl)
theorem Fx.mt_Scope_has_handler (F : Fx K mg base tc tb) : Meth K (He.ga K (so "Scope")) (so "has_handler") (He.ma K (He.ga K (so "Scope")) "has_handler") := He.meth_ok (F.says.says.fact 27 rfl)
theorem Fx.glo_Program (F : Fx K mg base tc tb) : mg "Program" = some (.ref (He.ga K "Program")) := He.glo_ok F.inn F.ns (F.says.says.fact 28 rfl)
theorem Fx.cl_Program (F : Fx K mg base tc tb) : Cls K (He.ga K (so "Program")) := He.cls_ok (F.says.says.fact 29 rfl)
theorem Fx.mk_Program (F : Fx K mg base tc tb) : Mk K (He.ga K (so "Program")) (He.ma K (He.ga K (so "Program")) "__init__") := He.mkr_ok (F.says.says.fact 30 rfl)
theorem Fx.mt_Program_require (F : Fx K mg base tc tb) : Meth K (He.ga K (so "Program")) (so "require") (He.ma K (He.ga K (so "Program")) "require") := He.meth_ok (F.says.says.fact 31 rfl)
theorem Fx.na_Scope_fields (F : Fx K mg base tc tb) : NoAttr K (He.ga K (so "Scope")) (so "fields") := He.noat_ok (F.says.says.fact 32 rfl)
theorem Fx.na_Scope_questions (F : Fx K mg base tc tb) : NoAttr K (He.ga K (so "Scope")) (so "questions") := He.noat_ok (F.says.says.fact 33 rfl)
theorem Fx.na_Scope_service (F : Fx K mg base tc tb) : NoAttr K (He.ga K (so "Scope")) (so "service") := He.noat_ok (F.says.says.fact 34 rfl)
theorem Fx.na_Scope_switches (F : Fx K mg base tc tb) : NoAttr K (He.ga K (so "Scope")) (so "switches") := He.noat_ok (F.says.says.fact 35 rfl)
theorem Fx.na_Program_asks (F : Fx K mg base tc tb) : NoAttr K (He.ga K (so "Program")) (so "asks") := He.noat_ok (F.says.says.fact 36 rfl)
theorem Fx.na_Program_clients (F : Fx K mg base tc tb) : NoAttr K (He.ga K (so "Program")) (so "clients") := He.noat_ok (F.says.says.fact 37 rfl)
theorem Fx.na_Program_crashes (F : Fx K mg base tc tb) : NoAttr K (He.ga K (so "Program")) (so "crashes") := He.noat_ok (F.says.says.fact 38 rfl)
theorem Fx.na_Program_doubles (F : Fx K mg base tc tb) : NoAttr K (He.ga K (so "Program")) (so "doubles") := He.noat_ok (F.says.says.fact 39 rfl)
theorem Fx.na_Program_losses (F : Fx K mg base tc tb) : NoAttr K (He.ga K (so "Program")) (so "losses") := He.noat_ok (F.says.says.fact 40 rfl)
theorem Fx.na_Program_questions (F : Fx K mg base tc tb) : NoAttr K (He.ga K (so "Program")) (so "questions") := He.noat_ok (F.says.says.fact 41 rfl)
theorem Fx.na_Program_releases (F : Fx K mg base tc tb) : NoAttr K (He.ga K (so "Program")) (so "releases") := He.noat_ok (F.says.says.fact 42 rfl)
theorem Fx.na_Program_services (F : Fx K mg base tc tb) : NoAttr K (He.ga K (so "Program")) (so "services") := He.noat_ok (F.says.says.fact 43 rfl)
theorem Fx.na_Program_switches (F : Fx K mg base tc tb) : NoAttr K (He.ga K (so "Program")) (so "switches") := He.noat_ok (F.says.says.fact 44 rfl)
theorem Fx.glo_SIGNS (F : Fx K mg base tc tb) : mg "SIGNS" = some (.ref (He.ga K "SIGNS")) := He.glo_ok F.inn F.ns (F.says.says.fact 45 rfl)
theorem Fx.z_ValueError (F : Fx K mg base tc tb) : mg "ValueError" = none := He.free_ok F.inn F.ns (F.says.says.fact 46 rfl)
theorem Fx.z_all (F : Fx K mg base tc tb) : mg "all" = none := He.free_ok F.inn F.ns (F.says.says.fact 47 rfl)
theorem Fx.z_bool (F : Fx K mg base tc tb) : mg "bool" = none := He.free_ok F.inn F.ns (F.says.says.fact 48 rfl)
theorem Fx.z_enumerate (F : Fx K mg base tc tb) : mg "enumerate" = none := He.free_ok F.inn F.ns (F.says.says.fact 49 rfl)
theorem Fx.z_int (F : Fx K mg base tc tb) : mg "int" = none := He.free_ok F.inn F.ns (F.says.says.fact 50 rfl)
theorem Fx.z_isinstance (F : Fx K mg base tc tb) : mg "isinstance" = none := He.free_ok F.inn F.ns (F.says.says.fact 51 rfl)
theorem Fx.z_len (F : Fx K mg base tc tb) : mg "len" = none := He.free_ok F.inn F.ns (F.says.says.fact 52 rfl)
theorem Fx.z_list (F : Fx K mg base tc tb) : mg "list" = none := He.free_ok F.inn F.ns (F.says.says.fact 53 rfl)
theorem Fx.z_range (F : Fx K mg base tc tb) : mg "range" = none := He.free_ok F.inn F.ns (F.says.says.fact 54 rfl)
theorem Fx.z_tuple (F : Fx K mg base tc tb) : mg "tuple" = none := He.free_ok F.inn F.ns (F.says.says.fact 55 rfl)
theorem Fx.z_zip (F : Fx K mg base tc tb) : mg "zip" = none := He.free_ok F.inn F.ns (F.says.says.fact 56 rfl)
theorem Fx.sq_SIGNS (F : Fx K mg base tc tb) : ∀ H, SqT K H (He.ga K "SIGNS") ([(.str "==" : He.Dv), (.str "!=" : He.Dv), (.str "<" : He.Dv)].map (He.Dv.v K)) := fun H => He.tupB_ok (F.says.tab 0 rfl) H
theorem Fx.rm_SIGNS (F : Fx K mg base tc tb) : ∀ H, RMs K H gl_SIGNS ([(.str "==" : He.Dv), (.str "!=" : He.Dv), (.str "<" : He.Dv)].map (He.Dv.v K)) := fun H => (RMs.cons (by unfold RM; rfl) (RMs.cons (by unfold RM; rfl) (RMs.cons (by unfold RM; rfl) RMs.nil)))
theorem Fx.at (F : Fx K mg base tc tb) : AtOk K atT := at_ok (L := atL) ⟨⟨F.cl_Scope, ⟨F.na_Scope_fields, ⟨F.na_Scope_questions, ⟨F.na_Scope_service, ⟨F.na_Scope_switches, trivial⟩⟩⟩⟩⟩, ⟨⟨F.cl_Program, ⟨F.na_Program_asks, ⟨F.na_Program_clients, ⟨F.na_Program_crashes, ⟨F.na_Program_doubles, ⟨F.na_Program_losses, ⟨F.na_Program_questions, ⟨F.na_Program_releases, ⟨F.na_Program_services, ⟨F.na_Program_switches, trivial⟩⟩⟩⟩⟩⟩⟩⟩⟩⟩, trivial⟩⟩
theorem Fx.kp_is_number (F : Fx K mg base tc tb) : PySem.W.keepIn K (.ref (He.ga K "is_number")) = true := by
  obtain ⟨fd, FD⟩ := F.says.says.def_ 1 (d := d_is_number) rfl
  exact FD.kp
theorem num_sc : An.NumSc (defScope s_is_number) := ⟨by kernel_rfl, by kernel_rfl, by kernel_rfl, by decide +kernel, by kernel_rfl, by kernel_rfl, by kernel_rfl, by kernel_rfl, by kernel_rfl, by kernel_rfl⟩
theorem num_body : An.NumBody (defBody s_is_number) "value" "least" "most" := ⟨_, _, _, _, _, _, _, _, _, _, _, _, _, _, _, rfl⟩
theorem Fx.num (F : Fx K mg base tc tb) : ∃ fd, An.NumFn K mg base (He.ga K "is_number") fd := by
  obtain ⟨fd, FD⟩ := F.says.says.def_ 1 (d := d_is_number) rfl
  exact ⟨fd, ⟨_, _, _, _, _, FD, num_sc, num_body⟩, F.z_isinstance, F.z_int, F.z_bool, fun s u v t => FunD.bindsA (ps := ["value", "least", "most"]) FD (fun _ _ _ _ _ _ us hl => match us, hl with | [_, _, _], _ => rfl) s [u, v, t] rfl⟩
abbrev N_is_number : List Str := ["value", "least", "most"]
theorem sc_is_number : FnScope N_is_number ["value", "least", "most"] (defScope s_is_number) := ⟨by kernel_rfl, by kernel_rfl, by kernel_rfl, by decide +kernel, by kernel_rfl, by decide +kernel, by decide +kernel⟩
theorem c_is_number (F : Fx K mg base tc tb) : Cal P w K mg base [tb] (He.ga K "is_number") ["value", "least", "most"] 1 W_is_number := by
  obtain ⟨fd, FD⟩ := F.says.says.def_ 1 (d := d_is_number) rfl
  exact cal_mk (N := N_is_number) FD sc_is_number (FD.bindsN fun _ _ _ _ _ _ us hl => match us, hl with | [_, _, _], _ => rfl) fun cdv A outer s H E hr =>
  (eb_one (es_ret (ee_and (ee_isi (evl 0) (glk (by kernel_rfl)) F.z_isinstance (glk (by kernel_rfl)) F.z_int (by decide +kernel) (by decide)) (ee_and (ee_not (ee_isi (evl 0) (glk (by kernel_rfl)) F.z_isinstance (glk (by kernel_rfl)) F.z_bool (by decide +kernel) (by decide))) (ee_one (ee_chain ro_le ro_le (evl 1) (evl 0) (evl 2)))))))
abbrev N_are_numbers : List Str := ["values", "least", "most"]
theorem sc_are_numbers : FnScope N_are_numbers ["values", "least", "most"] (defScope s_are_numbers) := ⟨by kernel_rfl, by kernel_rfl, by kernel_rfl, by decide +kernel, by kernel_rfl, by decide +kernel, by decide +kernel⟩
theorem c_are_numbers (F : Fx K mg base tc tb) : Cal P w K mg base [tb] (He.ga K "are_numbers") ["values", "least", "most"] 2 W_are_numbers := by
  obtain ⟨fd, FD⟩ := F.says.says.def_ 2 (d := d_are_numbers) rfl
  obtain ⟨fdn, hn⟩ := F.num
  exact cal_mkC (N := N_are_numbers) (c := tc) FD sc_are_numbers (FD.bindsN fun _ _ _ _ _ _ us hl => match us, hl with | [_, _, _], _ => rfl) (let ⟨_, _, _, _, _, _, _, _, _, _, _, lk, _⟩ := FD.ex; F.code _ _ _ _ lk) fun A outer s H E hr =>
  (eb_one (es_ret (ee_allN (i1 := 1) (i2 := 2) hr (glk (by kernel_rfl)) F.z_all F.TB (List.mem_singleton.mpr rfl) rfl genSc_of hn F.glo_is_number F.kp_is_number (evl 0) (by kernel_rfl) (by kernel_rfl) (by kernel_rfl) (by kernel_rfl) (fun _ => by kernel_rfl) (by kernel_rfl))))
abbrev N_questions_fit : List Str := ["questions", "services", "service", "args", "answers"]
theorem sc_questions_fit : FnScope N_questions_fit ["questions", "services"] (defScope s_questions_fit) := ⟨by kernel_rfl, by kernel_rfl, by kernel_rfl, by decide +kernel, by kernel_rfl, by decide +kernel, by decide +kernel⟩
theorem c_questions_fit (F : Fx K mg base tc tb) : Cal P w K mg base [tb] (He.ga K "questions_fit") ["questions", "services"] 3 W_questions_fit := by
  obtain ⟨fd, FD⟩ := F.says.says.def_ 8 (d := d_questions_fit) rfl
  exact cal_mk (N := N_questions_fit) FD sc_questions_fit (FD.bindsN fun _ _ _ _ _ _ us hl => match us, hl with | [_, _], _ => rfl) fun cdv A outer s H E hr =>
  (eb_cons (es_if (et_not (et_chain ro_le ro_le ee_int (ee_callB cr_len (glk (by kernel_rfl)) F.z_len (by decide +kernel) (ea_cons (evl 0) ea_nil)) ee_int)) (eb_one (es_ret ee_bl)) eb_nil)
  (eb_cons (es_for PassesOwn.never (by kernel_rfl) (ei_of (evl 0)) (eg_tp (by kernel_rfl) (egs_cons (eg_nm (i := 2) sc_questions_fit.nd (by kernel_rfl) (.inl (by kernel_rfl)) (.inr (by kernel_rfl))) (egs_cons (eg_nm (i := 3) sc_questions_fit.nd (by kernel_rfl) (.inl (by kernel_rfl)) (.inr (by kernel_rfl))) (egs_cons (eg_nm (i := 4) sc_questions_fit.nd (by kernel_rfl) (.inl (by kernel_rfl)) (.inr (by kernel_rfl))) egs_nil)))) (eb_one (es_if (EW.et (ew_or (et_not (et_tru (ee_call (c_is_number F) hr (by decide) (glk (by kernel_rfl)) F.glo_is_number (ea_cons (evl 2) (ea_cons ee_int (ea_cons (ee_op ro_sub (ee_callB cr_len (glk (by kernel_rfl)) F.z_len (by decide +kernel) (ea_cons (evl 1) ea_nil)) ee_int) ea_nil)))))) (ew_or1 (et_not (et_tru (ee_call (c_are_numbers F) hr (by decide) (glk (by kernel_rfl)) F.glo_are_numbers (ea_cons (ee_tup (ea_cons (evl 3) (ea_cons (evl 4) ea_nil))) (ea_cons ee_int (ea_cons ee_int ea_nil))))))))) (eb_one (es_ret ee_bl)) eb_nil)))
  (eb_one (es_ret ee_bl))))
abbrev N_releases_fit : List Str := ["program", "versions", "values", "version", "_", "known"]
theorem sc_releases_fit : FnScope N_releases_fit ["program"] (defScope s_releases_fit) := ⟨by kernel_rfl, by kernel_rfl, by kernel_rfl, by decide +kernel, by kernel_rfl, by decide +kernel, by decide +kernel⟩
theorem c_releases_fit (F : Fx K mg base tc tb) : Cal P w K mg base [tb] (He.ga K "releases_fit") ["program"] 3 W_releases_fit := by
  obtain ⟨fd, FD⟩ := F.says.says.def_ 11 (d := d_releases_fit) rfl
  exact cal_mk (N := N_releases_fit) FD sc_releases_fit (FD.bindsN fun _ _ _ _ _ _ us hl => match us, hl with | [_], _ => rfl) fun cdv A outer s H E hr =>
  (eb_cons (es_if (et_not (et_chain ro_le ro_le ee_int (ee_callB cr_len (glk (by kernel_rfl)) F.z_len (by decide +kernel) (ea_cons (ee_fld F.at (evl 0)) ea_nil)) ee_int)) (eb_one (es_ret ee_bl)) eb_nil)
  (eb_cons (es_for PassesOwn.never (by kernel_rfl) (ei_of (ee_fld F.at (evl 0))) (eg_tp (by kernel_rfl) (egs_cons (eg_nm (i := 1) sc_releases_fit.nd (by kernel_rfl) (.inl (by kernel_rfl)) (.inr (by kernel_rfl))) (egs_cons (eg_nm (i := 2) sc_releases_fit.nd (by kernel_rfl) (.inl (by kernel_rfl)) (.inr (by kernel_rfl))) egs_nil))) (eb_cons (es_if (EW.et (ew_or (et_cmp (ro_ne (hu64 hr)) (ee_callB cr_len (glk (by kernel_rfl)) F.z_len (by decide +kernel) (ea_cons (evl 1) ea_nil)) (ee_callB cr_len (glk (by kernel_rfl)) F.z_len (by decide +kernel) (ea_cons (ee_fld F.at (evl 0)) ea_nil)) (nomark _)) (ew_or (et_cmp (ro_ne (hu64 hr)) (ee_callB cr_len (glk (by kernel_rfl)) F.z_len (by decide +kernel) (ea_cons (evl 2) ea_nil)) (ee_fld F.at (evl 0)) (nomark _)) (ew_or1 (et_not (et_tru (ee_call (c_are_numbers F) hr (by decide) (glk (by kernel_rfl)) F.glo_are_numbers (ea_cons (evl 2) (ea_cons ee_int (ea_cons ee_int ea_nil)))))))))) (eb_one (es_ret ee_bl)) eb_nil)
  (eb_one (es_for PassesOwn.never (by kernel_rfl) (ei_zip (glk (by kernel_rfl)) F.z_zip (ea_cons (evl 1) (ea_cons (ee_fld F.at (evl 0)) ea_nil))) (eg_tp (by kernel_rfl) (egs_cons (eg_nm (i := 3) sc_releases_fit.nd (by kernel_rfl) (.inl (by kernel_rfl)) (.inr (by kernel_rfl))) (egs_cons (eg_tp (by kernel_rfl) (egs_cons (eg_nm (i := 4) sc_releases_fit.nd (by kernel_rfl) (.inl (by kernel_rfl)) (.inr (by kernel_rfl))) (egs_cons (eg_nm (i := 5) sc_releases_fit.nd (by kernel_rfl) (.inl (by kernel_rfl)) (.inr (by kernel_rfl))) egs_nil))) egs_nil))) (eb_one (es_if (et_not (et_tru (ee_call (c_is_number F) hr (by decide) (glk (by kernel_rfl)) F.glo_is_number (ea_cons (evl 3) (ea_cons ee_int (ea_cons (ee_op ro_sub (ee_callB cr_len (glk (by kernel_rfl)) F.z_len (by decide +kernel) (ea_cons (evl 5) ea_nil)) ee_int) ea_nil)))))) (eb_one (es_ret ee_bl)) eb_nil))))))
  (eb_one (es_ret ee_bl))))
abbrev N_Scope___init__ : List Str := ["self", "program", "service", "sizes"]
theorem sc_Scope___init__ : FnScope N_Scope___init__ ["self", "program", "service", "sizes"] (defScope s_Scope___init__) := ⟨by kernel_rfl, by kernel_rfl, by kernel_rfl, by decide +kernel, by kernel_rfl, by decide +kernel, by decide +kernel⟩
theorem c_Scope___init__ (F : Fx K mg base tc tb) : Cal P w K mg base [tb] (He.ma K (He.ga K (so "Scope")) "__init__") ["self", "program", "service", "sizes"] 1 W_Scope___init__ := by
  obtain ⟨fd, FD⟩ := F.says.says.def_ 3 (d := d_Scope___init__) rfl
  exact cal_mk (N := N_Scope___init__) FD sc_Scope___init__ (FD.bindsN fun _ _ _ _ _ _ us hl => match us, hl with | [_, _, _, _], _ => rfl) fun cdv A outer s H E hr =>
  (eb_cons (es_fld F.at (evl 0) (ee_callB cr_len (glk (by kernel_rfl)) F.z_len (by decide +kernel) (ea_cons (evl 3) ea_nil)))
  (eb_cons (es_fld F.at (evl 0) (ee_fld F.at (evl 1)))
  (eb_cons (es_fld F.at (evl 0) (ee_fld F.at (evl 1)))
  (eb_one (es_fld F.at (evl 0) (evl 2))))))
abbrev N_Scope_has_expr : List Str := ["self", "expr", "kind"]
theorem sc_Scope_has_expr : FnScope N_Scope_has_expr ["self", "expr"] (defScope s_Scope_has_expr) := ⟨by kernel_rfl, by kernel_rfl, by kernel_rfl, by decide +kernel, by kernel_rfl, by decide +kernel, by decide +kernel⟩
theorem c_Scope_has_expr (F : Fx K mg base tc tb) : Cal P w K mg base [tb] (He.ma K (He.ga K (so "Scope")) "has_expr") ["self", "expr"] 2 W_Scope_has_expr := by
  obtain ⟨fd, FD⟩ := F.says.says.def_ 4 (d := d_Scope_has_expr) rfl
  exact cal_mk (N := N_Scope_has_expr) FD sc_Scope_has_expr (FD.bindsN fun _ _ _ _ _ _ us hl => match us, hl with | [_, _], _ => rfl) fun cdv A outer s H E hr =>
  (eb_cons (es_set (i := 2) sc_Scope_has_expr.nd (by kernel_rfl) (.inl (by kernel_rfl)) (ee_ix ri_ix (evl 1) ee_int (fun _ _ => by kernel_rfl)) (hf := (.inr (by kernel_rfl))))
  (eb_cons (es_if (et_cmp (ro_in (hu65 hr)) (evl 2) (ee_tup (ea_cons ee_str (ea_cons ee_str ea_nil))) (by kernel_rfl)) (eb_one (es_ret (ee_cmp (ro_eq (hu64 hr)) (ee_callB cr_len (glk (by kernel_rfl)) F.z_len (by decide +kernel) (ea_cons (evl 1) ea_nil)) ee_int (nomark _)))) eb_nil)
  (eb_cons (es_if (et_cmp (ro_ne (hu64 hr)) (ee_callB cr_len (glk (by kernel_rfl)) F.z_len (by decide +kernel) (ea_cons (evl 1) ea_nil)) ee_int (nomark _)) (eb_one (es_ret ee_bl)) eb_nil)
  (eb_cons (es_if (et_cmp (ro_eq (hu64 hr)) (evl 2) ee_str (nomark _)) (eb_one (es_ret (ee_call (c_is_number F) hr (by decide) (glk (by kernel_rfl)) F.glo_is_number (ea_cons (ee_ix ri_ix (evl 1) ee_int (fun _ _ => by kernel_rfl)) (ea_cons ee_int (ea_cons ee_int ea_nil)))))) eb_nil)
  (eb_cons (es_if (et_cmp (ro_eq (hu64 hr)) (evl 2) ee_str (nomark _)) (eb_one (es_ret (ee_call (c_is_number F) hr (by decide) (glk (by kernel_rfl)) F.glo_is_number (ea_cons (ee_ix ri_ix (evl 1) ee_int (fun _ _ => by kernel_rfl)) (ea_cons ee_int (ea_cons (ee_op ro_sub (ee_fld F.at (evl 0)) ee_int) ea_nil)))))) eb_nil)
  (eb_one (es_ret (ee_and (ee_cmp (ro_eq (hu64 hr)) (evl 2) ee_str (nomark _)) (ee_one (ee_call (c_is_number F) hr (by decide) (glk (by kernel_rfl)) F.glo_is_number (ea_cons (ee_ix ri_ix (evl 1) ee_int (fun _ _ => by kernel_rfl)) (ea_cons ee_int (ea_cons (ee_op ro_sub (ee_fld F.at (evl 0)) ee_int) ea_nil)))))))))))))
abbrev N_Scope_has_deed : List Str := ["self", "deed", "kind", "known"]
theorem sc_Scope_has_deed : FnScope N_Scope_has_deed ["self", "deed"] (defScope s_Scope_has_deed) := ⟨by kernel_rfl, by kernel_rfl, by kernel_rfl, by decide +kernel, by kernel_rfl, by decide +kernel, by decide +kernel⟩
theorem c_Scope_has_deed (F : Fx K mg base tc tb) : Cal P w K mg base [tb] (He.ma K (He.ga K (so "Scope")) "has_deed") ["self", "deed"] 3 W_Scope_has_deed := by
  obtain ⟨fd, FD⟩ := F.says.says.def_ 6 (d := d_Scope_has_deed) rfl
  exact cal_mk (N := N_Scope_has_deed) FD sc_Scope_has_deed (FD.bindsN fun _ _ _ _ _ _ us hl => match us, hl with | [_, _], _ => rfl) fun cdv A outer s H E hr =>
  (eb_cons (es_set (i := 2) sc_Scope_has_deed.nd (by kernel_rfl) (.inl (by kernel_rfl)) (ee_ix ri_ix (evl 1) ee_int (fun _ _ => by kernel_rfl)) (hf := (.inr (by kernel_rfl))))
  (eb_cons (es_if (et_cmp (ro_eq (hu64 hr)) (evl 2) ee_str (nomark _)) (eb_one (es_ret (ee_and (ee_cmp (ro_eq (hu64 hr)) (ee_callB cr_len (glk (by kernel_rfl)) F.z_len (by decide +kernel) (ea_cons (evl 1) ea_nil)) ee_int (nomark _)) (ee_one (ee_meth (c_Scope_has_expr F) hr (by decide) F.cl_Scope F.mt_Scope_has_expr (evl 0) (ea_cons (ee_ix ri_ix (evl 1) ee_int (fun _ _ => by kernel_rfl)) ea_nil)))))) eb_nil)
  (eb_cons (es_if (et_cmp (ro_ne (hu64 hr)) (ee_callB cr_len (glk (by kernel_rfl)) F.z_len (by decide +kernel) (ea_cons (evl 1) ea_nil)) ee_int (nomark _)) (eb_one (es_ret ee_bl)) eb_nil)
  (eb_cons (es_if (et_cmp (ro_eq (hu64 hr)) (evl 2) ee_str (nomark _)) (eb_cons (es_set (i := 3) sc_Scope_has_deed.nd (by kernel_rfl) (.inl (by kernel_rfl)) (ee_call (c_is_number F) hr (by decide) (glk (by kernel_rfl)) F.glo_is_number (ea_cons (ee_ix ri_ix (evl 1) ee_int (fun _ _ => by kernel_rfl)) (ea_cons ee_int (ea_cons (ee_op ro_sub (ee_callB cr_len (glk (by kernel_rfl)) F.z_len (by decide +kernel) (ea_cons (ee_fld F.at (evl 0)) ea_nil)) ee_int) ea_nil)))) (hf := (.inr (by kernel_rfl))))
  (eb_one (es_ret (ee_and (evl 3) (ee_and (ee_cmp ro_gt (ee_ix ri_ix (ee_ix ri_ix (ee_fld F.at (evl 0)) (ee_ix ri_ix (evl 1) ee_int (fun _ _ => by kernel_rfl)) (fun _ _ => by kernel_rfl)) ee_int (fun _ _ => by kernel_rfl)) (ee_fld F.at (evl 0)) (nomark _)) (ee_one (ee_meth (c_Scope_has_expr F) hr (by decide) F.cl_Scope F.mt_Scope_has_expr (evl 0) (ea_cons (ee_ix ri_ix (evl 1) ee_int (fun _ _ => by kernel_rfl)) ea_nil)))))))) eb_nil)
  (eb_cons (es_if (EW.et (ew_or (et_cmp (ro_notin (hu65 hr)) (evl 2) (ee_tup (ea_cons ee_str (ea_cons ee_str ea_nil))) (by kernel_rfl)) (ew_or1 (et_not (et_tru (ee_call (c_is_number F) hr (by decide) (glk (by kernel_rfl)) F.glo_is_number (ea_cons (ee_ix ri_ix (evl 1) ee_int (fun _ _ => by kernel_rfl)) (ea_cons ee_int (ea_cons (ee_op ro_sub (ee_fld F.at (evl 0)) ee_int) ea_nil))))))))) (eb_one (es_ret ee_bl)) eb_nil)
  (eb_one (es_ret (ee_if (et_cmp (ro_eq (hu64 hr)) (evl 2) ee_str (nomark _)) (ee_meth (c_Scope_has_expr F) hr (by decide) F.cl_Scope F.mt_Scope_has_expr (evl 0) (ea_cons (ee_ix ri_ix (evl 1) ee_int (fun _ _ => by kernel_rfl)) ea_nil)) (ee_call (c_is_number F) hr (by decide) (glk (by kernel_rfl)) F.glo_is_number (ea_cons (ee_ix ri_ix (evl 1) ee_int (fun _ _ => by kernel_rfl)) (ea_cons ee_int (ea_cons ee_int ea_nil))))))))))))
abbrev N_Scope_has_test : List Str := ["self", "test"]
theorem sc_Scope_has_test : FnScope N_Scope_has_test ["self", "test"] (defScope s_Scope_has_test) := ⟨by kernel_rfl, by kernel_rfl, by kernel_rfl, by decide +kernel, by kernel_rfl, by decide +kernel, by decide +kernel⟩
theorem c_Scope_has_test (F : Fx K mg base tc tb) : Cal P w K mg base [tb] (He.ma K (He.ga K (so "Scope")) "has_test") ["self", "test"] 3 W_Scope_has_test := by
  obtain ⟨fd, FD⟩ := F.says.says.def_ 5 (d := d_Scope_has_test) rfl
  exact cal_mk (N := N_Scope_has_test) FD sc_Scope_has_test (FD.bindsN fun _ _ _ _ _ _ us hl => match us, hl with | [_, _], _ => rfl) fun cdv A outer s H E hr =>
  (eb_cons (es_if (et_cmp ro_is (evl 1) ee_non (nomark _)) (eb_one (es_ret ee_bl)) eb_nil)
  (eb_one (es_ret (ee_and (ee_cmp (ro_eq (hu64 hr)) (ee_callB cr_len (glk (by kernel_rfl)) F.z_len (by decide +kernel) (ea_cons (evl 1) ea_nil)) ee_int (nomark _)) (ee_and (ee_meth (c_Scope_has_expr F) hr (by decide) F.cl_Scope F.mt_Scope_has_expr (evl 0) (ea_cons (ee_ix ri_ix (evl 1) ee_int (fun _ _ => by kernel_rfl)) ea_nil)) (ee_and (ee_cmp (ro_in (hu65 hr)) (ee_ix ri_ix (evl 1) ee_int (fun _ _ => by kernel_rfl)) (ee_gtup (glk (by kernel_rfl)) F.glo_SIGNS F.sq_SIGNS F.rm_SIGNS) (by kernel_rfl)) (ee_one (ee_meth (c_Scope_has_expr F) hr (by decide) F.cl_Scope F.mt_Scope_has_expr (evl 0) (ea_cons (ee_ix ri_ix (evl 1) ee_int (fun _ _ => by kernel_rfl)) ea_nil)))))))))
abbrev N_Scope_has_handler : List Str := ["self", "question", "handler", "asked", "test", "deed"]
theorem sc_Scope_has_handler : FnScope N_Scope_has_handler ["self", "question", "handler"] (defScope s_Scope_has_handler) := ⟨by kernel_rfl, by kernel_rfl, by kernel_rfl, by decide +kernel, by kernel_rfl, by decide +kernel, by decide +kernel⟩
theorem c_Scope_has_handler (F : Fx K mg base tc tb) : Cal P w K mg base [tb] (He.ma K (He.ga K (so "Scope")) "has_handler") ["self", "question", "handler"] 4 W_Scope_has_handler := by
  obtain ⟨fd, FD⟩ := F.says.says.def_ 7 (d := d_Scope_has_handler) rfl
  exact cal_mk (N := N_Scope_has_handler) FD sc_Scope_has_handler (FD.bindsN fun _ _ _ _ _ _ us hl => match us, hl with | [_, _, _], _ => rfl) fun cdv A outer s H E hr =>
  (eb_cons (es_if (et_cmp ro_is (evl 2) ee_non (nomark _)) (eb_one (es_ret ee_bl)) eb_nil)
  (eb_cons (es_if (EW.et (ew_or (et_cmp (ro_ne (hu64 hr)) (ee_ix ri_ix (ee_ix ri_ix (ee_fld F.at (evl 0)) (evl 1) (fun _ _ => by kernel_rfl)) ee_int (fun _ _ => by kernel_rfl)) (ee_fld F.at (evl 0)) (nomark _)) (ew_or1 (et_not (et_chain ro_le ro_le ee_int (ee_callB cr_len (glk (by kernel_rfl)) F.z_len (by decide +kernel) (ea_cons (evl 2) ea_nil)) ee_int))))) (eb_one (es_ret ee_bl)) eb_nil)
  (eb_cons (es_set (i := 3) sc_Scope_has_handler.nd (by kernel_rfl) (.inl (by kernel_rfl)) ee_int (hf := (.inr (by kernel_rfl))))
  (eb_cons (es_for PassesOwn.never (by kernel_rfl) (ei_of (evl 2)) (eg_tp (by kernel_rfl) (egs_cons (eg_nm (i := 4) sc_Scope_has_handler.nd (by kernel_rfl) (.inl (by kernel_rfl)) (.inr (by kernel_rfl))) (egs_cons (eg_nm (i := 5) sc_Scope_has_handler.nd (by kernel_rfl) (.inl (by kernel_rfl)) (.inr (by kernel_rfl))) egs_nil))) (eb_cons (es_if (EW.et (ew_or (et_not (et_tru (ee_meth (c_Scope_has_test F) hr (by decide) F.cl_Scope F.mt_Scope_has_test (evl 0) (ea_cons (evl 4) ea_nil)))) (ew_or1 (et_not (et_tru (ee_meth (c_Scope_has_deed F) hr (by decide) F.cl_Scope F.mt_Scope_has_deed (evl 0) (ea_cons (evl 5) ea_nil))))))) (eb_one (es_ret ee_bl)) eb_nil)
  (eb_one (es_aug (i := 3) sc_Scope_has_handler.nd (by kernel_rfl) (.inl (by kernel_rfl)) (ee_callTy cr_int (glk (by kernel_rfl)) F.z_int (by decide +kernel) (ea_cons (ee_cmp (ro_eq (hu64 hr)) (ee_ix ri_ix (evl 5) ee_int (fun _ _ => by kernel_rfl)) ee_str (nomark _)) ea_nil)) ri_iadd (hf := (.inr (by kernel_rfl)))))))
  (eb_one (es_ret (ee_cmp ro_le (evl 3) ee_int (nomark _))))))))
abbrev N_record_count : List Str := ["sizes", "count", "size"]
theorem sc_record_count : FnScope N_record_count ["sizes"] (defScope s_record_count) := ⟨by kernel_rfl, by kernel_rfl, by kernel_rfl, by decide +kernel, by kernel_rfl, by decide +kernel, by decide +kernel⟩
theorem c_record_count (F : Fx K mg base tc tb) : Cal P w K mg base [tb] (He.ga K "record_count") ["sizes"] 1 W_record_count := by
  obtain ⟨fd, FD⟩ := F.says.says.def_ 0 (d := d_record_count) rfl
  exact cal_mk (N := N_record_count) FD sc_record_count (FD.bindsN fun _ _ _ _ _ _ us hl => match us, hl with | [_], _ => rfl) fun cdv A outer s H E hr =>
  (eb_cons (es_set (i := 1) sc_record_count.nd (by kernel_rfl) (.inl (by kernel_rfl)) ee_int (hf := (.inr (by kernel_rfl))))
  (eb_cons (es_for PassesOwn.never (by kernel_rfl) (ei_of (evl 0)) (eg_nm (i := 2) sc_record_count.nd (by kernel_rfl) (.inl (by kernel_rfl)) (.inr (by kernel_rfl))) (eb_one (es_set (i := 1) sc_record_count.nd (by kernel_rfl) (.inl (by kernel_rfl)) (ee_op ro_mul (evl 1) (evl 2)) (hf := (.inr (by kernel_rfl))))))
  (eb_one (es_ret (evl 1)))))
abbrev N_require_version : List Str := ["program", "service", "versions", "version", "count", "below", "scope", "sizes", "up", "down", "handlers", "question", "handler"]
theorem sc_require_version : FnScope N_require_version ["program", "service", "versions", "version"] (defScope s_require_version) := ⟨by kernel_rfl, by kernel_rfl, by kernel_rfl, by decide +kernel, by kernel_rfl, by decide +kernel, by decide +kernel⟩
theorem c_require_version (F : Fx K mg base tc tb) : Cal P w K mg base [tb] (He.ga K "require_version") ["program", "service", "versions", "version"] 5 W_require_version := by
  obtain ⟨fd, FD⟩ := F.says.says.def_ 9 (d := d_require_version) rfl
  exact cal_mk (N := N_require_version) FD sc_require_version (FD.bindsN fun _ _ _ _ _ _ us hl => match us, hl with | [_, _, _, _], _ => rfl) fun cdv A outer s H E hr =>
  (eb_cons (es_pat (ee_ix ri_ix (evl 2) (evl 3) (fun _ _ => by kernel_rfl)) (eg_tp (by kernel_rfl) (egs_cons (eg_nm (i := 7) sc_require_version.nd (by kernel_rfl) (.inl (by kernel_rfl)) (.inr (by kernel_rfl))) (egs_cons (eg_nm (i := 8) sc_require_version.nd (by kernel_rfl) (.inl (by kernel_rfl)) (.inr (by kernel_rfl))) (egs_cons (eg_nm (i := 9) sc_require_version.nd (by kernel_rfl) (.inl (by kernel_rfl)) (.inr (by kernel_rfl))) (egs_cons (eg_nm (i := 10) sc_require_version.nd (by kernel_rfl) (.inl (by kernel_rfl)) (.inr (by kernel_rfl))) egs_nil))))))
  (eb_cons (es_if (EW.et (ew_or (et_not (et_chain ro_le ro_le ee_int (ee_callB cr_len (glk (by kernel_rfl)) F.z_len (by decide +kernel) (ea_cons (evl 7) ea_nil)) ee_int)) (ew_or1 (et_not (et_tru (ee_call (c_are_numbers F) hr (by decide) (glk (by kernel_rfl)) F.glo_are_numbers (ea_cons (evl 7) (ea_cons ee_int (ea_cons ee_int ea_nil))))))))) (eb_one es_never) eb_nil)
  (eb_cons (es_set (i := 4) sc_require_version.nd (by kernel_rfl) (.inl (by kernel_rfl)) (ee_call (c_record_count F) hr (by decide) (glk (by kernel_rfl)) F.glo_record_count (ea_cons (evl 7) ea_nil)) (hf := (.inr (by kernel_rfl))))
  (eb_cons (es_set (i := 5) sc_require_version.nd (by kernel_rfl) (.inl (by kernel_rfl)) ee_int (hf := (.inr (by kernel_rfl))))
  (eb_cons (es_if (et_cmp ro_gt (evl 3) ee_int (nomark _)) (eb_one (es_set (i := 5) sc_require_version.nd (by kernel_rfl) (.inl (by kernel_rfl)) (ee_call (c_record_count F) hr (by decide) (glk (by kernel_rfl)) F.glo_record_count (ea_cons (ee_ix ri_ix (ee_ix ri_ix (evl 2) (ee_op ro_sub (evl 3) ee_int) (fun _ _ => by kernel_rfl)) ee_int (fun _ _ => by kernel_rfl)) ea_nil)) (hf := (.inr (by kernel_rfl))))) eb_nil)
  (eb_cons (es_if (EW.et (ew_or (et_cmp (ro_ne (hu64 hr)) (ee_callB cr_len (glk (by kernel_rfl)) F.z_len (by decide +kernel) (ea_cons (evl 8) ea_nil)) (evl 5) (nomark _)) (ew_or1 (et_not (et_tru (ee_call (c_are_numbers F) hr (by decide) (glk (by kernel_rfl)) F.glo_are_numbers (ea_cons (evl 8) (ea_cons ee_int (ea_cons (ee_op ro_sub (evl 4) ee_int) ea_nil))))))))) (eb_one es_never) eb_nil)
  (eb_cons (es_if (EW.et (ew_or (et_cmp (ro_ne (hu64 hr)) (ee_callB cr_len (glk (by kernel_rfl)) F.z_len (by decide +kernel) (ea_cons (evl 9) ea_nil)) (ee_if (et_cmp ro_gt (evl 3) ee_int (nomark _)) (evl 4) ee_int) (nomark _)) (ew_or1 (et_not (et_tru (ee_call (c_are_numbers F) hr (by decide) (glk (by kernel_rfl)) F.glo_are_numbers (ea_cons (evl 9) (ea_cons ee_int (ea_cons (ee_op ro_sub (evl 5) ee_int) ea_nil))))))))) (eb_one es_never) eb_nil)
  (eb_cons (es_set (i := 6) sc_require_version.nd (by kernel_rfl) (.inl (by kernel_rfl)) (ee_make (c_Scope___init__ F) F.mk_Scope hr (by decide) (glk (by kernel_rfl)) F.glo_Scope (ea_cons (evl 0) (ea_cons (evl 1) (ea_cons (evl 7) ea_nil)))) (hf := (.inr (by kernel_rfl))))
  (eb_cons (es_if (et_cmp (ro_ne (hu64 hr)) (ee_callB cr_len (glk (by kernel_rfl)) F.z_len (by decide +kernel) (ea_cons (evl 10) ea_nil)) (ee_callB cr_len (glk (by kernel_rfl)) F.z_len (by decide +kernel) (ea_cons (ee_fld F.at (evl 0)) ea_nil)) (nomark _)) (eb_one es_never) eb_nil)
  (eb_one (es_for PassesOwn.never (by kernel_rfl) (ei_enum (glk (by kernel_rfl)) F.z_enumerate (ea_cons (evl 10) ea_nil)) (eg_tp (by kernel_rfl) (egs_cons (eg_nm (i := 11) sc_require_version.nd (by kernel_rfl) (.inl (by kernel_rfl)) (.inr (by kernel_rfl))) (egs_cons (eg_nm (i := 12) sc_require_version.nd (by kernel_rfl) (.inl (by kernel_rfl)) (.inr (by kernel_rfl))) egs_nil))) (eb_one (es_if (et_not (et_tru (ee_meth (c_Scope_has_handler F) hr (by decide) F.cl_Scope F.mt_Scope_has_handler (evl 6) (ea_cons (evl 11) (ea_cons (evl 12) ea_nil))))) (eb_one es_never) eb_nil)))))))))))))
abbrev N_require_services : List Str := ["program", "service", "version", "instances", "versions"]
theorem sc_require_services : FnScope N_require_services ["program"] (defScope s_require_services) := ⟨by kernel_rfl, by kernel_rfl, by kernel_rfl, by decide +kernel, by kernel_rfl, by decide +kernel, by decide +kernel⟩
theorem c_require_services (F : Fx K mg base tc tb) : Cal P w K mg base [tb] (He.ga K "require_services") ["program"] 6 W_require_services := by
  obtain ⟨fd, FD⟩ := F.says.says.def_ 10 (d := d_require_services) rfl
  exact cal_mk (N := N_require_services) FD sc_require_services (FD.bindsN fun _ _ _ _ _ _ us hl => match us, hl with | [_], _ => rfl) fun cdv A outer s H E hr =>
  (eb_cons (es_if (et_not (et_chain ro_le ro_le ee_int (ee_callB cr_len (glk (by kernel_rfl)) F.z_len (by decide +kernel) (ea_cons (ee_fld F.at (evl 0)) ea_nil)) ee_int)) (eb_one es_never) eb_nil)
  (eb_one (es_for PassesOwn.never (by kernel_rfl) (ei_enum (glk (by kernel_rfl)) F.z_enumerate (ea_cons (ee_fld F.at (evl 0)) ea_nil)) (eg_tp (by kernel_rfl) (egs_cons (eg_nm (i := 1) sc_require_services.nd (by kernel_rfl) (.inl (by kernel_rfl)) (.inr (by kernel_rfl))) (egs_cons (eg_tp (by kernel_rfl) (egs_cons (eg_nm (i := 3) sc_require_services.nd (by kernel_rfl) (.inl (by kernel_rfl)) (.inr (by kernel_rfl))) (egs_cons (eg_nm (i := 4) sc_require_services.nd (by kernel_rfl) (.inl (by kernel_rfl)) (.inr (by kernel_rfl))) egs_nil))) egs_nil))) (eb_cons (es_if (et_not (et_tru (ee_call (c_is_number F) hr (by decide) (glk (by kernel_rfl)) F.glo_is_number (ea_cons (evl 3) (ea_cons ee_int (ea_cons ee_int ea_nil)))))) (eb_one es_never) eb_nil)
  (eb_cons (es_if (et_not (et_chain ro_le ro_le ee_int (ee_callB cr_len (glk (by kernel_rfl)) F.z_len (by decide +kernel) (ea_cons (evl 4) ea_nil)) ee_int)) (eb_one es_never) eb_nil)
  (eb_one (es_for PassesOwn.never (by kernel_rfl) (ei_rng1 (glk (by kernel_rfl)) F.z_range (ea_cons (ee_callB cr_len (glk (by kernel_rfl)) F.z_len (by decide +kernel) (ea_cons (evl 4) ea_nil)) ea_nil)) (eg_nm (i := 2) sc_require_services.nd (by kernel_rfl) (.inl (by kernel_rfl)) (.inr (by kernel_rfl))) (eb_one (es_expr (ee_call (c_require_version F) hr (by decide) (glk (by kernel_rfl)) F.glo_require_version (ea_cons (evl 0) (ea_cons (evl 1) (ea_cons (evl 4) (ea_cons (evl 2) ea_nil))))))))))))))
abbrev N_Program_require : List Str := ["self", "part", "count"]
theorem sc_Program_require : FnScope N_Program_require ["self"] (defScope s_Program_require) := ⟨by kernel_rfl, by kernel_rfl, by kernel_rfl, by decide +kernel, by kernel_rfl, by decide +kernel, by decide +kernel⟩
theorem c_Program_require (F : Fx K mg base tc tb) : Cal P w K mg base [tb] (He.ma K (He.ga K (so "Program")) "require") ["self"] 7 W_Program_require := by
  obtain ⟨fd, FD⟩ := F.says.says.def_ 13 (d := d_Program_require) rfl
  exact cal_mk (N := N_Program_require) FD sc_Program_require (FD.bindsN fun _ _ _ _ _ _ us hl => match us, hl with | [_], _ => rfl) fun cdv A outer s H E hr =>
  (eb_cons (es_if (et_not (et_tru (ee_call (c_is_number F) hr (by decide) (glk (by kernel_rfl)) F.glo_is_number (ea_cons (ee_fld F.at (evl 0)) (ea_cons ee_int (ea_cons ee_int ea_nil)))))) (eb_one es_never) eb_nil)
  (eb_cons (es_if (et_not (et_tru (ee_call (c_questions_fit F) hr (by decide) (glk (by kernel_rfl)) F.glo_questions_fit (ea_cons (ee_fld F.at (evl 0)) (ea_cons (ee_fld F.at (evl 0)) ea_nil))))) (eb_one es_never) eb_nil)
  (eb_cons (es_expr (ee_call (c_require_services F) hr (by decide) (glk (by kernel_rfl)) F.glo_require_services (ea_cons (evl 0) ea_nil)))
  (eb_cons (es_if (et_not (et_tru (ee_call (c_releases_fit F) hr (by decide) (glk (by kernel_rfl)) F.glo_releases_fit (ea_cons (evl 0) ea_nil)))) (eb_one es_never) eb_nil)
  (eb_cons (es_if (et_not (et_tru (ee_call (c_is_number F) hr (by decide) (glk (by kernel_rfl)) F.glo_is_number (ea_cons (ee_fld F.at (evl 0)) (ea_cons ee_int (ea_cons ee_int ea_nil)))))) (eb_one es_never) eb_nil)
  (eb_cons (es_if (et_not (et_tru (ee_call (c_is_number F) hr (by decide) (glk (by kernel_rfl)) F.glo_is_number (ea_cons (ee_fld F.at (evl 0)) (ea_cons ee_int (ea_cons ee_int ea_nil)))))) (eb_one es_never) eb_nil)
  (eb_one (es_for PassesOwn.never (by kernel_rfl) (ei_of (ee_tup (ea_cons (ee_tup (ea_cons ee_str (ea_cons (ee_fld F.at (evl 0)) ea_nil))) (ea_cons (ee_tup (ea_cons ee_str (ea_cons (ee_fld F.at (evl 0)) ea_nil))) (ea_cons (ee_tup (ea_cons ee_str (ea_cons (ee_fld F.at (evl 0)) ea_nil))) ea_nil))))) (eg_tp (by kernel_rfl) (egs_cons (eg_nm (i := 1) sc_Program_require.nd (by kernel_rfl) (.inl (by kernel_rfl)) (.inr (by kernel_rfl))) (egs_cons (eg_nm (i := 2) sc_Program_require.nd (by kernel_rfl) (.inl (by kernel_rfl)) (.inr (by kernel_rfl))) egs_nil))) (eb_one (es_if (et_not (et_tru (ee_call (c_is_number F) hr (by decide) (glk (by kernel_rfl)) F.glo_is_number (ea_cons (evl 2) (ea_cons ee_int (ea_cons ee_int ea_nil)))))) (eb_one es_never) eb_nil))))))))))
abbrev N_Program___init__ : List Str := ["self", "questions", "services", "releases", "switches", "clients", "asks", "losses", "doubles", "crashes"]
theorem sc_Program___init__ : FnScope N_Program___init__ ["self", "questions", "services", "releases", "switches", "clients", "asks", "losses", "doubles", "crashes"] (defScope s_Program___init__) := ⟨by kernel_rfl, by kernel_rfl, by kernel_rfl, by decide +kernel, by kernel_rfl, by decide +kernel, by decide +kernel⟩
theorem c_kw0 (F : Fx K mg base tc tb) : CalK P w K mg base [tb] (He.ma K (He.ga K (so "Program")) "__init__") ["self", "questions", "services", "releases", "switches", "clients", "asks", "losses", "doubles", "crashes"] ["switches", "questions", "services", "releases", "clients", "asks", "losses", "doubles", "crashes"] 8 W_Program___init__ gM_0 := by
  obtain ⟨fd, FD⟩ := F.says.says.def_ 12 (d := d_Program___init__) rfl
  refine calK_mk (N := N_Program___init__) (ks := ["switches", "questions", "services", "releases", "clients", "asks", "losses", "doubles", "crashes"]) FD sc_Program___init__ sel_0 [] dM_0 (by intro h; cases h) (fun q hq => ?_) (fun H => RMs.nil) (fun _ _ _ _ _ _ us mv ws l1 l2 l3 => ?_) fun cdv A outer s H E hr =>
  (eb_cons (es_fld F.at (evl 0) (evl 1))
  (eb_cons (es_fld F.at (evl 0) (evl 2))
  (eb_cons (es_fld F.at (evl 0) (evl 3))
  (eb_cons (es_fld F.at (evl 0) (evl 4))
  (eb_cons (es_fld F.at (evl 0) (evl 5))
  (eb_cons (es_fld F.at (evl 0) (evl 6))
  (eb_cons (es_fld F.at (evl 0) (evl 7))
  (eb_cons (es_fld F.at (evl 0) (evl 8))
  (eb_cons (es_fld F.at (evl 0) (evl 9))
  (eb_one (es_expr (ee_meth0 (c_Program_require F) hr (by decide) F.cl_Program F.mt_Program_require (evl 0)))))))))))))
  · cases hq
  · match us, l1 with
    | [_], _ => match mv, l2 with
      | [], _ => match ws, l3 with
        | [_, _, _, _, _, _, _, _, _], _ => (show bindArgs _ _ = pure _; kernel_rfl)
theorem c_kw1 (F : Fx K mg base tc tb) : CalK P w K mg base [tb] (He.ma K (He.ga K (so "Program")) "__init__") ["self", "questions", "services", "releases", "switches", "clients", "asks", "losses", "doubles", "crashes"] ["questions", "services", "releases"] 8 W_Program___init__ gM_1 := by
  obtain ⟨fd, FD⟩ := F.says.says.def_ 12 (d := d_Program___init__) rfl
  refine calK_mk (N := N_Program___init__) (ks := ["questions", "services", "releases"]) FD sc_Program___init__ sel_1 [("switches", .int 0), ("clients", .int 1), ("asks", .int 1), ("losses", .int 0), ("doubles", .int 0), ("crashes", .int 0)] dM_1 (by intro h; cases h) (fun q hq => ?_) (fun H => (RMs.cons (by unfold RM; rfl) (RMs.cons (by unfold RM; rfl) (RMs.cons (by unfold RM; rfl) (RMs.cons (by unfold RM; rfl) (RMs.cons (by unfold RM; rfl) (RMs.cons (by unfold RM; rfl) RMs.nil))))))) (fun _ _ _ _ _ _ us mv ws l1 l2 l3 => ?_) fun cdv A outer s H E hr =>
  (eb_cons (es_fld F.at (evl 0) (evl 1))
  (eb_cons (es_fld F.at (evl 0) (evl 2))
  (eb_cons (es_fld F.at (evl 0) (evl 3))
  (eb_cons (es_fld F.at (evl 0) (evl 4))
  (eb_cons (es_fld F.at (evl 0) (evl 5))
  (eb_cons (es_fld F.at (evl 0) (evl 6))
  (eb_cons (es_fld F.at (evl 0) (evl 7))
  (eb_cons (es_fld F.at (evl 0) (evl 8))
  (eb_cons (es_fld F.at (evl 0) (evl 9))
  (eb_one (es_expr (ee_meth0 (c_Program_require F) hr (by decide) F.cl_Program F.mt_Program_require (evl 0)))))))))))))
  · simp only [List.mem_cons, List.not_mem_nil, or_false] at hq
    rcases hq with rfl | rfl | rfl | rfl | rfl | rfl
    · exact List.mem_of_getElem? (i := 0) rfl
    · exact List.mem_of_getElem? (i := 1) rfl
    · exact List.mem_of_getElem? (i := 2) rfl
    · exact List.mem_of_getElem? (i := 3) rfl
    · exact List.mem_of_getElem? (i := 4) rfl
    · exact List.mem_of_getElem? (i := 5) rfl
  · match us, l1 with
    | [_], _ => match mv, l2 with
      | [_, _, _, _, _, _], _ => match ws, l3 with
        | [_, _, _], _ => exact ⟨_, _, _, _, _, _, rfl, rfl, ⟨_, _, _, _, _, _, rfl, rfl, ⟨_, _, _, _, _, _, rfl, rfl, ⟨_, _, _, _, _, _, rfl, rfl, ⟨_, _, _, _, _, _, rfl, rfl, ⟨_, _, _, _, _, _, rfl, rfl, rfl⟩⟩⟩⟩⟩⟩
abbrev N__law_bare : List Str := ["_law_data_here", "_law_rows", "_law_plain", "_law_bare_here", "_law_count_here", "_law_versions", "_law_kept", "_law_values", "_law_row", "_law_one"]
theorem sc__law_bare : FnScope N__law_bare ["_law_data_here"] (defScope s__law_bare) := ⟨by kernel_rfl, by kernel_rfl, by kernel_rfl, by decide +kernel, by kernel_rfl, by decide +kernel, by decide +kernel⟩
theorem c__law_bare (F : Fx K mg base tc tb) : Cal P w K mg base [tb] (He.ga K "_law_bare") ["_law_data_here"] 10 W__law_bare := by
  obtain ⟨fd, FD⟩ := F.says.says.def_ 26 (d := d__law_bare) rfl
  exact cal_mk (N := N__law_bare) FD sc__law_bare (FD.bindsN fun _ _ _ _ _ _ us hl => match us, hl with | [_], _ => rfl) fun cdv A outer s H E hr =>
  (eb_cons (es_set (i := 1) sc__law_bare.nd (by kernel_rfl) (.inl (by kernel_rfl)) (ee_callTy cr_tuple (glk (by kernel_rfl)) F.z_tuple (by decide +kernel) (ea_cons (ee_lcV (by kernel_rfl) sc__law_bare.nd (ei_of (ee_dget (hu1 hr) (evl 0) ee_str (fun _ _ => by kernel_rfl))) (blkOk_by (own := [("_law_versions", 5), ("_law_values", 7)]) (by kernel_rfl)) (fun _ _ _ _ _ => (eg_tp (by kernel_rfl) (egs_cons (eg_nm (i := 5) sc__law_bare.nd (by kernel_rfl) (.inl (by kernel_rfl)) (.inr (by kernel_rfl))) (egs_cons (eg_nm (i := 7) sc__law_bare.nd (by kernel_rfl) (.inl (by kernel_rfl)) (.inr (by kernel_rfl))) egs_nil)))) (fun _ _ _ _ _ => ets_nil) (fun _ _ _ _ _ => (ee_tup (ea_cons (evl 5) (ea_cons (ee_tup ea_nil) ea_nil))))) ea_nil)) (hf := (.inr (by kernel_rfl))))
  (eb_cons (es_set (i := 2) sc__law_bare.nd (by kernel_rfl) (.inl (by kernel_rfl)) (ee_lst ea_nil) (hf := (.inr (by kernel_rfl))))
  (eb_cons (es_for PassesOwn.never (by kernel_rfl) (ei_of (ee_dget (hu1 hr) (evl 0) ee_str (fun _ _ => by kernel_rfl))) (eg_tp (by kernel_rfl) (egs_cons (eg_nm (i := 4) sc__law_bare.nd (by kernel_rfl) (.inl (by kernel_rfl)) (.inr (by kernel_rfl))) (egs_cons (eg_nm (i := 5) sc__law_bare.nd (by kernel_rfl) (.inl (by kernel_rfl)) (.inr (by kernel_rfl))) egs_nil))) (eb_cons (es_set (i := 6) sc__law_bare.nd (by kernel_rfl) (.inl (by kernel_rfl)) (ee_callTy cr_tuple (glk (by kernel_rfl)) F.z_tuple (by decide +kernel) (ea_cons (ee_lcV (by kernel_rfl) sc__law_bare.nd (ei_of (evl 5)) (blkOk_by (own := [("_law_row", 8)]) (by kernel_rfl)) (fun _ _ _ _ _ => (eg_nm (i := 8) sc__law_bare.nd (by kernel_rfl) (.inl (by kernel_rfl)) (.inr (by kernel_rfl)))) (fun _ _ _ _ _ => ets_nil) (fun _ _ _ _ _ => (ee_addV (ee_sliceV (evl 8) eo_no (eo_yes ee_int)) (ee_tup (ea_cons (ee_callTy cr_tuple (glk (by kernel_rfl)) F.z_tuple (by decide +kernel) (ea_cons (ee_lcV (by kernel_rfl) sc__law_bare.nd (ei_of (ee_ix ri_ix (evl 8) ee_int (fun _ _ => by kernel_rfl))) (blkOk_by (own := [("_law_one", 9)]) (by kernel_rfl)) (fun _ _ _ _ _ => (eg_nm (i := 9) sc__law_bare.nd (by kernel_rfl) (.inl (by kernel_rfl)) (.inr (by kernel_rfl)))) (fun _ _ _ _ _ => ets_nil) (fun _ _ _ _ _ => ee_non)) ea_nil)) ea_nil))))) ea_nil)) (hf := (.inr (by kernel_rfl))))
  (eb_one (es_expr (ee_bm PySem.F.plainAttrs_list PySem.F.slot_list_append PySem.F.type_list_append mr_append (evl 2) (ea_cons (ee_tup (ea_cons (evl 4) (ea_cons (evl 6) ea_nil))) ea_nil))))))
  (eb_cons (es_set (i := 3) sc__law_bare.nd (by kernel_rfl) (.inl (by kernel_rfl)) (ee_makeK (c_kw1 F) F.mk_Program hr (by decide) (glk (by kernel_rfl)) F.glo_Program (ek_cons (ee_dget (hu1 hr) (evl 0) ee_str (fun _ _ => by kernel_rfl)) (ek_cons (ee_callTy cr_tuple (glk (by kernel_rfl)) F.z_tuple (by decide +kernel) (ea_cons (evl 2) ea_nil)) (ek_cons (evl 1) ek_nil)))) (hf := (.inr (by kernel_rfl))))
  (eb_cons (es_if (et_cmp (ro_ne (hu64 hr)) (ee_tup (ea_cons (ee_fld F.at (evl 3)) (ea_cons (ee_fld F.at (evl 3)) (ea_cons (ee_fld F.at (evl 3)) (ea_cons (ee_fld F.at (evl 3)) (ea_cons (ee_fld F.at (evl 3)) (ea_cons (ee_fld F.at (evl 3)) ea_nil))))))) (ee_tup (ea_cons ee_int (ea_cons ee_int (ea_cons ee_int (ea_cons ee_int (ea_cons ee_int (ea_cons ee_int ea_nil))))))) (nomark _)) (eb_one (es_ret ee_bl)) eb_nil)
  (eb_one (es_ret (ee_and (ee_cmp (ro_eq (hu64 hr)) (ee_fld F.at (evl 3)) (ee_dget (hu1 hr) (evl 0) ee_str (fun _ _ => by kernel_rfl)) (nomark _)) (ee_and (ee_cmp (ro_eq (hu64 hr)) (ee_fld F.at (evl 3)) (ee_callTy cr_tuple (glk (by kernel_rfl)) F.z_tuple (by decide +kernel) (ea_cons (evl 2) ea_nil)) (nomark _)) (ee_one (ee_cmp (ro_eq (hu64 hr)) (ee_fld F.at (evl 3)) (evl 1) (nomark _))))))))))))
abbrev N__law_next : List Str := ["_law_state", "_law_many", "_law_drawn", "_law_cell"]
theorem sc__law_next : FnScope N__law_next ["_law_state", "_law_many"] (defScope s__law_next) := ⟨by kernel_rfl, by kernel_rfl, by kernel_rfl, by decide +kernel, by kernel_rfl, by decide +kernel, by decide +kernel⟩
theorem c__law_next (F : Fx K mg base tc tb) : Cal P w K mg base [tb] (He.ga K "_law_next") ["_law_state", "_law_many"] 1 W__law_next := by
  obtain ⟨fd, FD⟩ := F.says.says.def_ 14 (d := d__law_next) rfl
  exact cal_mk (N := N__law_next) FD sc__law_next (FD.bindsN fun _ _ _ _ _ _ us hl => match us, hl with | [_, _], _ => rfl) fun cdv A outer s H E hr =>
  (eb_cons (es_if (et_cmp ro_lt (ee_ix ri_ix (evl 0) ee_int (fun _ _ => by kernel_rfl)) (evl 1) (nomark _)) (eb_one (es_if (et_cmp ro_gt (ee_callB cr_len (glk (by kernel_rfl)) F.z_len (by decide +kernel) (ea_cons (ee_ix ri_ix (evl 0) ee_int (fun _ _ => by kernel_rfl)) ea_nil)) ee_int (nomark _)) (eb_cons (es_set (i := 3) sc__law_next.nd (by kernel_rfl) (.inl (by kernel_rfl)) (ee_bm PySem.F.plainAttrs_list PySem.F.slot_list_pop PySem.F.type_list_pop mr_pop (ee_ix ri_ix (evl 0) ee_int (fun _ _ => by kernel_rfl)) (ea_cons ee_int ea_nil)) (hf := (.inr (by kernel_rfl))))
  (eb_cons (es_sub (hu1 hr) (evl 0) ee_int (ee_if (et_cmp ro_ge (evl 3) ee_int (nomark _)) (ee_op ro_mul ee_int (evl 3)) (ee_op ro_sub (ee_op ro_mul (ee_neg ee_int) (evl 3)) ee_int)))
  (eb_one (es_sub (hu1 hr) (evl 0) ee_int (ee_op ro_mod (ee_callTy cr_int (glk (by kernel_rfl)) F.z_int (by decide +kernel) (ea_cons (ee_addV (ee_op ro_mul (ee_ix ri_ix (evl 0) ee_int (fun _ _ => by kernel_rfl)) ee_int) (ee_ix ri_ix (evl 0) ee_int (fun _ _ => by kernel_rfl))) ea_nil)) ee_int))))) (eb_cons (es_sub (hu1 hr) (evl 0) ee_int (ee_op ro_mod (ee_callTy cr_int (glk (by kernel_rfl)) F.z_int (by decide +kernel) (ea_cons (ee_addV (ee_op ro_mul (ee_ix ri_ix (evl 0) ee_int (fun _ _ => by kernel_rfl)) ee_int) ee_int) ea_nil)) ee_int))
  (eb_one (es_sub (hu1 hr) (evl 0) ee_int (ee_op ro_mod (ee_callTy cr_int (glk (by kernel_rfl)) F.z_int (by decide +kernel) (ea_cons (ee_op ro_mul (ee_ix ri_ix (evl 0) ee_int (fun _ _ => by kernel_rfl)) (ee_ix ri_ix (evl 0) ee_int (fun _ _ => by kernel_rfl))) ea_nil)) ee_int)))))) eb_nil)
  (eb_cons (es_set (i := 2) sc__law_next.nd (by kernel_rfl) (.inl (by kernel_rfl)) (ee_op ro_mod (ee_callTy cr_int (glk (by kernel_rfl)) F.z_int (by decide +kernel) (ea_cons (ee_ix ri_ix (evl 0) ee_int (fun _ _ => by kernel_rfl)) ea_nil)) (evl 1)) (hf := (.inr (by kernel_rfl))))
  (eb_cons (es_sub (hu1 hr) (evl 0) ee_int (ee_op ro_fdiv (ee_ix ri_ix (evl 0) ee_int (fun _ _ => by kernel_rfl)) (evl 1)))
  (eb_one (es_ret (evl 2))))))
abbrev N__law_bounded : List Str := ["_law_state", "_law_data_here", "_law_part"]
theorem sc__law_bounded : FnScope N__law_bounded ["_law_state", "_law_data_here"] (defScope s__law_bounded) := ⟨by kernel_rfl, by kernel_rfl, by kernel_rfl, by decide +kernel, by kernel_rfl, by decide +kernel, by decide +kernel⟩
theorem c__law_bounded (F : Fx K mg base tc tb) : Cal P w K mg base [tb] (He.ga K "_law_bounded") ["_law_state", "_law_data_here"] 2 W__law_bounded := by
  obtain ⟨fd, FD⟩ := F.says.says.def_ 25 (d := d__law_bounded) rfl
  exact cal_mk (N := N__law_bounded) FD sc__law_bounded (FD.bindsN fun _ _ _ _ _ _ us hl => match us, hl with | [_, _], _ => rfl) fun cdv A outer s H E hr =>
  (eb_cons (es_sub (hu1 hr) (evl 1) ee_str (ee_addV ee_int (ee_call (c__law_next F) hr (by decide) (glk (by kernel_rfl)) F.glo__law_next (ea_cons (evl 0) (ea_cons ee_int ea_nil)))))
  (eb_cons (es_sub (hu1 hr) (evl 1) ee_str (ee_call (c__law_next F) hr (by decide) (glk (by kernel_rfl)) F.glo__law_next (ea_cons (evl 0) (ea_cons ee_int ea_nil))))
  (eb_cons (es_for PassesOwn.never (by kernel_rfl) (ei_of (ee_lstV (ea_cons ee_str (ea_cons ee_str (ea_cons ee_str ea_nil))))) (eg_nm (i := 2) sc__law_bounded.nd (by kernel_rfl) (.inl (by kernel_rfl)) (.inr (by kernel_rfl))) (eb_one (es_sub (hu1 hr) (evl 1) (evl 2) (ee_call (c__law_next F) hr (by decide) (glk (by kernel_rfl)) F.glo__law_next (ea_cons (evl 0) (ea_cons ee_int ea_nil))))))
  (eb_one (es_ret (evl 1))))))
abbrev N__law_release : List Str := ["_law_state", "_law_data_here", "_law_versions", "_law_service_here", "_law_k"]
theorem sc__law_release : FnScope N__law_release ["_law_state", "_law_data_here"] (defScope s__law_release) := ⟨by kernel_rfl, by kernel_rfl, by kernel_rfl, by decide +kernel, by kernel_rfl, by decide +kernel, by decide +kernel⟩
theorem c__law_release (F : Fx K mg base tc tb) : Cal P w K mg base [tb] (He.ga K "_law_release") ["_law_state", "_law_data_here"] 2 W__law_release := by
  obtain ⟨fd, FD⟩ := F.says.says.def_ 22 (d := d__law_release) rfl
  exact cal_mk (N := N__law_release) FD sc__law_release (FD.bindsN fun _ _ _ _ _ _ us hl => match us, hl with | [_, _], _ => rfl) fun cdv A outer s H E hr =>
  (eb_cons (es_set (i := 2) sc__law_release.nd (by kernel_rfl) (.inl (by kernel_rfl)) (ee_callTy cr_tuple (glk (by kernel_rfl)) F.z_tuple (by decide +kernel) (ea_cons (ee_lcV (by kernel_rfl) sc__law_release.nd (ei_of (ee_dget (hu1 hr) (evl 1) ee_str (fun _ _ => by kernel_rfl))) (blkOk_by (own := [("_law_service_here", 3)]) (by kernel_rfl)) (fun _ _ _ _ _ => (eg_nm (i := 3) sc__law_release.nd (by kernel_rfl) (.inl (by kernel_rfl)) (.inr (by kernel_rfl)))) (fun _ _ _ _ _ => ets_nil) (fun _ _ _ _ _ => (ee_call (c__law_next F) hr (by decide) (glk (by kernel_rfl)) F.glo__law_next (ea_cons (evc 0) (ea_cons (ee_callB cr_len (glk (by kernel_rfl)) F.z_len (by decide +kernel) (ea_cons (ee_ix ri_ix (evl 3) ee_int (fun _ _ => by kernel_rfl)) ea_nil)) ea_nil))))) ea_nil)) (hf := (.inr (by kernel_rfl))))
  (eb_one (es_ret (ee_tup (ea_cons (evl 2) (ea_cons (ee_callTy cr_tuple (glk (by kernel_rfl)) F.z_tuple (by decide +kernel) (ea_cons (ee_lcV (by kernel_rfl) sc__law_release.nd (ei_rng1 (glk (by kernel_rfl)) F.z_range (ea_cons (ee_dget (hu1 hr) (evl 1) ee_str (fun _ _ => by kernel_rfl)) ea_nil)) (blkOk_by (own := [("_law_k", 4)]) (by kernel_rfl)) (fun _ _ _ _ _ => (eg_nm (i := 4) sc__law_release.nd (by kernel_rfl) (.inl (by kernel_rfl)) (.inr (by kernel_rfl)))) (fun _ _ _ _ _ => ets_nil) (fun _ _ _ _ _ => (ee_call (c__law_next F) hr (by decide) (glk (by kernel_rfl)) F.glo__law_next (ea_cons (evc 0) (ea_cons ee_int ea_nil))))) ea_nil)) ea_nil))))))
abbrev N__law_count : List Str := ["_law_sizes_here", "_law_count_here", "_law_size"]
theorem sc__law_count : FnScope N__law_count ["_law_sizes_here"] (defScope s__law_count) := ⟨by kernel_rfl, by kernel_rfl, by kernel_rfl, by decide +kernel, by kernel_rfl, by decide +kernel, by decide +kernel⟩
theorem c__law_count (F : Fx K mg base tc tb) : Cal P w K mg base [tb] (He.ga K "_law_count") ["_law_sizes_here"] 1 W__law_count := by
  obtain ⟨fd, FD⟩ := F.says.says.def_ 15 (d := d__law_count) rfl
  exact cal_mk (N := N__law_count) FD sc__law_count (FD.bindsN fun _ _ _ _ _ _ us hl => match us, hl with | [_], _ => rfl) fun cdv A outer s H E hr =>
  (eb_cons (es_set (i := 1) sc__law_count.nd (by kernel_rfl) (.inl (by kernel_rfl)) ee_int (hf := (.inr (by kernel_rfl))))
  (eb_cons (es_for PassesOwn.never (by kernel_rfl) (ei_of (evl 0)) (eg_nm (i := 2) sc__law_count.nd (by kernel_rfl) (.inl (by kernel_rfl)) (.inr (by kernel_rfl))) (eb_one (es_set (i := 1) sc__law_count.nd (by kernel_rfl) (.inl (by kernel_rfl)) (ee_op ro_mul (evl 1) (evl 2)) (hf := (.inr (by kernel_rfl))))))
  (eb_one (es_ret (evl 1)))))
abbrev N__law_expr : List Str := ["_law_state", "_law_data_here", "_law_sizes_here", "_law_kind"]
theorem sc__law_expr : FnScope N__law_expr ["_law_state", "_law_data_here", "_law_sizes_here"] (defScope s__law_expr) := ⟨by kernel_rfl, by kernel_rfl, by kernel_rfl, by decide +kernel, by kernel_rfl, by decide +kernel, by decide +kernel⟩
theorem c__law_expr (F : Fx K mg base tc tb) : Cal P w K mg base [tb] (He.ga K "_law_expr") ["_law_state", "_law_data_here", "_law_sizes_here"] 2 W__law_expr := by
  obtain ⟨fd, FD⟩ := F.says.says.def_ 17 (d := d__law_expr) rfl
  exact cal_mk (N := N__law_expr) FD sc__law_expr (FD.bindsN fun _ _ _ _ _ _ us hl => match us, hl with | [_, _, _], _ => rfl) fun cdv A outer s H E hr =>
  (eb_cons (es_set (i := 3) sc__law_expr.nd (by kernel_rfl) (.inl (by kernel_rfl)) (ee_call (c__law_next F) hr (by decide) (glk (by kernel_rfl)) F.glo__law_next (ea_cons (evl 0) (ea_cons ee_int ea_nil))) (hf := (.inr (by kernel_rfl))))
  (eb_cons (es_if (et_cmp (ro_eq (hu64 hr)) (evl 3) ee_int (nomark _)) (eb_one (es_ret (ee_tup (ea_cons ee_str ea_nil)))) eb_nil)
  (eb_cons (es_if (et_cmp (ro_eq (hu64 hr)) (evl 3) ee_int (nomark _)) (eb_one (es_ret (ee_tup (ea_cons ee_str ea_nil)))) eb_nil)
  (eb_cons (es_if (et_cmp ro_lt (evl 3) ee_int (nomark _)) (eb_one (es_ret (ee_tup (ea_cons ee_str (ea_cons (ee_call (c__law_next F) hr (by decide) (glk (by kernel_rfl)) F.glo__law_next (ea_cons (evl 0) (ea_cons (ee_callB cr_len (glk (by kernel_rfl)) F.z_len (by decide +kernel) (ea_cons (evl 2) ea_nil)) ea_nil))) ea_nil))))) eb_nil)
  (eb_cons (es_if (EW.et (ew_and (et_cmp (ro_eq (hu64 hr)) (evl 3) ee_int (nomark _)) (ew_and1 (et_cmp ro_gt (ee_dget (hu1 hr) (evl 1) ee_str (fun _ _ => by kernel_rfl)) ee_int (nomark _))))) (eb_one (es_ret (ee_tup (ea_cons ee_str (ea_cons (ee_call (c__law_next F) hr (by decide) (glk (by kernel_rfl)) F.glo__law_next (ea_cons (evl 0) (ea_cons (ee_dget (hu1 hr) (evl 1) ee_str (fun _ _ => by kernel_rfl)) ea_nil))) ea_nil))))) eb_nil)
  (eb_one (es_ret (ee_tup (ea_cons ee_str (ea_cons (ee_call (c__law_next F) hr (by decide) (glk (by kernel_rfl)) F.glo__law_next (ea_cons (evl 0) (ea_cons ee_int ea_nil))) ea_nil))))))))))
abbrev N__law_deed : List Str := ["_law_state", "_law_data_here", "_law_sizes_here", "_law_later", "_law_kind"]
theorem sc__law_deed : FnScope N__law_deed ["_law_state", "_law_data_here", "_law_sizes_here", "_law_later"] (defScope s__law_deed) := ⟨by kernel_rfl, by kernel_rfl, by kernel_rfl, by decide +kernel, by kernel_rfl, by decide +kernel, by decide +kernel⟩
theorem c__law_deed (F : Fx K mg base tc tb) : Cal P w K mg base [tb] (He.ga K "_law_deed") ["_law_state", "_law_data_here", "_law_sizes_here", "_law_later"] 3 W__law_deed := by
  obtain ⟨fd, FD⟩ := F.says.says.def_ 18 (d := d__law_deed) rfl
  exact cal_mk (N := N__law_deed) FD sc__law_deed (FD.bindsN fun _ _ _ _ _ _ us hl => match us, hl with | [_, _, _, _], _ => rfl) fun cdv A outer s H E hr =>
  (eb_cons (es_set (i := 4) sc__law_deed.nd (by kernel_rfl) (.inl (by kernel_rfl)) (ee_call (c__law_next F) hr (by decide) (glk (by kernel_rfl)) F.glo__law_next (ea_cons (evl 0) (ea_cons ee_int ea_nil))) (hf := (.inr (by kernel_rfl))))
  (eb_cons (es_if (et_cmp ro_lt (evl 4) ee_int (nomark _)) (eb_one (es_ret (ee_tup (ea_cons ee_str (ea_cons (ee_call (c__law_next F) hr (by decide) (glk (by kernel_rfl)) F.glo__law_next (ea_cons (evl 0) (ea_cons (ee_callB cr_len (glk (by kernel_rfl)) F.z_len (by decide +kernel) (ea_cons (evl 2) ea_nil)) ea_nil))) (ea_cons (ee_call (c__law_next F) hr (by decide) (glk (by kernel_rfl)) F.glo__law_next (ea_cons (evl 0) (ea_cons ee_int ea_nil))) ea_nil)))))) eb_nil)
  (eb_cons (es_if (EW.et (ew_and (et_cmp ro_lt (evl 4) ee_int (nomark _)) (ew_and1 (et_cmp ro_gt (ee_callB cr_len (glk (by kernel_rfl)) F.z_len (by decide +kernel) (ea_cons (evl 3) ea_nil)) ee_int (nomark _))))) (eb_one (es_ret (ee_tup (ea_cons ee_str (ea_cons (ee_ix ri_ix (evl 3) (ee_call (c__law_next F) hr (by decide) (glk (by kernel_rfl)) F.glo__law_next (ea_cons (evl 0) (ea_cons (ee_callB cr_len (glk (by kernel_rfl)) F.z_len (by decide +kernel) (ea_cons (evl 3) ea_nil)) ea_nil))) (fun _ _ => by kernel_rfl)) (ea_cons (ee_call (c__law_expr F) hr (by decide) (glk (by kernel_rfl)) F.glo__law_expr (ea_cons (evl 0) (ea_cons (evl 1) (ea_cons (evl 2) ea_nil)))) ea_nil)))))) eb_nil)
  (eb_cons (es_if (et_cmp ro_lt (evl 4) ee_int (nomark _)) (eb_one (es_ret (ee_tup (ea_cons ee_str (ea_cons (ee_call (c__law_next F) hr (by decide) (glk (by kernel_rfl)) F.glo__law_next (ea_cons (evl 0) (ea_cons (ee_callB cr_len (glk (by kernel_rfl)) F.z_len (by decide +kernel) (ea_cons (evl 2) ea_nil)) ea_nil))) (ea_cons (ee_call (c__law_expr F) hr (by decide) (glk (by kernel_rfl)) F.glo__law_expr (ea_cons (evl 0) (ea_cons (evl 1) (ea_cons (evl 2) ea_nil)))) ea_nil)))))) eb_nil)
  (eb_one (es_ret (ee_tup (ea_cons ee_str (ea_cons (ee_call (c__law_expr F) hr (by decide) (glk (by kernel_rfl)) F.glo__law_expr (ea_cons (evl 0) (ea_cons (evl 1) (ea_cons (evl 2) ea_nil)))) ea_nil)))))))))
abbrev N__law_handler : List Str := ["_law_state", "_law_data_here", "_law_sizes_here", "_law_service_here", "_law_later", "_law_lines", "_law_asked", "_law_k", "_law_test", "_law_deed_here", "_law_left"]
theorem sc__law_handler : FnScope N__law_handler ["_law_state", "_law_data_here", "_law_sizes_here", "_law_service_here"] (defScope s__law_handler) := ⟨by kernel_rfl, by kernel_rfl, by kernel_rfl, by decide +kernel, by kernel_rfl, by decide +kernel, by decide +kernel⟩
theorem c__law_handler (F : Fx K mg base tc tb) : Cal P w K mg base [tb] (He.ga K "_law_handler") ["_law_state", "_law_data_here", "_law_sizes_here", "_law_service_here"] 4 W__law_handler := by
  obtain ⟨fd, FD⟩ := F.says.says.def_ 19 (d := d__law_handler) rfl
  exact cal_mk (N := N__law_handler) FD sc__law_handler (FD.bindsN fun _ _ _ _ _ _ us hl => match us, hl with | [_, _, _, _], _ => rfl) fun cdv A outer s H E hr =>
  (eb_cons (es_setlcV (i := 4) (by kernel_rfl) sc__law_handler.nd (by kernel_rfl) (by kernel_rfl) (sw_true (by kernel_rfl) (by kernel_rfl) (by kernel_rfl) (by kernel_rfl)) (ei_rng1 (glk (by kernel_rfl)) F.z_range (ea_cons (ee_callB cr_len (glk (by kernel_rfl)) F.z_len (by decide +kernel) (ea_cons (ee_dget (hu1 hr) (evc 1) ee_str (fun _ _ => by kernel_rfl)) ea_nil)) ea_nil)) (blkOk_by (own := [("_law_k", 7)]) (by kernel_rfl)) (fun _ _ _ _ _ => (eg_nm (i := 7) sc__law_handler.nd (by kernel_rfl) (.inl (by kernel_rfl)) (.inr (by kernel_rfl)))) (fun _ _ _ _ _ => (ets_one (et_cmp ro_gt (ee_ix ri_ix (ee_ix ri_ix (ee_dget (hu1 hr) (evc 1) ee_str (fun _ _ => by kernel_rfl)) (evl 7) (fun _ _ => by kernel_rfl)) ee_int (fun _ _ => by kernel_rfl)) (evc 3) (nomark _)))) (fun _ _ _ _ _ => (evl 7)))
  (eb_cons (es_set (i := 5) sc__law_handler.nd (by kernel_rfl) (.inl (by kernel_rfl)) (ee_lst ea_nil) (hf := (.inr (by kernel_rfl))))
  (eb_cons (es_set (i := 6) sc__law_handler.nd (by kernel_rfl) (.inl (by kernel_rfl)) ee_int (hf := (.inr (by kernel_rfl))))
  (eb_cons (es_for PassesOwn.never (by kernel_rfl) (ei_rng1 (glk (by kernel_rfl)) F.z_range (ea_cons (ee_addV ee_int (ee_call (c__law_next F) hr (by decide) (glk (by kernel_rfl)) F.glo__law_next (ea_cons (evl 0) (ea_cons ee_int ea_nil)))) ea_nil)) (eg_nm (i := 7) sc__law_handler.nd (by kernel_rfl) (.inl (by kernel_rfl)) (.inr (by kernel_rfl))) (eb_cons (es_set (i := 8) sc__law_handler.nd (by kernel_rfl) (.inl (by kernel_rfl)) ee_non (hf := (.inr (by kernel_rfl))))
  (eb_cons (es_if (et_cmp (ro_eq (hu64 hr)) (ee_call (c__law_next F) hr (by decide) (glk (by kernel_rfl)) F.glo__law_next (ea_cons (evl 0) (ea_cons ee_int ea_nil))) ee_int (nomark _)) (eb_cons (es_set (i := 10) sc__law_handler.nd (by kernel_rfl) (.inl (by kernel_rfl)) (ee_call (c__law_expr F) hr (by decide) (glk (by kernel_rfl)) F.glo__law_expr (ea_cons (evl 0) (ea_cons (evc 1) (ea_cons (evl 2) ea_nil)))) (hf := (.inr (by kernel_rfl))))
  (eb_one (es_set (i := 8) sc__law_handler.nd (by kernel_rfl) (.inl (by kernel_rfl)) (ee_tup (ea_cons (evl 10) (ea_cons (ee_ix ri_ix (ee_lstV (ea_cons ee_str (ea_cons ee_str (ea_cons ee_str ea_nil)))) (ee_call (c__law_next F) hr (by decide) (glk (by kernel_rfl)) F.glo__law_next (ea_cons (evl 0) (ea_cons ee_int ea_nil))) (fun _ _ => by kernel_rfl)) (ea_cons (ee_call (c__law_expr F) hr (by decide) (glk (by kernel_rfl)) F.glo__law_expr (ea_cons (evl 0) (ea_cons (evc 1) (ea_cons (evl 2) ea_nil)))) ea_nil)))) (hf := (.inr (by kernel_rfl)))))) eb_nil)
  (eb_cons (es_set (i := 9) sc__law_handler.nd (by kernel_rfl) (.inl (by kernel_rfl)) (ee_call (c__law_deed F) hr (by decide) (glk (by kernel_rfl)) F.glo__law_deed (ea_cons (evl 0) (ea_cons (evc 1) (ea_cons (evl 2) (ea_cons (ee_if (et_cmp ro_lt (evl 6) ee_int (nomark _)) (evl 4) (ee_lstV ea_nil)) ea_nil))))) (hf := (.inr (by kernel_rfl))))
  (eb_cons (es_set (i := 6) sc__law_handler.nd (by kernel_rfl) (.inl (by kernel_rfl)) (ee_addV (evl 6) (ee_callTy cr_int (glk (by kernel_rfl)) F.z_int (by decide +kernel) (ea_cons (ee_cmp (ro_eq (hu64 hr)) (ee_ix ri_ix (evl 9) ee_int (fun _ _ => by kernel_rfl)) ee_str (nomark _)) ea_nil))) (hf := (.inr (by kernel_rfl))))
  (eb_one (es_expr (ee_bm PySem.F.plainAttrs_list PySem.F.slot_list_append PySem.F.type_list_append mr_append (evl 5) (ea_cons (ee_tup (ea_cons (evl 8) (ea_cons (evl 9) ea_nil))) ea_nil)))))))))
  (eb_one (es_ret (ee_callTy cr_tuple (glk (by kernel_rfl)) F.z_tuple (by decide +kernel) (ea_cons (evl 5) ea_nil))))))))
abbrev N__law_sizes : List Str := ["_law_state", "_law_most", "_law_k"]
theorem sc__law_sizes : FnScope N__law_sizes ["_law_state"] (defScope s__law_sizes) := ⟨by kernel_rfl, by kernel_rfl, by kernel_rfl, by decide +kernel, by kernel_rfl, by decide +kernel, by decide +kernel⟩
theorem c__law_sizes (F : Fx K mg base tc tb) : Cal P w K mg base [tb] (He.ga K "_law_sizes") ["_law_state"] 2 W__law_sizes := by
  obtain ⟨fd, FD⟩ := F.says.says.def_ 16 (d := d__law_sizes) rfl
  exact cal_mk (N := N__law_sizes) FD sc__law_sizes (FD.bindsN fun _ _ _ _ _ _ us hl => match us, hl with | [_], _ => rfl) fun cdv A outer s H E hr =>
  (eb_cons (es_set (i := 1) sc__law_sizes.nd (by kernel_rfl) (.inr (by kernel_rfl)) (ee_ix ri_ix (ee_lstV (ea_cons ee_int (ea_cons ee_int (ea_cons ee_int ea_nil)))) (ee_call (c__law_next F) hr (by decide) (glk (by kernel_rfl)) F.glo__law_next (ea_cons (evc 0) (ea_cons ee_int ea_nil))) (fun _ _ => by kernel_rfl)) (hf := (.inl (by kernel_rfl))))
  (eb_one (es_ret (ee_callTy cr_tuple (glk (by kernel_rfl)) F.z_tuple (by decide +kernel) (ea_cons (ee_lcV (by kernel_rfl) sc__law_sizes.nd (ei_rng1 (glk (by kernel_rfl)) F.z_range (ea_cons (ee_addV ee_int (ee_call (c__law_next F) hr (by decide) (glk (by kernel_rfl)) F.glo__law_next (ea_cons (evc 0) (ea_cons ee_int ea_nil)))) ea_nil)) (blkOk_by (own := [("_law_k", 2)]) (by kernel_rfl)) (fun _ _ _ _ _ => (eg_nm (i := 2) sc__law_sizes.nd (by kernel_rfl) (.inl (by kernel_rfl)) (.inr (by kernel_rfl)))) (fun _ _ _ _ _ => ets_nil) (fun _ _ _ _ _ => (ee_addV ee_int (ee_call (c__law_next F) hr (by decide) (glk (by kernel_rfl)) F.glo__law_next (ea_cons (evc 0) (ea_cons (evc 1) ea_nil)))))) ea_nil)))))
abbrev N__law_version : List Str := ["_law_state", "_law_data_here", "_law_service_here", "_law_below", "_law_sizes_here", "_law_count_here", "_law_up", "_law_down", "_law_handlers", "_law_question", "_law_k"]
theorem sc__law_version : FnScope N__law_version ["_law_state", "_law_data_here", "_law_service_here", "_law_below"] (defScope s__law_version) := ⟨by kernel_rfl, by kernel_rfl, by kernel_rfl, by decide +kernel, by kernel_rfl, by decide +kernel, by decide +kernel⟩
theorem c__law_version (F : Fx K mg base tc tb) : Cal P w K mg base [tb] (He.ga K "_law_version") ["_law_state", "_law_data_here", "_law_service_here", "_law_below"] 5 W__law_version := by
  obtain ⟨fd, FD⟩ := F.says.says.def_ 20 (d := d__law_version) rfl
  exact cal_mk (N := N__law_version) FD sc__law_version (FD.bindsN fun _ _ _ _ _ _ us hl => match us, hl with | [_, _, _, _], _ => rfl) fun cdv A outer s H E hr =>
  (eb_cons (es_set (i := 4) sc__law_version.nd (by kernel_rfl) (.inl (by kernel_rfl)) (ee_call (c__law_sizes F) hr (by decide) (glk (by kernel_rfl)) F.glo__law_sizes (ea_cons (evc 0) ea_nil)) (hf := (.inr (by kernel_rfl))))
  (eb_cons (es_set (i := 5) sc__law_version.nd (by kernel_rfl) (.inr (by kernel_rfl)) (ee_call (c__law_count F) hr (by decide) (glk (by kernel_rfl)) F.glo__law_count (ea_cons (evl 4) ea_nil)) (hf := (.inl (by kernel_rfl))))
  (eb_cons (es_set (i := 6) sc__law_version.nd (by kernel_rfl) (.inl (by kernel_rfl)) (ee_tup ea_nil) (hf := (.inr (by kernel_rfl))))
  (eb_cons (es_set (i := 7) sc__law_version.nd (by kernel_rfl) (.inl (by kernel_rfl)) (ee_tup ea_nil) (hf := (.inr (by kernel_rfl))))
  (eb_cons (es_if (et_cmp ro_gt (evc 3) ee_int (nomark _)) (eb_cons (es_set (i := 6) sc__law_version.nd (by kernel_rfl) (.inl (by kernel_rfl)) (ee_callTy cr_tuple (glk (by kernel_rfl)) F.z_tuple (by decide +kernel) (ea_cons (ee_lcV (by kernel_rfl) sc__law_version.nd (ei_rng1 (glk (by kernel_rfl)) F.z_range (ea_cons (evc 3) ea_nil)) (blkOk_by (own := [("_law_k", 10)]) (by kernel_rfl)) (fun _ _ _ _ _ => (eg_nm (i := 10) sc__law_version.nd (by kernel_rfl) (.inl (by kernel_rfl)) (.inr (by kernel_rfl)))) (fun _ _ _ _ _ => ets_nil) (fun _ _ _ _ _ => (ee_call (c__law_next F) hr (by decide) (glk (by kernel_rfl)) F.glo__law_next (ea_cons (evc 0) (ea_cons (evc 5) ea_nil))))) ea_nil)) (hf := (.inr (by kernel_rfl))))
  (eb_one (es_set (i := 7) sc__law_version.nd (by kernel_rfl) (.inl (by kernel_rfl)) (ee_callTy cr_tuple (glk (by kernel_rfl)) F.z_tuple (by decide +kernel) (ea_cons (ee_lcV (by kernel_rfl) sc__law_version.nd (ei_rng1 (glk (by kernel_rfl)) F.z_range (ea_cons (evc 5) ea_nil)) (blkOk_by (own := [("_law_k", 10)]) (by kernel_rfl)) (fun _ _ _ _ _ => (eg_nm (i := 10) sc__law_version.nd (by kernel_rfl) (.inl (by kernel_rfl)) (.inr (by kernel_rfl)))) (fun _ _ _ _ _ => ets_nil) (fun _ _ _ _ _ => (ee_call (c__law_next F) hr (by decide) (glk (by kernel_rfl)) F.glo__law_next (ea_cons (evc 0) (ea_cons (evc 3) ea_nil))))) ea_nil)) (hf := (.inr (by kernel_rfl)))))) eb_nil)
  (eb_cons (es_set (i := 8) sc__law_version.nd (by kernel_rfl) (.inl (by kernel_rfl)) (ee_lst ea_nil) (hf := (.inr (by kernel_rfl))))
  (eb_cons (es_for PassesOwn.never (by kernel_rfl) (ei_of (ee_dget (hu1 hr) (evl 1) ee_str (fun _ _ => by kernel_rfl))) (eg_nm (i := 9) sc__law_version.nd (by kernel_rfl) (.inl (by kernel_rfl)) (.inr (by kernel_rfl))) (eb_one (es_if (EW.et (ew_or (et_cmp (ro_ne (hu64 hr)) (ee_ix ri_ix (evl 9) ee_int (fun _ _ => by kernel_rfl)) (evl 2) (nomark _)) (ew_or1 (et_cmp (ro_eq (hu64 hr)) (ee_call (c__law_next F) hr (by decide) (glk (by kernel_rfl)) F.glo__law_next (ea_cons (evc 0) (ea_cons ee_int ea_nil))) ee_int (nomark _))))) (eb_one (es_expr (ee_bm PySem.F.plainAttrs_list PySem.F.slot_list_append PySem.F.type_list_append mr_append (evl 8) (ea_cons ee_non ea_nil)))) (eb_one (es_expr (ee_bm PySem.F.plainAttrs_list PySem.F.slot_list_append PySem.F.type_list_append mr_append (evl 8) (ea_cons (ee_call (c__law_handler F) hr (by decide) (glk (by kernel_rfl)) F.glo__law_handler (ea_cons (evc 0) (ea_cons (evl 1) (ea_cons (evl 4) (ea_cons (evl 2) ea_nil))))) ea_nil)))))))
  (eb_one (es_ret (ee_tup (ea_cons (evl 4) (ea_cons (evl 6) (ea_cons (evl 7) (ea_cons (ee_callTy cr_tuple (glk (by kernel_rfl)) F.z_tuple (by decide +kernel) (ea_cons (evl 8) ea_nil)) ea_nil))))))))))))))
abbrev N__law_service : List Str := ["_law_state", "_law_data_here", "_law_service_here", "_law_versions", "_law_below", "_law_k"]
theorem sc__law_service : FnScope N__law_service ["_law_state", "_law_data_here", "_law_service_here"] (defScope s__law_service) := ⟨by kernel_rfl, by kernel_rfl, by kernel_rfl, by decide +kernel, by kernel_rfl, by decide +kernel, by decide +kernel⟩
theorem c__law_service (F : Fx K mg base tc tb) : Cal P w K mg base [tb] (He.ga K "_law_service") ["_law_state", "_law_data_here", "_law_service_here"] 6 W__law_service := by
  obtain ⟨fd, FD⟩ := F.says.says.def_ 21 (d := d__law_service) rfl
  exact cal_mk (N := N__law_service) FD sc__law_service (FD.bindsN fun _ _ _ _ _ _ us hl => match us, hl with | [_, _, _], _ => rfl) fun cdv A outer s H E hr =>
  (eb_cons (es_set (i := 3) sc__law_service.nd (by kernel_rfl) (.inl (by kernel_rfl)) (ee_lst ea_nil) (hf := (.inr (by kernel_rfl))))
  (eb_cons (es_set (i := 4) sc__law_service.nd (by kernel_rfl) (.inl (by kernel_rfl)) ee_int (hf := (.inr (by kernel_rfl))))
  (eb_cons (es_for PassesOwn.never (by kernel_rfl) (ei_rng1 (glk (by kernel_rfl)) F.z_range (ea_cons (ee_addV ee_int (ee_call (c__law_next F) hr (by decide) (glk (by kernel_rfl)) F.glo__law_next (ea_cons (evl 0) (ea_cons ee_int ea_nil)))) ea_nil)) (eg_nm (i := 5) sc__law_service.nd (by kernel_rfl) (.inl (by kernel_rfl)) (.inr (by kernel_rfl))) (eb_cons (es_expr (ee_bm PySem.F.plainAttrs_list PySem.F.slot_list_append PySem.F.type_list_append mr_append (evl 3) (ea_cons (ee_call (c__law_version F) hr (by decide) (glk (by kernel_rfl)) F.glo__law_version (ea_cons (evl 0) (ea_cons (evl 1) (ea_cons (evl 2) (ea_cons (evl 4) ea_nil))))) ea_nil)))
  (eb_one (es_set (i := 4) sc__law_service.nd (by kernel_rfl) (.inl (by kernel_rfl)) (ee_call (c__law_count F) hr (by decide) (glk (by kernel_rfl)) F.glo__law_count (ea_cons (ee_ix ri_ix (ee_ix ri_ix (evl 3) (ee_neg ee_int) (fun _ _ => by kernel_rfl)) ee_int (fun _ _ => by kernel_rfl)) ea_nil)) (hf := (.inr (by kernel_rfl)))))))
  (eb_one (es_ret (ee_tup (ea_cons (ee_addV ee_int (ee_call (c__law_next F) hr (by decide) (glk (by kernel_rfl)) F.glo__law_next (ea_cons (evl 0) (ea_cons ee_int ea_nil)))) (ea_cons (ee_callTy cr_tuple (glk (by kernel_rfl)) F.z_tuple (by decide +kernel) (ea_cons (evl 3) ea_nil)) ea_nil))))))))
abbrev N__law_data : List Str := ["_law_state", "_law_count_here", "_law_data_here", "_law_rows", "_law_k"]
theorem sc__law_data : FnScope N__law_data ["_law_state"] (defScope s__law_data) := ⟨by kernel_rfl, by kernel_rfl, by kernel_rfl, by decide +kernel, by kernel_rfl, by decide +kernel, by decide +kernel⟩
theorem c__law_data (F : Fx K mg base tc tb) : Cal P w K mg base [tb] (He.ga K "_law_data") ["_law_state"] 7 W__law_data := by
  obtain ⟨fd, FD⟩ := F.says.says.def_ 23 (d := d__law_data) rfl
  exact cal_mk (N := N__law_data) FD sc__law_data (FD.bindsN fun _ _ _ _ _ _ us hl => match us, hl with | [_], _ => rfl) fun cdv A outer s H E hr =>
  (eb_cons (es_set (i := 1) sc__law_data.nd (by kernel_rfl) (.inl (by kernel_rfl)) (ee_ix ri_ix (ee_lstV (ea_cons ee_int (ea_cons ee_int (ea_cons ee_int (ea_cons ee_int ea_nil))))) (ee_call (c__law_next F) hr (by decide) (glk (by kernel_rfl)) F.glo__law_next (ea_cons (evc 0) (ea_cons ee_int ea_nil))) (fun _ _ => by kernel_rfl)) (hf := (.inr (by kernel_rfl))))
  (eb_cons (es_set (i := 2) sc__law_data.nd (by kernel_rfl) (.inr (by kernel_rfl)) (ee_disp (ed_cons (ee_call (c__law_next F) hr (by decide) (glk (by kernel_rfl)) F.glo__law_next (ea_cons (evc 0) (ea_cons ee_int ea_nil))) ed_nil)) (hf := (.inl (by kernel_rfl))))
  (eb_cons (es_set (i := 3) sc__law_data.nd (by kernel_rfl) (.inl (by kernel_rfl)) (ee_lst ea_nil) (hf := (.inr (by kernel_rfl))))
  (eb_cons (es_for PassesOwn.never (by kernel_rfl) (ei_rng1 (glk (by kernel_rfl)) F.z_range (ea_cons (ee_addV ee_int (ee_call (c__law_next F) hr (by decide) (glk (by kernel_rfl)) F.glo__law_next (ea_cons (evc 0) (ea_cons ee_int ea_nil)))) ea_nil)) (eg_nm (i := 4) sc__law_data.nd (by kernel_rfl) (.inl (by kernel_rfl)) (.inr (by kernel_rfl))) (eb_one (es_expr (ee_bm PySem.F.plainAttrs_list PySem.F.slot_list_append PySem.F.type_list_append mr_append (evl 3) (ea_cons (ee_tup (ea_cons (ee_call (c__law_next F) hr (by decide) (glk (by kernel_rfl)) F.glo__law_next (ea_cons (evc 0) (ea_cons (evl 1) ea_nil))) (ea_cons (ee_addV ee_int (ee_call (c__law_next F) hr (by decide) (glk (by kernel_rfl)) F.glo__law_next (ea_cons (evc 0) (ea_cons ee_int ea_nil)))) (ea_cons (ee_addV ee_int (ee_call (c__law_next F) hr (by decide) (glk (by kernel_rfl)) F.glo__law_next (ea_cons (evc 0) (ea_cons ee_int ea_nil)))) ea_nil)))) ea_nil)))))
  (eb_cons (es_sub (hu1 hr) (evc 2) ee_str (ee_callTy cr_tuple (glk (by kernel_rfl)) F.z_tuple (by decide +kernel) (ea_cons (evl 3) ea_nil)))
  (eb_cons (es_sub (hu1 hr) (evc 2) ee_str (ee_callTy cr_tuple (glk (by kernel_rfl)) F.z_tuple (by decide +kernel) (ea_cons (ee_lcV (by kernel_rfl) sc__law_data.nd (ei_rng1 (glk (by kernel_rfl)) F.z_range (ea_cons (evl 1) ea_nil)) (blkOk_by (own := [("_law_k", 4)]) (by kernel_rfl)) (fun _ _ _ _ _ => (eg_nm (i := 4) sc__law_data.nd (by kernel_rfl) (.inl (by kernel_rfl)) (.inr (by kernel_rfl)))) (fun _ _ _ _ _ => ets_nil) (fun _ _ _ _ _ => (ee_call (c__law_service F) hr (by decide) (glk (by kernel_rfl)) F.glo__law_service (ea_cons (evc 0) (ea_cons (evc 2) (ea_cons (evl 4) ea_nil)))))) ea_nil)))
  (eb_cons (es_sub (hu1 hr) (evc 2) ee_str (ee_callTy cr_tuple (glk (by kernel_rfl)) F.z_tuple (by decide +kernel) (ea_cons (ee_lcV (by kernel_rfl) sc__law_data.nd (ei_rng1 (glk (by kernel_rfl)) F.z_range (ea_cons (ee_addV ee_int (ee_call (c__law_next F) hr (by decide) (glk (by kernel_rfl)) F.glo__law_next (ea_cons (evc 0) (ea_cons ee_int ea_nil)))) ea_nil)) (blkOk_by (own := [("_law_k", 4)]) (by kernel_rfl)) (fun _ _ _ _ _ => (eg_nm (i := 4) sc__law_data.nd (by kernel_rfl) (.inl (by kernel_rfl)) (.inr (by kernel_rfl)))) (fun _ _ _ _ _ => ets_nil) (fun _ _ _ _ _ => (ee_call (c__law_release F) hr (by decide) (glk (by kernel_rfl)) F.glo__law_release (ea_cons (evc 0) (ea_cons (evc 2) ea_nil))))) ea_nil)))
  (eb_one (es_ret (evc 2))))))))))
abbrev N__law_told : List Str := ["_law_data_here", "e"]
theorem sc__law_told : FnScope N__law_told ["_law_data_here"] (defScope s__law_told) := ⟨by kernel_rfl, by kernel_rfl, by kernel_rfl, by decide +kernel, by kernel_rfl, by decide +kernel, by decide +kernel⟩
theorem c__law_told (F : Fx K mg base tc tb) : Cal P w K mg base [tb] (He.ga K "_law_told") ["_law_data_here"] 10 W__law_told := by
  obtain ⟨fd, FD⟩ := F.says.says.def_ 24 (d := d__law_told) rfl
  exact cal_mk (N := N__law_told) FD sc__law_told (FD.bindsN fun _ _ _ _ _ _ us hl => match us, hl with | [_], _ => rfl) fun cdv A outer s H E hr =>
  (eb_cons (es_try0 (fun _ _ h => h) (eb_one (es_expr (ee_makeK (c_kw0 F) F.mk_Program hr (by decide) (glk (by kernel_rfl)) F.glo_Program (ek_cons (ee_dget (hu1 hr) (evl 0) ee_str (fun _ _ => by kernel_rfl)) (ek_cons (ee_dget (hu1 hr) (evl 0) ee_str (fun _ _ => by kernel_rfl)) (ek_cons (ee_dget (hu1 hr) (evl 0) ee_str (fun _ _ => by kernel_rfl)) (ek_cons (ee_dget (hu1 hr) (evl 0) ee_str (fun _ _ => by kernel_rfl)) (ek_cons (ee_dget (hu1 hr) (evl 0) ee_str (fun _ _ => by kernel_rfl)) (ek_cons (ee_dget (hu1 hr) (evl 0) ee_str (fun _ _ => by kernel_rfl)) (ek_cons (ee_dget (hu1 hr) (evl 0) ee_str (fun _ _ => by kernel_rfl)) (ek_cons (ee_dget (hu1 hr) (evl 0) ee_str (fun _ _ => by kernel_rfl)) (ek_cons (ee_dget (hu1 hr) (evl 0) ee_str (fun _ _ => by kernel_rfl)) ek_nil)))))))))))))
  (eb_one (es_ret (ee_tup (ea_cons ee_str ea_nil)))))
abbrev N_law : List Str := ["_law_script", "_law_state", "_law_data_here", "_law_told_here"]
theorem sc_law : FnScope N_law ["_law_script"] (defScope s_law) := ⟨by kernel_rfl, by kernel_rfl, by kernel_rfl, by decide +kernel, by kernel_rfl, by decide +kernel, by decide +kernel⟩
theorem c_law (F : Fx K mg base tc tb) : Cal P w K mg base [tb] (He.ga K "law") ["_law_script"] 11 W_law := by
  obtain ⟨fd, FD⟩ := F.says.says.def_ 27 (d := d_law) rfl
  exact cal_mk (N := N_law) FD sc_law (FD.bindsN fun _ _ _ _ _ _ us hl => match us, hl with | [_], _ => rfl) fun cdv A outer s H E hr =>
  (eb_cons (es_set (i := 1) sc_law.nd (by kernel_rfl) (.inl (by kernel_rfl)) (ee_lst (ea_cons (ee_callTy cr_list (glk (by kernel_rfl)) F.z_list (by decide +kernel) (ea_cons (evl 0) ea_nil)) (ea_cons ee_int (ea_cons ee_int ea_nil)))) (hf := (.inr (by kernel_rfl))))
  (eb_cons (es_set (i := 2) sc_law.nd (by kernel_rfl) (.inl (by kernel_rfl)) (ee_call (c__law_bounded F) hr (by decide) (glk (by kernel_rfl)) F.glo__law_bounded (ea_cons (evl 1) (ea_cons (ee_call (c__law_data F) hr (by decide) (glk (by kernel_rfl)) F.glo__law_data (ea_cons (evl 1) ea_nil)) ea_nil))) (hf := (.inr (by kernel_rfl))))
  (eb_cons (es_if (et_cmp (ro_ne (hu64 hr)) (ee_call (c__law_told F) hr (by decide) (glk (by kernel_rfl)) F.glo__law_told (ea_cons (evl 2) ea_nil)) (ee_tup (ea_cons ee_str ea_nil)) (nomark _)) (eb_one (es_ret ee_bl)) eb_nil)
  (eb_cons (es_set (i := 3) sc_law.nd (by kernel_rfl) (.inl (by kernel_rfl)) (ee_makeK (c_kw0 F) F.mk_Program hr (by decide) (glk (by kernel_rfl)) F.glo_Program (ek_cons (ee_dget (hu1 hr) (evl 2) ee_str (fun _ _ => by kernel_rfl)) (ek_cons (ee_dget (hu1 hr) (evl 2) ee_str (fun _ _ => by kernel_rfl)) (ek_cons (ee_dget (hu1 hr) (evl 2) ee_str (fun _ _ => by kernel_rfl)) (ek_cons (ee_dget (hu1 hr) (evl 2) ee_str (fun _ _ => by kernel_rfl)) (ek_cons (ee_dget (hu1 hr) (evl 2) ee_str (fun _ _ => by kernel_rfl)) (ek_cons (ee_dget (hu1 hr) (evl 2) ee_str (fun _ _ => by kernel_rfl)) (ek_cons (ee_dget (hu1 hr) (evl 2) ee_str (fun _ _ => by kernel_rfl)) (ek_cons (ee_dget (hu1 hr) (evl 2) ee_str (fun _ _ => by kernel_rfl)) (ek_cons (ee_dget (hu1 hr) (evl 2) ee_str (fun _ _ => by kernel_rfl)) ek_nil)))))))))) (hf := (.inr (by kernel_rfl))))
  (eb_cons (es_if (et_cmp (ro_ne (hu64 hr)) (ee_tup (ea_cons (ee_fld F.at (evl 3)) (ea_cons (ee_fld F.at (evl 3)) (ea_cons (ee_fld F.at (evl 3)) ea_nil)))) (ee_tup (ea_cons (ee_dget (hu1 hr) (evl 2) ee_str (fun _ _ => by kernel_rfl)) (ea_cons (ee_dget (hu1 hr) (evl 2) ee_str (fun _ _ => by kernel_rfl)) (ea_cons (ee_dget (hu1 hr) (evl 2) ee_str (fun _ _ => by kernel_rfl)) ea_nil)))) (nomark _)) (eb_one (es_ret ee_bl)) eb_nil)
  (eb_cons (es_if (et_cmp (ro_ne (hu64 hr)) (ee_tup (ea_cons (ee_fld F.at (evl 3)) (ea_cons (ee_fld F.at (evl 3)) (ea_cons (ee_fld F.at (evl 3)) ea_nil)))) (ee_tup (ea_cons (ee_dget (hu1 hr) (evl 2) ee_str (fun _ _ => by kernel_rfl)) (ea_cons (ee_dget (hu1 hr) (evl 2) ee_str (fun _ _ => by kernel_rfl)) (ea_cons (ee_dget (hu1 hr) (evl 2) ee_str (fun _ _ => by kernel_rfl)) ea_nil)))) (nomark _)) (eb_one (es_ret ee_bl)) eb_nil)
  (eb_cons (es_if (EW.et (ew_or (et_cmp (ro_ne (hu64 hr)) (ee_fld F.at (evl 3)) (ee_dget (hu1 hr) (evl 2) ee_str (fun _ _ => by kernel_rfl)) (nomark _)) (ew_or (et_cmp (ro_ne (hu64 hr)) (ee_fld F.at (evl 3)) (ee_dget (hu1 hr) (evl 2) ee_str (fun _ _ => by kernel_rfl)) (nomark _)) (ew_or1 (et_cmp (ro_ne (hu64 hr)) (ee_fld F.at (evl 3)) (ee_dget (hu1 hr) (evl 2) ee_str (fun _ _ => by kernel_rfl)) (nomark _)))))) (eb_one (es_ret ee_bl)) eb_nil)
  (eb_one (es_ret (ee_call (c__law_bare F) hr (by decide) (glk (by kernel_rfl)) F.glo__law_bare (ea_cons (evl 2) ea_nil)))))))))))
theorem facts {h : Heap} {f : Addr} (X : K.In h) (G : h.Ns mainGlobals mg) (hfa : mg ("law" : Str) = some (.ref f)) (c : SaysX tbs fa fn K) (hcode : ∀ oc od fd osl, K.lookup (He.ga K "are_numbers") = some ⟨oc, od, .func fd, osl⟩ → fd.code = .ref tc) :
    ∃ fd : FuncData, (∀ (s : Shared) (v : Value), BindsTo s fd ⟨[v], []⟩ [("_law_script", v)]) ∧ ∀ base : Heap, K.In base → base.Ns mainGlobals mg → GxR.TabB base mg tc tb → FnOk P w K mg base CX0 11 f fd ["_law_script"] (spM K [tb] 1 W_law) := by
  obtain ⟨fd, FD⟩ := c.says.def_ 27 (d := d_law) rfl
  have e := hfa.symm.trans (He.glo_ok X G (c.says.fact 20 (f := .glo "law") rfl))
  cases e
  have b := FunD.bindsA (ps := ["_law_script"]) FD fun _ _ _ _ _ _ us hl => match us, hl with | [_], _ => rfl
  refine ⟨fd, fun s v => b s [v] rfl, fun base hb hn hT => ?_⟩
  have F : Fx K mg base tc tb := ⟨c, hb, hn, hT, hcode⟩
  exact fn_sp (N := N_law) FD sc_law fun cdv A outer s H E hr =>
  (eb_cons (es_set (i := 1) sc_law.nd (by kernel_rfl) (.inl (by kernel_rfl)) (ee_lst (ea_cons (ee_callTy cr_list (glk (by kernel_rfl)) F.z_list (by decide +kernel) (ea_cons (evl 0) ea_nil)) (ea_cons ee_int (ea_cons ee_int ea_nil)))) (hf := (.inr (by kernel_rfl))))
  (eb_cons (es_set (i := 2) sc_law.nd (by kernel_rfl) (.inl (by kernel_rfl)) (ee_call (c__law_bounded F) hr (by decide) (glk (by kernel_rfl)) F.glo__law_bounded (ea_cons (evl 1) (ea_cons (ee_call (c__law_data F) hr (by decide) (glk (by kernel_rfl)) F.glo__law_data (ea_cons (evl 1) ea_nil)) ea_nil))) (hf := (.inr (by kernel_rfl))))
  (eb_cons (es_if (et_cmp (ro_ne (hu64 hr)) (ee_call (c__law_told F) hr (by decide) (glk (by kernel_rfl)) F.glo__law_told (ea_cons (evl 2) ea_nil)) (ee_tup (ea_cons ee_str ea_nil)) (nomark _)) (eb_one (es_ret ee_bl)) eb_nil)
  (eb_cons (es_set (i := 3) sc_law.nd (by kernel_rfl) (.inl (by kernel_rfl)) (ee_makeK (c_kw0 F) F.mk_Program hr (by decide) (glk (by kernel_rfl)) F.glo_Program (ek_cons (ee_dget (hu1 hr) (evl 2) ee_str (fun _ _ => by kernel_rfl)) (ek_cons (ee_dget (hu1 hr) (evl 2) ee_str (fun _ _ => by kernel_rfl)) (ek_cons (ee_dget (hu1 hr) (evl 2) ee_str (fun _ _ => by kernel_rfl)) (ek_cons (ee_dget (hu1 hr) (evl 2) ee_str (fun _ _ => by kernel_rfl)) (ek_cons (ee_dget (hu1 hr) (evl 2) ee_str (fun _ _ => by kernel_rfl)) (ek_cons (ee_dget (hu1 hr) (evl 2) ee_str (fun _ _ => by kernel_rfl)) (ek_cons (ee_dget (hu1 hr) (evl 2) ee_str (fun _ _ => by kernel_rfl)) (ek_cons (ee_dget (hu1 hr) (evl 2) ee_str (fun _ _ => by kernel_rfl)) (ek_cons (ee_dget (hu1 hr) (evl 2) ee_str (fun _ _ => by kernel_rfl)) ek_nil)))))))))) (hf := (.inr (by kernel_rfl))))
  (eb_cons (es_if (et_cmp (ro_ne (hu64 hr)) (ee_tup (ea_cons (ee_fld F.at (evl 3)) (ea_cons (ee_fld F.at (evl 3)) (ea_cons (ee_fld F.at (evl 3)) ea_nil)))) (ee_tup (ea_cons (ee_dget (hu1 hr) (evl 2) ee_str (fun _ _ => by kernel_rfl)) (ea_cons (ee_dget (hu1 hr) (evl 2) ee_str (fun _ _ => by kernel_rfl)) (ea_cons (ee_dget (hu1 hr) (evl 2) ee_str (fun _ _ => by kernel_rfl)) ea_nil)))) (nomark _)) (eb_one (es_ret ee_bl)) eb_nil)
  (eb_cons (es_if (et_cmp (ro_ne (hu64 hr)) (ee_tup (ea_cons (ee_fld F.at (evl 3)) (ea_cons (ee_fld F.at (evl 3)) (ea_cons (ee_fld F.at (evl 3)) ea_nil)))) (ee_tup (ea_cons (ee_dget (hu1 hr) (evl 2) ee_str (fun _ _ => by kernel_rfl)) (ea_cons (ee_dget (hu1 hr) (evl 2) ee_str (fun _ _ => by kernel_rfl)) (ea_cons (ee_dget (hu1 hr) (evl 2) ee_str (fun _ _ => by kernel_rfl)) ea_nil)))) (nomark _)) (eb_one (es_ret ee_bl)) eb_nil)
  (eb_cons (es_if (EW.et (ew_or (et_cmp (ro_ne (hu64 hr)) (ee_fld F.at (evl 3)) (ee_dget (hu1 hr) (evl 2) ee_str (fun _ _ => by kernel_rfl)) (nomark _)) (ew_or (et_cmp (ro_ne (hu64 hr)) (ee_fld F.at (evl 3)) (ee_dget (hu1 hr) (evl 2) ee_str (fun _ _ => by kernel_rfl)) (nomark _)) (ew_or1 (et_cmp (ro_ne (hu64 hr)) (ee_fld F.at (evl 3)) (ee_dget (hu1 hr) (evl 2) ee_str (fun _ _ => by kernel_rfl)) (nomark _)))))) (eb_one (es_ret ee_bl)) eb_nil)
  (eb_one (es_ret (ee_call (c__law_bare F) hr (by decide) (glk (by kernel_rfl)) F.glo__law_bare (ea_cons (evl 2) ea_nil)))))))))))
end
end Rw
open PySem PySem.W PySem.Calls PyProof.Rows in
theorem Rw.holds_of (hW : ∀ (ns : List Int) (x : Mv.MV) (S0 : Mv.Sto), (∀ R, Mv.listV [x] S0 R = Mv.newL (ns.map Mv.MV.int) S0 R) → Rw.W_law [x] S0 (fun v _ => v = .bl true)) : PySem.Challenge.rw_rollwarden_k13_programs_keep_what_was_pa.Holds := by
  w_on; o_law
  refine HandSHeadRun.head_any (r := OpenLaw.row PySem.Challenge.rw_rollwarden_k13_programs_keep_what_was_pa) (q := view (OpenLaw.row PySem.Challenge.rw_rollwarden_k13_programs_keep_what_was_pa).prog [30]) (H := Rw.hk) (ob := Rw.ob) (M := 20000) (loose := Rw.loose) (d := HandSHeadRun.topDef (OpenLaw.row PySem.Challenge.rw_rollwarden_k13_programs_keep_what_was_pa).prog 30) (kwd := []) Rw.ob_eq
    (by kernel_rfl) (fun s => by kernel_rfl) Rw.run (by kernel_rfl) (by kernel_rfl) (by kernel_rfl) (by rfl) (by first | assumption | decide +kernel) (by decide +kernel) ⟨rfl, rfl, rfl, rfl, rfl, by decide +kernel⟩ ?hw ?hc
  case hw => w_witness2
  case hc =>
    refine LamX.walk_ofTsE (l := PySem.Challenge.rw_rollwarden_k13_programs_keep_what_was_pa) (n := 63) (k := 11) (x := "_law_script") (CX := fun _ => L2.CX0) rfl (by decide) (by kernel_rfl) ⟨rfl, by decide, by decide⟩ ?F (fun _ _ _ _ _ z => z)
    intro w mg fa h Y G hmg0
    obtain ⟨K, KX, c⟩ := Y
    obtain ⟨tc, tb, T⟩ := c.tab
    have hmg : mg ("law" : PySem.Str) = some (.ref fa) := by
      have e : (HandSHeadRun.topDef (OpenLaw.row PySem.Challenge.rw_rollwarden_k13_programs_keep_what_was_pa).prog 30).name = ("law" : PySem.Str) := by kernel_rfl
      rw [← e]
      exact hmg0
    obtain ⟨fd, hb, hF⟩ := Rw.facts (P := (PySem.Challenge.rw_rollwarden_k13_programs_keep_what_was_pa).prog) (w := w) KX G hmg c.says T.code
    exact ⟨K, KX, fd, [(tc, tb)], Mv.spM K [tb] 1 Rw.W_law, fun p hp => by cases List.mem_singleton.mp hp; exact T.tab, fun p hp => by cases List.mem_singleton.mp hp; exact T.nK, fun p hp => by cases List.mem_singleton.mp hp; exact T.hd, hb, fun H a ns _ _ hT hS => Mv.law_in (hT (tc, tb) (List.mem_singleton.mpr rfl)) hS (hW ns), fun base hb hn hTB => (let q := hTB (tc, tb) (List.mem_singleton.mpr rfl); hF base hb hn ⟨q.code, q.bm, q.gP⟩)⟩
theorem PySem.Challenge.cw_rollwarden_k13_programs_keep_what_was_pa_holds : PySem.Challenge.rw_rollwarden_k13_programs_keep_what_was_pa.Holds := by
  exact Rw.holds_of P13.law
