import PyProof.Rows.All
import Wide.All
import OpenK.AllK
import Wide.FinOn
import HandS.ForMost
import HandS.ForExc
import HandS.More
import HandS.Defaults
import HandS.MakeKwOnly
import HandS.TupAny
import HandS.Rev
import HandS.Zip
import HandS.NoneIn
import HandS.Small
import HandS.Style
import HandS.Flow
import HandS.IsInst
import HandS.Deep
import HandS.AnyAll
import HandS.HeadHook1
import HandS.Head0
import HandS.Head1
import HandS.Head2
import HandS.HeadEnd
import HandS.HeadHook2
import PySem.Challenge.RW_rollwarden_k07_tests_of_lines
set_option Elab.async false
set_option linter.all false
set_option maxRecDepth 100000
set_option maxHeartbeats 4000000
/-! The value layer: Python's data by value (tuples as trees), lists, dicts and instances in a store. Over HandS. -/
namespace Mv
open PySem PySem.Spec PyProof.Rows L2

/-! ### values, objects -/
inductive MV where
  | non
  | bl (b : Bool)
  | int (i : Int)
  | str (s : String)
  | tup (l : List MV)
  | ref (a : Addr)
  /-- a list that is only read (the script) -/
  | frz (l : List MV)
inductive MO where
  /-- a list -/
  | lst (l : List MV)
  /-- a list that is only read (the script) -/
  | rl (l : List MV)
  /-- a dict whose keys are texts -/
  | dct (kvs : List (String × MV))
  /-- an instance of the class with that name -/
  | ins (c : String) (fs : List (String × MV))
abbrev Env := List (Option MV)
abbrev Sto := Addr → Option MO
def supd (S : Sto) (a : Addr) (o : MO) : Sto := fun b => if b = a then some o else S b
theorem supd_same {S : Sto} {a : Addr} {o : MO} : supd S a o a = some o := by unfold supd; rw [if_pos rfl]
theorem supd_ne {S : Sto} {a b : Addr} {o : MO} (h : b ≠ a) : supd S a o b = S b := by unfold supd; rw [if_neg h]
abbrev MK := MV → Sto → Prop
abbrev ME := Env → Sto → MK → Prop
abbrev MA := Env → Sto → (List MV → Sto → Prop) → Prop
abbrev MT := Env → Sto → (Bool → Sto → Prop) → Prop
structure MD where
  nx : Env → Sto → Prop
  rt : MK
  bk : Env → Sto → Prop := fun _ _ => False
  ct : Env → Sto → Prop := fun _ _ => False
abbrev MS := MD → Env → Sto → Prop
abbrev so (s : String) : Str := Str.ofString s
theorem so_inj {s t : String} (h : so s = so t) : s = t := by
  have h1 : Str.ofString s = Str.ofString t := h
  rw [Str.ofString_eq_toList, Str.ofString_eq_toList] at h1
  injection h1 with h2
  have h3 : s.toList.map Char.toNat = t.toList.map Char.toNat := by
    have := congrArg Array.toList h2
    simpa using this
  have inj : ∀ (l r : List Char), l.map Char.toNat = r.map Char.toNat → l = r := by
    intro l
    induction l with
    | nil => intro r h; cases r with
      | nil => rfl
      | cons a r => cases h
    | cons a l ih => intro r h; cases r with
      | nil => cases h
      | cons b r =>
        injection h with e1 e2
        have e3 : a = b := by
          have : a.val = b.val := by
            apply UInt32.toNat_inj.mp
            exact e1
          exact Char.ext this
        rw [e3, ih r e2]
  have h4 := inj _ _ h3
  exact String.toList_inj.mp h4

/-! ### the relation -/
/-- a list that no one writes -/
def FzL (K : PySem.W.Frag) (H : Hp) (a : Addr) (xs : List V) : Prop := (∃ o, H a = some (.frz o (.lst xs))) ∨
  ∃ (o : Obj) (its : Array Value) (n : Nat), K.lookup a = some o ∧ o.cls = .type "list" ∧ o.dict = none ∧ o.data = .seq its n ∧ its.size ≤ sizeLine ∧ Vals xs its.toList
theorem FzL.sq {K : PySem.W.Frag} {H : Hp} {a : Addr} {xs : List V} (h : FzL K H a xs) : SqL K H a xs := h.elim (fun h => .inl (.inr h)) .inr
mutual
def RM (K : PySem.W.Frag) (H : Hp) : MV → V → Prop
  | .non, v => v = .non
  | .bl b, v => v = .bl b
  | .int i, v => v = .int i
  | .str s, v => v = .str (so s)
  | .ref a, v => v = .ref a
  | .tup l, v => ∃ a xs, v = .ref a ∧ SqT K H a xs ∧ RMs K H l xs
  | .frz l, v => ∃ a xs, v = .ref a ∧ FzL K H a xs ∧ RMs K H l xs
def RMs (K : PySem.W.Frag) (H : Hp) : List MV → List V → Prop
  | [], xs => xs = []
  | m :: l, xs => ∃ x r, xs = x :: r ∧ RM K H m x ∧ RMs K H l r
end
/-- tuples stand, and the lists that no one writes -/
structure TK (K : PySem.W.Frag) (H H' : Hp) : Prop where
  tup : ∀ a xs, SqT K H a xs → SqT K H' a xs
  frz : ∀ a xs, FzL K H a xs → FzL K H' a xs
theorem TK.refl {K : PySem.W.Frag} {H : Hp} : TK K H H := ⟨fun _ _ h => h, fun _ _ h => h⟩
theorem TK.trans {K : PySem.W.Frag} {H H1 H2 : Hp} (a : TK K H H1) (b : TK K H1 H2) : TK K H H2 := ⟨fun c xs h => b.tup c xs (a.tup c xs h), fun c xs h => b.frz c xs (a.frz c xs h)⟩
mutual
theorem RM.monoT {K : PySem.W.Frag} {H H' : Hp} (t : TK K H H') : ∀ (m : MV) {v : V}, RM K H m v → RM K H' m v
  | .non, _, h => h
  | .bl _, _, h => h
  | .int _, _, h => h
  | .str _, _, h => h
  | .ref _, _, h => h
  | .tup l, _, h => by
    unfold RM at h ⊢
    obtain ⟨a, xs, e, s, r⟩ := h
    exact ⟨a, xs, e, t.tup _ _ s, RMs.monoT t l r⟩
  | .frz l, _, h => by
    unfold RM at h ⊢
    obtain ⟨a, xs, e, s, r⟩ := h
    exact ⟨a, xs, e, t.frz _ _ s, RMs.monoT t l r⟩
theorem RMs.monoT {K : PySem.W.Frag} {H H' : Hp} (t : TK K H H') : ∀ (l : List MV) {xs : List V}, RMs K H l xs → RMs K H' l xs
  | [], _, h => h
  | m :: l, _, h => by
    unfold RMs at h ⊢
    obtain ⟨x, r, e, h1, h2⟩ := h
    exact ⟨x, r, e, RM.monoT t m h1, RMs.monoT t l h2⟩
end
theorem RMs.length {K : PySem.W.Frag} {H : Hp} : ∀ {l : List MV} {xs : List V}, RMs K H l xs → xs.length = l.length
  | [], _, h => by unfold RMs at h; rw [h]; rfl
  | m :: l, _, h => by
    unfold RMs at h
    obtain ⟨x, r, e, _, h2⟩ := h
    rw [e, List.length_cons, List.length_cons, RMs.length h2]
theorem RMs.nil {K : PySem.W.Frag} {H : Hp} : RMs K H [] [] := by unfold RMs; rfl
theorem RMs.cons {K : PySem.W.Frag} {H : Hp} {m : MV} {l : List MV} {x : V} {r : List V} (a : RM K H m x) (b : RMs K H l r) : RMs K H (m :: l) (x :: r) := by
  unfold RMs; exact ⟨x, r, rfl, a, b⟩
theorem RMs.get {K : PySem.W.Frag} {H : Hp} : ∀ {l : List MV} {xs : List V} {i : Nat} {m : MV}, RMs K H l xs → l[i]? = some m → ∃ x, xs[i]? = some x ∧ RM K H m x
  | [], _, _, _, _, e => by simp at e
  | m :: l, _, 0, m', h, e => by
    unfold RMs at h
    obtain ⟨x, r, ex, h1, _⟩ := h
    simp at e; subst e; subst ex
    exact ⟨x, rfl, h1⟩
  | m :: l, _, i + 1, m', h, e => by
    unfold RMs at h
    obtain ⟨x, r, ex, _, h2⟩ := h
    subst ex
    obtain ⟨y, e1, e2⟩ := RMs.get (i := i) (m := m') h2 (by simpa using e)
    exact ⟨y, by simpa using e1, e2⟩
theorem RMs.append {K : PySem.W.Frag} {H : Hp} : ∀ {l k : List MV} {xs ys : List V}, RMs K H l xs → RMs K H k ys → RMs K H (l ++ k) (xs ++ ys)
  | [], _, _, _, h, h' => by unfold RMs at h; subst h; exact h'
  | m :: l, _, _, _, h, h' => by
    unfold RMs at h
    obtain ⟨x, r, ex, h1, h2⟩ := h
    subst ex
    exact RMs.cons h1 (RMs.append h2 h')
theorem RMs.take {K : PySem.W.Frag} {H : Hp} : ∀ (n : Nat) {l : List MV} {xs : List V}, RMs K H l xs → RMs K H (l.take n) (xs.take n)
  | 0, _, _, _ => RMs.nil
  | n + 1, [], _, h => by unfold RMs at h; subst h; exact RMs.nil
  | n + 1, m :: l, _, h => by
    unfold RMs at h
    obtain ⟨x, r, ex, h1, h2⟩ := h
    subst ex
    exact RMs.cons h1 (RMs.take n h2)
theorem RMs.drop {K : PySem.W.Frag} {H : Hp} : ∀ (n : Nat) {l : List MV} {xs : List V}, RMs K H l xs → RMs K H (l.drop n) (xs.drop n)
  | 0, _, _, h => h
  | n + 1, [], _, h => by unfold RMs at h; subst h; exact RMs.nil
  | n + 1, m :: l, _, h => by
    unfold RMs at h
    obtain ⟨x, r, ex, h1, h2⟩ := h
    subst ex
    exact RMs.drop n h2
theorem RMs.set {K : PySem.W.Frag} {H : Hp} {m : MV} {x : V} (r : RM K H m x) : ∀ (i : Nat) {l : List MV} {xs : List V}, RMs K H l xs → RMs K H (l.set i m) (xs.set i x)
  | _, [], _, h => by unfold RMs at h; subst h; exact RMs.nil
  | 0, m' :: l, _, h => by
    unfold RMs at h
    obtain ⟨x', r', ex, h1, h2⟩ := h
    subst ex
    exact RMs.cons r h2
  | i + 1, m' :: l, _, h => by
    unfold RMs at h
    obtain ⟨x', r', ex, h1, h2⟩ := h
    subst ex
    exact RMs.cons h1 (RMs.set r i h2)
theorem RMs.erase {K : PySem.W.Frag} {H : Hp} : ∀ (i : Nat) {l : List MV} {xs : List V}, RMs K H l xs → RMs K H (l.eraseIdx i) (xs.eraseIdx i)
  | _, [], _, h => by unfold RMs at h; subst h; exact RMs.nil
  | 0, m' :: l, _, h => by
    unfold RMs at h
    obtain ⟨x', r', ex, h1, h2⟩ := h
    subst ex
    exact h2
  | i + 1, m' :: l, _, h => by
    unfold RMs at h
    obtain ⟨x', r', ex, h1, h2⟩ := h
    subst ex
    exact RMs.cons h1 (RMs.erase i h2)
theorem RMs.reverse {K : PySem.W.Frag} {H : Hp} : ∀ {l : List MV} {xs : List V}, RMs K H l xs → RMs K H l.reverse xs.reverse
  | [], _, h => by unfold RMs at h; subst h; exact RMs.nil
  | m :: l, _, h => by
    unfold RMs at h
    obtain ⟨x, r, ex, h1, h2⟩ := h
    subst ex
    rw [List.reverse_cons, List.reverse_cons]
    exact RMs.append (RMs.reverse h2) (RMs.cons h1 RMs.nil)
theorem RMs.isEmpty {K : PySem.W.Frag} {H : Hp} {l : List MV} {xs : List V} (h : RMs K H l xs) : xs.isEmpty = l.isEmpty := by
  cases l with
  | nil => unfold RMs at h; subst h; rfl
  | cons m l => unfold RMs at h; obtain ⟨x, r, e, _⟩ := h; subst e; rfl

/-- what stands at an address -/
def RO (K : PySem.W.Frag) (H : Hp) : MO → Addr → Prop
  | .lst l, a => ∃ xs, H a = some (.lst xs) ∧ RMs K H l xs
  | .rl l, a => ∃ xs, Rd H a (.lst xs) ∧ RMs K H l xs
  | .dct kvs, a => ∃ ks : List (Key × V), H a = some (.dK ks) ∧ ks.map (·.1) = kvs.map (fun p => (Sum.inr (so p.1) : Key)) ∧ RMs K H (kvs.map (·.2)) (ks.map (·.2))
  | .ins c fs, a => ∃ (dx : Addr) (xs : List (Str × V)), H a = some (.ins (He.ga K (so c)) dx xs) ∧ xs.map (·.1) = fs.map (fun p => so p.1) ∧ RMs K H (fs.map (·.2)) (xs.map (·.2))
theorem RO.monoT {K : PySem.W.Frag} {H H' : Hp} {o : MO} {a : Addr} (r : RO K H o a) (t : TK K H H') (e : H' a = H a) : RO K H' o a := by
  cases o with
  | lst l => obtain ⟨xs, h1, h2⟩ := r; exact ⟨xs, by rw [e]; exact h1, h2.monoT t l⟩
  | rl l =>
    obtain ⟨xs, h1, h2⟩ := r
    refine ⟨xs, ?_, h2.monoT t l⟩
    rcases h1 with h1 | ⟨o, h1⟩
    · exact .inl (by rw [e]; exact h1)
    · exact .inr ⟨o, by rw [e]; exact h1⟩
  | dct kvs => obtain ⟨ks, h1, h2, h3⟩ := r; exact ⟨ks, by rw [e]; exact h1, h2, h3.monoT t _⟩
  | ins c fs => obtain ⟨dx, xs, h1, h2, h3⟩ := r; exact ⟨dx, xs, by rw [e]; exact h1, h2, h3.monoT t _⟩
theorem RO.some {K : PySem.W.Frag} {H : Hp} {o : MO} {a : Addr} (r : RO K H o a) : ∃ u, H a = some u := by
  cases o with
  | lst l => obtain ⟨xs, h1, h2⟩ := r; exact ⟨_, h1⟩
  | rl l =>
    obtain ⟨xs, h1, h2⟩ := r
    rcases h1 with h1 | ⟨o, h1⟩
    · exact ⟨_, h1⟩
    · exact ⟨_, h1⟩
  | dct kvs => obtain ⟨ks, h1, h2, h3⟩ := r; exact ⟨_, h1⟩
  | ins c fs => obtain ⟨dx, xs, h1, h2, h3⟩ := r; exact ⟨_, h1⟩
/-- the store is held; the tables at Z stand -/
structure RS (K : PySem.W.Frag) (Z : List Addr) (S : Sto) (H : Hp) : Prop where
  ob : ∀ a o, S a = some o → RO K H o a
  tab : ∀ P ∈ Z, GxR.TabG H P
/-- the slots -/
structure RE (K : PySem.W.Frag) (H : Hp) (ρ : Env) (σ : L2.St) : Prop where
  len : ρ.length = σ.length
  at_ : ∀ (i : Nat) (m : MV), ρ[i]? = some (some m) → ∃ x, σ[i]? = some (some x) ∧ RM K H m x
theorem RE.monoT {K : PySem.W.Frag} {H H' : Hp} {ρ : Env} {σ : L2.St} (r : RE K H ρ σ) (t : TK K H H') : RE K H' ρ σ :=
  ⟨r.len, fun i m h => let ⟨x, e, q⟩ := r.at_ i m h; ⟨x, e, q.monoT t m⟩⟩
theorem RE.set {K : PySem.W.Frag} {H : Hp} {ρ : Env} {σ : L2.St} {i : Nat} {m : MV} {x : V} (r : RE K H ρ σ) (q : RM K H m x) : RE K H (ρ.set i (some m)) (σ.set i (some x)) := by
  refine ⟨by rw [List.length_set, List.length_set]; exact r.len, fun j m' h => ?_⟩
  by_cases e : i = j
  · subst e
    by_cases hl : i < ρ.length
    · rw [List.getElem?_set_self hl] at h
      cases h
      exact ⟨x, by rw [List.getElem?_set_self (by rw [← r.len]; exact hl)], q⟩
    · rw [List.getElem?_eq_none (by rw [List.length_set]; omega)] at h
      cases h
  · rw [List.getElem?_set_ne e] at h
    obtain ⟨y, e1, e2⟩ := r.at_ j m' h
    exact ⟨y, by rw [List.getElem?_set_ne e]; exact e1, e2⟩
theorem RE.unset {K : PySem.W.Frag} {H : Hp} {ρ : Env} {σ : L2.St} {i : Nat} (r : RE K H ρ σ) : RE K H (ρ.set i none) (σ.set i none) := by
  refine ⟨by rw [List.length_set, List.length_set]; exact r.len, fun j m' h => ?_⟩
  by_cases e : i = j
  · subst e
    by_cases hl : i < ρ.length
    · rw [List.getElem?_set_self hl] at h
      cases h
    · rw [List.getElem?_eq_none (by rw [List.length_set]; omega)] at h
      cases h
  · rw [List.getElem?_set_ne e] at h
    obtain ⟨y, e1, e2⟩ := r.at_ j m' h
    exact ⟨y, by rw [List.getElem?_set_ne e]; exact e1, e2⟩
def wipeM (ρ : Env) : List Nat → Env
  | [] => ρ
  | v :: vs => (wipeM ρ vs).set v none
theorem RE.wiped {K : PySem.W.Frag} {H : Hp} {ρ : Env} {σ : L2.St} (r : RE K H ρ σ) : ∀ vs : List Nat, RE K H (wipeM ρ vs) (L2.wipe σ vs)
  | [] => r
  | v :: vs => by
    unfold wipeM L2.wipe
    exact (r.wiped vs).unset
/-! tuples stand where something else is laid or written -/
theorem TK.upd {K : PySem.W.Frag} {H : Hp} {a : Addr} {o : HO} (h : ∀ xs, ¬ Rd H a (.tup xs)) (h2 : ∀ q xs, H a ≠ some (.frz q (.lst xs))) : TK K H (L2.upd H a o) := by
  refine ⟨fun b xs s => ?_, fun b xs s => ?_⟩
  · rcases s with s | s
    · have hne : b ≠ a := fun e => by subst e; exact h xs s
      left
      rcases s with s | ⟨q, s⟩
      · exact .inl (by rw [upd_ne hne]; exact s)
      · exact .inr ⟨q, by rw [upd_ne hne]; exact s⟩
    · exact .inr s
  · rcases s with ⟨q, s⟩ | s
    · have hne : b ≠ a := fun e => by subst e; exact h2 q xs s
      exact .inl ⟨q, by rw [upd_ne hne]; exact s⟩
    · exact .inr s
theorem TK.new {K : PySem.W.Frag} {H : Hp} {a : Addr} {o : HO} (h : H a = none) : TK K H (L2.upd H a o) := TK.upd (fun xs s => by
  rcases s with s | ⟨q, s⟩ <;> (rw [h] at s; cases s)) fun q xs s => by rw [h] at s; cases s
theorem TK.lst {K : PySem.W.Frag} {H : Hp} {a : Addr} {o : HO} {ys : List V} (h : H a = some (.lst ys)) : TK K H (L2.upd H a o) := TK.upd (fun xs s => by
  rcases s with s | ⟨q, s⟩ <;> (rw [h] at s; cases s)) fun q xs s => by rw [h] at s; cases s
theorem TK.dK {K : PySem.W.Frag} {H : Hp} {a : Addr} {o : HO} {ys : List (Key × V)} (h : H a = some (.dK ys)) : TK K H (L2.upd H a o) := TK.upd (fun xs s => by
  rcases s with s | ⟨q, s⟩ <;> (rw [h] at s; cases s)) fun q xs s => by rw [h] at s; cases s
theorem TK.ins {K : PySem.W.Frag} {H : Hp} {a C dx : Addr} {o : HO} {ys : List (Str × V)} (h : H a = some (.ins C dx ys)) : TK K H (L2.upd H a o) := TK.upd (fun xs s => by
  rcases s with s | ⟨q, s⟩ <;> (rw [h] at s; cases s)) fun q xs s => by rw [h] at s; cases s
theorem TabG.upd {H : Hp} {a P : Addr} {o : HO} (t : GxR.TabG H P) (h : ∀ ps, H a ≠ some (.tbl ps)) : GxR.TabG (L2.upd H a o) P := by
  obtain ⟨ps, e, q⟩ := t
  exact ⟨ps, by rw [upd_ne (fun z => by subst z; exact h ps e)]; exact e, q⟩
section
variable {K : PySem.W.Frag} {Z : List Addr} {S : Sto} {H : Hp} {a : Addr}
theorem RS.free (r : RS K Z S H) (h : H a = none) : S a = none := by
  cases e : S a with
  | none => rfl
  | some o =>
    obtain ⟨u, hu⟩ := (r.ob a o e).some
    rw [h] at hu; cases hu
/-- something that is not in the store is laid -/
theorem RS.hid {o : HO} (r : RS K Z S H) (h : H a = none) : RS K Z S (upd H a o) := by
  refine ⟨fun b u e => (r.ob b u e).monoT (TK.new h) ?_, fun P hP => TabG.upd (r.tab P hP) fun ps e => by rw [h] at e; cases e⟩
  rw [upd_ne]
  rintro rfl
  rw [r.free h] at e; cases e
/-- something that is not in the store is changed -/
theorem RS.hidW {o : HO} {ys : List V} (r : RS K Z S H) (h : H a = some (.lst ys)) (n : S a = none) : RS K Z S (upd H a o) := by
  refine ⟨fun b u e => (r.ob b u e).monoT (TK.lst h) ?_, fun P hP => TabG.upd (r.tab P hP) fun ps e => by rw [h] at e; cases e⟩
  rw [upd_ne]
  rintro rfl
  rw [n] at e; cases e
theorem RS.put {o : HO} {m : MO} (r : RS K Z S H) (t : TK K H (upd H a o)) (nt : ∀ ps, H a ≠ some (.tbl ps)) (q : RO K (upd H a o) m a) : RS K Z (supd S a m) (upd H a o) := by
  refine ⟨fun b u e => ?_, fun P hP => TabG.upd (r.tab P hP) nt⟩
  by_cases hb : b = a
  · subst hb
    rw [supd_same] at e; cases e
    exact q
  · rw [supd_ne hb] at e
    exact (r.ob b u e).monoT t (upd_ne hb)
/-- a new list -/
theorem RS.newL {l : List MV} {xs : List V} (r : RS K Z S H) (h : H a = none) (q : RMs K H l xs) : RS K Z (supd S a (.lst l)) (upd H a (.lst xs)) :=
  r.put (TK.new h) (fun ps e => by rw [h] at e; cases e) ⟨xs, upd_same, q.monoT (TK.new h) l⟩
theorem RS.setL {l l' : List MV} {xs ys : List V} (r : RS K Z S H) (h : H a = some (.lst ys)) (q : RMs K H l' xs) : RS K Z (supd S a (.lst l')) (upd H a (.lst xs)) :=
  r.put (TK.lst h) (fun ps e => by rw [h] at e; cases e) ⟨xs, upd_same, q.monoT (TK.lst h) l'⟩
theorem RS.lst {l : List MV} (r : RS K Z S H) (e : S a = some (.lst l)) : ∃ xs, H a = some (.lst xs) ∧ RMs K H l xs := r.ob a _ e
end

/-- tuples stand; what is not in the store is left alone -/
structure GK (K : PySem.W.Frag) (S : Sto) (H : Hp) (S' : Sto) (H' : Hp) : Prop where
  tk : TK K H H'
  fr : ∀ a o, S a = none → H a = some o → (∀ ps, o ≠ .tbl ps) → H' a = some o ∧ S' a = none
theorem GK.refl {K : PySem.W.Frag} {S : Sto} {H : Hp} : GK K S H S H := ⟨TK.refl, fun a o h e _ => ⟨e, h⟩⟩
theorem GK.trans {K : PySem.W.Frag} {S S1 S2 : Sto} {H H1 H2 : Hp} (a : GK K S H S1 H1) (b : GK K S1 H1 S2 H2) : GK K S H S2 H2 :=
  ⟨a.tk.trans b.tk, fun c o h e n => let ⟨e1, n1⟩ := a.fr c o h e n; b.fr c o n1 e1 n⟩
theorem GK.hid {K : PySem.W.Frag} {S : Sto} {H : Hp} {p : Addr} {o : HO} (h : H p = none) : GK K S H S (upd H p o) :=
  ⟨TK.new h, fun c u n e _ => ⟨by rw [upd_ne (ne_of_none e h)]; exact e, n⟩⟩
theorem GK.new {K : PySem.W.Frag} {S : Sto} {H : Hp} {p : Addr} {o : HO} {m : MO} (h : H p = none) : GK K S H (supd S p m) (upd H p o) :=
  ⟨TK.new h, fun c u n e _ => ⟨by rw [upd_ne (ne_of_none e h)]; exact e, by rw [supd_ne (ne_of_none e h)]; exact n⟩⟩
theorem GK.put {K : PySem.W.Frag} {S : Sto} {H : Hp} {p : Addr} {o : HO} {m m' : MO} (t : TK K H (upd H p o)) (h : S p = some m') : GK K S H (supd S p m) (upd H p o) :=
  ⟨t, fun c u n e _ => by
    have hne : c ≠ p := fun z => by subst z; rw [h] at n; cases n
    exact ⟨by rw [upd_ne hne]; exact e, by rw [supd_ne hne]; exact n⟩⟩
theorem RM.mono {K : PySem.W.Frag} {S S' : Sto} {H H' : Hp} {m : MV} {v : V} (r : RM K H m v) (g : GK K S H S' H') : RM K H' m v := RM.monoT g.tk m r
theorem RMs.mono {K : PySem.W.Frag} {S S' : Sto} {H H' : Hp} {m : List MV} {v : List V} (r : RMs K H m v) (g : GK K S H S' H') : RMs K H' m v := RMs.monoT g.tk m r
theorem RE.mono {K : PySem.W.Frag} {S S' : Sto} {H H' : Hp} {ρ : Env} {σ : L2.St} (r : RE K H ρ σ) (g : GK K S H S' H') : RE K H' ρ σ := RE.monoT r g.tk

/-! ### the judgements -/
def PEat (X : Cx) (e : Expr) (σ : L2.St) (H : Hp) (Q : VK) : Prop := ∀ (pins : List (Addr × Obj)) (s : Shared), Inv X pins σ H s → wpAny (model X.prog X.w) X.A (eval e X.env) (EP X pins σ Q) X.xe s
def PTat (X : Cx) (e : Expr) (σ : L2.St) (H : Hp) (Q : Bool → Hp → Prop) : Prop := ∀ (pins : List (Addr × Obj)) (s : Shared), Inv X pins σ H s → wpAny (model X.prog X.w) X.A (isTrue e X.env (eval e X.env)) (TP X pins σ Q) X.xe s
/-- the value-level wish, for the layer below -/
def MQ (K : PySem.W.Frag) (Z : List Addr) (S : Sto) (H : Hp) (R : MK) : VK := fun v H' => ∃ m S', GK K S H S' H' ∧ RM K H' m v ∧ RS K Z S' H' ∧ R m S'
def MQs (K : PySem.W.Frag) (Z : List Addr) (S : Sto) (H : Hp) (R : List MV → Sto → Prop) : List V → Hp → Prop := fun vs H' => ∃ ms S', GK K S H S' H' ∧ RMs K H' ms vs ∧ RS K Z S' H' ∧ R ms S'
def MQb (K : PySem.W.Frag) (Z : List Addr) (S : Sto) (H : Hp) (R : Bool → Sto → Prop) : Bool → Hp → Prop := fun b H' => ∃ S', GK K S H S' H' ∧ RS K Z S' H' ∧ R b S'
def MQd (K : PySem.W.Frag) (Z : List Addr) (S : Sto) (H : Hp) (R : Env → Sto → Prop) : L2.St → Hp → Prop := fun σ' H' => ∃ ρ' S', GK K S H S' H' ∧ RE K H' ρ' σ' ∧ RS K Z S' H' ∧ R ρ' S'
def toE (K : PySem.W.Frag) (Z : List Addr) (S : Sto) (H : Hp) (D : MD) : Ends := { nx := MQd K Z S H D.nx, rt := MQ K Z S H D.rt, bk := MQd K Z S H D.bk, ct := MQd K Z S H D.ct }
structure EE (X : Cx) (Z : List Addr) (e : Expr) (m : ME) : Prop where
  run : ∀ (σ : L2.St) (H : Hp) (ρ : Env) (S : Sto) (R : MK), RE X.K H ρ σ → RS X.K Z S H → m ρ S R → PEat X e σ H (MQ X.K Z S H R)
structure ET (X : Cx) (Z : List Addr) (e : Expr) (m : MT) : Prop where
  run : ∀ (σ : L2.St) (H : Hp) (ρ : Env) (S : Sto) (R : Bool → Sto → Prop), RE X.K H ρ σ → RS X.K Z S H → m ρ S R → PTat X e σ H (MQb X.K Z S H R)
def tM (K : PySem.W.Frag) (Z : List Addr) (m : ME) : TE := fun σ H Q => ∃ ρ S R, RE K H ρ σ ∧ RS K Z S H ∧ m ρ S R ∧ ∀ v H', MQ K Z S H R v H' → Q v H'
def tMT (K : PySem.W.Frag) (Z : List Addr) (m : MT) : TT := fun σ H Q => ∃ ρ S R, RE K H ρ σ ∧ RS K Z S H ∧ m ρ S R ∧ ∀ v H', MQb K Z S H R v H' → Q v H'
def tMA (K : PySem.W.Frag) (Z : List Addr) (m : MA) : TA := fun σ H Q => ∃ ρ S R, RE K H ρ σ ∧ RS K Z S H ∧ m ρ S R ∧ ∀ v H', MQs K Z S H R v H' → Q v H'
def tMS (K : PySem.W.Frag) (Z : List Addr) (m : MS) : TS := fun D σ H => ∃ ρ S D', RE K H ρ σ ∧ RS K Z S H ∧ m D' ρ S ∧ (∀ σ' H', MQd K Z S H D'.nx σ' H' → D.nx σ' H') ∧ (∀ v H', MQ K Z S H D'.rt v H' → D.rt v H') ∧
  (∀ σ' H', MQd K Z S H D'.bk σ' H' → D.bk σ' H') ∧ (∀ σ' H', MQd K Z S H D'.ct σ' H' → D.ct σ' H')
/-- arguments, statements, blocks: by the layer below's own form -/
structure EA (X : Cx) (Z : List Addr) (es : List Expr) (m : MA) : Prop where
  pa : PA X es (tMA X.K Z m)
structure EK (X : Cx) (Z : List Addr) (ks : List Keyword) (m : MA) : Prop where
  pk : PK X ks (tMA X.K Z m)
structure ES (X : Cx) (Z : List Addr) (st : Stmt) (m : MS) : Prop where
  ps : PS X st (tMS X.K Z m)
structure EB (X : Cx) (Z : List Addr) (sts : List Stmt) (m : MS) : Prop where
  pss : PSs X sts (tMS X.K Z m)
section
variable {X : Cx} {Z : List Addr} {e a b : Expr} {m ma mb : ME} {mt : MT} {t : TE}
theorem EE.pe (h : EE X Z e m) : PE X e (tM X.K Z m) := ⟨fun pins s σ H Q I ⟨ρ, S, R, hE, hS, hm, hQ⟩ =>
  thn (h.run σ H ρ S R hE hS hm pins s I) fun u s' ⟨v, H', I', r, q⟩ => ⟨v, H', I', r, hQ v H' q⟩⟩
theorem ET.pt (h : ET X Z e mt) : PT X e (tMT X.K Z mt) := ⟨fun pins s σ H Q I ⟨ρ, S, R, hE, hS, hm, hQ⟩ =>
  thn (h.run σ H ρ S R hE hS hm pins s I) fun u s' ⟨H', I', q⟩ => ⟨H', I', hQ u H' q⟩⟩
theorem ee_of (h : PE X e t) (k : ∀ σ H ρ S R, RE X.K H ρ σ → RS X.K Z S H → m ρ S R → t σ H (MQ X.K Z S H R)) : EE X Z e m :=
  ⟨fun σ H ρ S R hE hS hm pins s I => h.run pins s σ H _ I (k σ H ρ S R hE hS hm)⟩
theorem et_of {t : TT} (h : PT X e t) (k : ∀ σ H ρ S R, RE X.K H ρ σ → RS X.K Z S H → mt ρ S R → t σ H (MQb X.K Z S H R)) : ET X Z e mt :=
  ⟨fun σ H ρ S R hE hS hm pins s I => h.run pins s σ H _ I (k σ H ρ S R hE hS hm)⟩
theorem PA.imp {es : List Expr} {t t' : TA} (h : PA X es t) (k : ∀ σ H Q, t' σ H Q → t σ H Q) : PA X es t' := ⟨fun pos pins s σ H Q I hw => h.run pos pins s σ H Q I (k σ H Q hw)⟩
theorem PK.imp {es : List Keyword} {t t' : TA} (h : PK X es t) (k : ∀ σ H Q, t' σ H Q → t σ H Q) : PK X es t' := ⟨fun pos pins s σ H Q I hw => h.run pos pins s σ H Q I (k σ H Q hw)⟩
theorem PS.imp {st : Stmt} {t t' : TS} (h : PS X st t) (k : ∀ D σ H, t' D σ H → t D σ H) : PS X st t' := ⟨fun pins s σ H D I hw => h.run pins s σ H D I (k D σ H hw)⟩
theorem PSs.imp {st : List Stmt} {t t' : TS} (h : PSs X st t) (k : ∀ D σ H, t' D σ H → t D σ H) : PSs X st t' := ⟨fun pins s σ H D I hw => h.run pins s σ H D I (k D σ H hw)⟩
theorem PE.or {t t' : TE} (h : PE X e t) (h' : PE X e t') : PE X e (fun σ H Q => t σ H Q ∨ t' σ H Q) := ⟨fun pins s σ H Q I hw => hw.elim (h.run pins s σ H Q I) (h'.run pins s σ H Q I)⟩
theorem PS.or {st : Stmt} {t t' : TS} (h : PS X st t) (h' : PS X st t') : PS X st (fun D σ H => t D σ H ∨ t' D σ H) := ⟨fun pins s σ H D I hw => hw.elim (h.run pins s σ H D I) (h'.run pins s σ H D I)⟩

/-! ### names, constants -/
def mVar (i : Nat) : ME := fun ρ S R => match ρ[i]? with
  | some (some v) => R v S
  | _ => False
def mC (v : MV) : ME := fun _ S R => R v S
theorem ee_var {i : Nat} (h : PE X e (tVar i)) : EE X Z e (mVar i) := ee_of h fun σ H ρ S R hE hS hm => by
  unfold mVar at hm
  split at hm
  · rename_i v hv
    obtain ⟨x, e1, e2⟩ := hE.at_ i v hv
    exact ⟨x, e1, v, S, GK.refl, e2, hS, hm⟩
  · exact hm.elim
theorem ee_c {v : V} {mv : MV} (h : PE X e (tC v)) (r : ∀ H, RM X.K H mv v) : EE X Z e (mC mv) := ee_of h fun σ H ρ S R hE hS hm => ⟨mv, S, GK.refl, r H, hS, hm⟩
theorem ee_int {i j pos} : EE X Z (.Constant (.int i) j pos) (mC (.int i)) := ee_c pe_int fun _ => by unfold RM; rfl
theorem ee_bl {b j pos} : EE X Z (.Constant (.bool b) j pos) (mC (.bl b)) := ee_c pe_bl fun _ => by unfold RM; rfl
theorem ee_non {j pos} : EE X Z (.Constant .none j pos) (mC .non) := ee_c pe_non fun _ => by unfold RM; rfl
theorem ee_str {x : String} {j pos} : EE X Z (.Constant (.str (Str.ofString x)) j pos) (mC (.str x)) := ee_c pe_str fun _ => by unfold RM; rfl
/-! ### two values and an operation -/
abbrev M2 := MV → MV → Sto → MK → Prop
def mOp (f : M2) (ma mb : ME) : ME := fun ρ S R => ma ρ S fun x S1 => mb ρ S1 fun y S2 => f x y S2 R
def rM (K : PySem.W.Frag) (Z : List Addr) (f : M2) : R2 := fun x y H Q => ∃ mx my S R, RM K H mx x ∧ RM K H my y ∧ RS K Z S H ∧ f mx my S R ∧ ∀ v H', MQ K Z S H R v H' → Q v H'
theorem seq2 {f : M2} {σ H ρ S R} (hE : RE X.K H ρ σ) (hS : RS X.K Z S H) (h : mOp f ma mb ρ S R) : tOp (rM X.K Z f) (tM X.K Z ma) (tM X.K Z mb) σ H (MQ X.K Z S H R) := by
  refine ⟨ρ, S, _, hE, hS, h, fun v H1 ⟨x, S1, t1, r1, s1, q1⟩ => ?_⟩
  refine ⟨ρ, S1, _, hE.mono t1, s1, q1, fun u H2 ⟨y, S2, t2, r2, s2, q2⟩ => ?_⟩
  exact ⟨x, y, S2, R, r1.mono t2, r2, s2, q2, fun v H' ⟨m, S', t3, r3, s3, q3⟩ => ⟨m, S', t1.trans (t2.trans t3), r3, s3, q3⟩⟩
theorem ee_op {op : Operator} {f : M2} {pos} (ho : OpR X (binaryOp op) (rM X.K Z f)) (ha : EE X Z a ma) (hb : EE X Z b mb) : EE X Z (.BinOp a op b pos) (mOp f ma mb) :=
  ee_of (pe_op ho ha.pe hb.pe) fun σ H ρ S R hE hS hm => seq2 hE hS hm
theorem ee_cmp {op : CmpOp} {f : M2} {pos} (ho : OpR X (compareOp op) (rM X.K Z f)) (ha : EE X Z a ma) (hb : EE X Z b mb) (hm : behindInMarks op b = false) : EE X Z (.Compare a [op] [b] pos) (mOp f ma mb) :=
  ee_of (pe_cmpR ho ha.pe hb.pe hm) fun σ H ρ S R hE hS hm => seq2 hE hS hm
theorem ee_ix {f : M2} {pos} (ho : IxR X (rM X.K Z f)) (ha : EE X Z a ma) (hb : EE X Z b mb) (hs : PlainIx b) : EE X Z (.Subscript a b pos) (mOp f ma mb) :=
  ee_of (pe_ix ho ha.pe hb.pe hs) fun σ H ρ S R hE hS hm => seq2 hE hS hm
/-- a comparison as a test -/
def asB (R : Bool → Sto → Prop) : MK := fun v S => match v with
  | .bl b => R b S
  | _ => False
def mTst (m : ME) : MT := fun ρ S R => m ρ S (asB R)
theorem asB_out {K : PySem.W.Frag} {S : Sto} {H : Hp} {R : Bool → Sto → Prop} {v : V} {H' : Hp} (h : MQ K Z S H (asB R) v H') : ∃ k, v = .bl k ∧ MQb K Z S H R k H' := by
  obtain ⟨m, S', t, r, s, q⟩ := h
  unfold asB at q
  split at q
  · unfold RM at r
    exact ⟨_, r, S', t, s, q⟩
  · exact q.elim
theorem et_cmp {op : CmpOp} {f : M2} {pos} (ho : OpR X (compareOp op) (rM X.K Z f)) (ha : EE X Z a ma) (hb : EE X Z b mb) (hm : behindInMarks op b = false) : ET X Z (.Compare a [op] [b] pos) (mTst (mOp f ma mb)) :=
  et_of (pt_cmpR ho ha.pe hb.pe hm) fun σ H ρ S R hE hS hm => by
    obtain ⟨ρ1, S1, R1, e1, e2, e3, e4⟩ := seq2 hE hS hm
    refine ⟨ρ1, S1, R1, e1, e2, e3, fun v H1 q1 => ?_⟩
    obtain ⟨ρ2, S2, R2, f1, f2, f3, f4⟩ := e4 v H1 q1
    refine ⟨ρ2, S2, R2, f1, f2, f3, fun u H2 q2 => ?_⟩
    obtain ⟨mx, my, S3, R3, g1, g2, g3, g4, g5⟩ := f4 u H2 q2
    exact ⟨mx, my, S3, R3, g1, g2, g3, g4, fun v H' q => asB_out (g5 v H' q)⟩
end
end Mv

set_option Elab.async false
set_option linter.all false
set_option maxRecDepth 100000
set_option maxHeartbeats 4000000
namespace Mv
open PySem PySem.Spec PyProof.Rows L2
/-! ### data -/
mutual
def pd : MV → PyData
  | .non => .none
  | .bl b => .bool b
  | .int i => .int i
  | .str s => .str (so s)
  | .tup l => .tuple (pds l)
  | .ref _ => .none
  | .frz _ => .none
def pds : List MV → List PyData
  | [] => []
  | m :: l => pd m :: pds l
end
mutual
/-- no references, not too deep, its texts plain -/
def fit : MV → Nat → Bool
  | .non, _ => true
  | .bl _, _ => true
  | .int _, _ => true
  | .str s, _ => PyData.strOk (so s)
  | .tup _, 0 => false
  | .tup l, n + 1 => fits l n
  | .ref _, _ => false
  | .frz _, _ => false
def fits : List MV → Nat → Bool
  | [], _ => true
  | m :: l, n => fit m n && fits l n
end
mutual
theorem fit_lay : ∀ (m : MV) (n : Nat), fit m n = true → (pd m).canLay0 = true ∧ (pd m).depth ≤ n
  | .non, n, _ => by simp [pd, PyData.canLay0, PyData.depth]
  | .bl _, n, _ => by simp [pd, PyData.canLay0, PyData.depth]
  | .int _, n, _ => by simp [pd, PyData.canLay0, PyData.depth]
  | .str s, n, h => by
    simp only [fit] at h
    simp [pd, PyData.canLay0, PyData.depth, h]
  | .tup l, 0, h => by simp [fit] at h
  | .tup l, n + 1, h => by
    simp only [fit] at h
    have := fits_lay l n h
    simp only [pd, PyData.canLay0, PyData.depth]
    exact ⟨this.1, Nat.succ_le_succ this.2⟩
  | .ref _, n, h => by simp [fit] at h
  | .frz _, n, h => by simp [fit] at h
theorem fits_lay : ∀ (l : List MV) (n : Nat), fits l n = true → PyData.canLayAll0 (pds l) = true ∧ PyData.depthAll (pds l) ≤ n
  | [], n, _ => by simp [pds, PyData.canLayAll0, PyData.depthAll]
  | m :: l, n, h => by
    simp only [fits, Bool.and_eq_true] at h
    have h1 := fit_lay m n h.1
    have h2 := fits_lay l n h.2
    simp only [pds, PyData.canLayAll0, PyData.depthAll, h1.1, h2.1]
    exact ⟨rfl, Nat.max_le.mpr ⟨h1.2, h2.2⟩⟩
end
theorem fit_shaped {m : MV} (h : fit m 60 = true) : SeqAt.shaped (pd m) = true := by
  have q := fit_lay m 60 h
  unfold SeqAt.shaped
  rw [q.1, decide_eq_true (by omega)]; rfl
theorem fits_shaped {l : List MV} (h : fits l 59 = true) : SeqAt.shaped (.list (pds l)) = true := by
  have q := fits_lay l 59 h
  unfold SeqAt.shaped
  rw [show (PyData.list (pds l)).canLay0 = PyData.canLayAll0 (pds l) by simp only [PyData.canLay0], show (PyData.list (pds l)).depth = PyData.depthAll (pds l) + 1 by simp only [PyData.depth], q.1, decide_eq_true (by omega)]; rfl
mutual
theorem dp_of {K : PySem.W.Frag} {H : Hp} : ∀ (m : MV) (n : Nat) {v : V}, fit m n = true → RM K H m v → Dp K H v (pd m)
  | .non, _, _, _, r => by unfold RM at r; subst r; exact .non
  | .bl _, _, _, _, r => by unfold RM at r; subst r; exact .bl _
  | .int _, _, _, _, r => by unfold RM at r; subst r; exact .int _
  | .str _, _, _, _, r => by unfold RM at r; subst r; exact .str _
  | .ref _, _, _, h, _ => by simp [fit] at h
  | .frz _, _, _, h, _ => by simp [fit] at h
  | .tup l, 0, _, h, _ => by simp [fit] at h
  | .tup l, n + 1, _, h, r => by
    unfold RM at r
    obtain ⟨a, xs, e, s, q⟩ := r
    subst e
    simp only [fit] at h
    exact .tup s (dps_of l n h q)
theorem dps_of {K : PySem.W.Frag} {H : Hp} : ∀ (l : List MV) (n : Nat) {xs : List V}, fits l n = true → RMs K H l xs → DpAll K H xs (pds l)
  | [], _, _, _, r => by unfold RMs at r; subst r; exact .nil
  | m :: l, n, _, h, r => by
    unfold RMs at r
    obtain ⟨x, r', e, h1, h2⟩ := r
    subst e
    simp only [fits, Bool.and_eq_true] at h
    exact .cons (dp_of m n h.1 h1) (dps_of l n h.2 h2)
end
/-- the list at a, whatever may be done with it -/
def lookL (S : Sto) (a : Addr) : Option (List MV) := match S a with
  | some (.lst l) => some l
  | some (.rl l) => some l
  | _ => none
theorem look_sq {K : PySem.W.Frag} {Z : List Addr} {S : Sto} {H : Hp} {a : Addr} {l : List MV} (r : RS K Z S H) (e : lookL S a = some l) : ∃ xs, SqL K H a xs ∧ RMs K H l xs := by
  unfold lookL at e
  cases q : S a with
  | none => rw [q] at e; cases e
  | some o =>
    have h := r.ob a o q
    rw [q] at e
    cases o with
    | lst l' =>
      cases e
      obtain ⟨xs, h1, h2⟩ := h
      exact ⟨xs, .inl (.inl h1), h2⟩
    | rl l' =>
      cases e
      obtain ⟨xs, h1, h2⟩ := h
      exact ⟨xs, .inl h1, h2⟩
    | _ => cases e
/-- what == reads of a value -/
def datL (S : Sto) (a : Addr) : Option PyData := match lookL S a with
  | some l => if fits l 59 = true then some (.list (pds l)) else none
  | none => none
def dat (S : Sto) : MV → Option PyData
  | .non => some .none
  | .bl b => some (.bool b)
  | .int i => some (.int i)
  | .str s => if PyData.strOk (so s) = true then some (.str (so s)) else none
  | .tup l => if fits l 59 = true then some (.tuple (pds l)) else none
  | .ref a => datL S a
  | .frz _ => none
theorem dat_dp {K : PySem.W.Frag} {Z : List Addr} {S : Sto} {H : Hp} (r : RS K Z S H) {m : MV} {v : V} {d : PyData} (e : dat S m = some d) (q : RM K H m v) : Dp K H v d ∧ SeqAt.shaped d = true := by
  have fin : ∀ m, fit m 60 = true → RM K H m v → Dp K H v (pd m) ∧ SeqAt.shaped (pd m) = true := fun m hf q => ⟨dp_of m 60 hf q, fit_shaped hf⟩
  cases m with
  | ref a =>
    have e : datL S a = some d := e
    unfold datL at e
    cases h : lookL S a with
    | none => rw [h] at e; cases e
    | some l =>
      rw [h] at e
      have e : (if fits l 59 = true then some (PyData.list (pds l)) else none) = some d := e
      split at e
      · rename_i hf
        cases e
        obtain ⟨xs, h1, h2⟩ := look_sq r h
        unfold RM at q; subst q
        exact ⟨.lst h1 (dps_of l 59 hf h2), fits_shaped hf⟩
      · cases e
  | frz l => cases e
  | non => cases e; exact fin .non rfl q
  | bl b => cases e; exact fin (.bl b) rfl q
  | int i => cases e; exact fin (.int i) rfl q
  | str s =>
    have e : (if PyData.strOk (so s) = true then some (PyData.str (so s)) else none) = some d := e
    split at e
    · rename_i hf; cases e; exact fin (.str s) (by simpa [fit] using hf) q
    · cases e
  | tup l =>
    have e : (if fits l 59 = true then some (PyData.tuple (pds l)) else none) = some d := e
    split at e
    · rename_i hf; cases e
      have h := fin (.tup l) (by simpa [fit] using hf) q
      simpa [pd] using h
    · cases e
/-! ### what follows -/
section
variable {K : PySem.W.Frag} {Z : List Addr} {S : Sto} {H : Hp} {R : MK} {Q : VK}
theorem mq (hQ : ∀ v H', MQ K Z S H R v H' → Q v H') {m : MV} {v : V} (r : RM K H m v) (s : RS K Z S H) (h : R m S) : Q v H := hQ _ _ ⟨m, S, GK.refl, r, s, h⟩
theorem mq_int (hQ : ∀ v H', MQ K Z S H R v H' → Q v H') {i : Int} (s : RS K Z S H) (h : R (.int i) S) : Q (.int i) H := mq hQ (by unfold RM; rfl) s h
theorem mq_bl (hQ : ∀ v H', MQ K Z S H R v H' → Q v H') {b : Bool} (s : RS K Z S H) (h : R (.bl b) S) : Q (.bl b) H := mq hQ (by unfold RM; rfl) s h
theorem mq_non (hQ : ∀ v H', MQ K Z S H R v H' → Q v H') (s : RS K Z S H) (h : R .non S) : Q .non H := mq hQ (by unfold RM; rfl) s h
def newL (l : List MV) (S : Sto) (R : MK) : Prop := ∀ p, S p = none → R (.ref p) (supd S p (.lst l))
theorem mq_lst (hQ : ∀ v H', MQ K Z S H R v H' → Q v H') {l : List MV} {xs : List V} {p : Addr} (s : RS K Z S H) (r : RMs K H l xs) (hp : H p = none) (h : newL l S R) : Q (.ref p) (upd H p (.lst xs)) :=
  hQ _ _ ⟨.ref p, _, GK.new hp, by unfold RM; rfl, s.newL hp r, h p (s.free hp)⟩
theorem mq_tup (hQ : ∀ v H', MQ K Z S H R v H' → Q v H') {l : List MV} {xs : List V} {p : Addr} (s : RS K Z S H) (r : RMs K H l xs) (hp : H p = none) (h : R (.tup l) S) : Q (.ref p) (upd H p (.tup xs)) :=
  hQ _ _ ⟨.tup l, S, GK.hid hp, by unfold RM; exact ⟨p, xs, rfl, .inl (.inl upd_same), r.mono (GK.hid (S := S) hp)⟩, s.hid hp, h⟩
end
/-! ### the operations -/
def addV : M2 := fun x y S R => match x, y with
  | .int i, .int j => R (.int (i + j)) S
  | .tup l, .tup k => l.length + k.length ≤ sizeLine ∧ R (.tup (l ++ k)) S
  | .ref a, .ref b => (match S a, S b with
    | some (.lst l), some (.lst k) => l.length + k.length ≤ sizeLine ∧ newL (l ++ k) S R
    | _, _ => False)
  | _, _ => False
def subV : M2 := fun x y S R => match x, y with
  | .int i, .int j => R (.int (i - j)) S
  | _, _ => False
def mulV : M2 := fun x y S R => match x, y with
  | .int i, .int j => CMul i j ∧ R (.int (i * j)) S
  | _, _ => False
def modV : M2 := fun x y S R => match x, y with
  | .int i, .int j => 0 < j ∧ R (.int (i % j)) S
  | _, _ => False
def fdivV : M2 := fun x y S R => match x, y with
  | .int i, .int j => CDiv i j ∧ R (.int (i / j)) S
  | _, _ => False
def powV : M2 := fun x y S R => match x, y with
  | .int i, .int j => CPow i j ∧ R (.int (i ^ j.toNat)) S
  | _, _ => False
def ltV : M2 := fun x y S R => match x, y with
  | .int i, .int j => R (.bl (decide (i < j))) S
  | _, _ => False
def leV : M2 := fun x y S R => match x, y with
  | .int i, .int j => R (.bl (decide (i ≤ j))) S
  | _, _ => False
def gtV : M2 := fun x y S R => match x, y with
  | .int i, .int j => R (.bl (decide (j < i))) S
  | _, _ => False
def geV : M2 := fun x y S R => match x, y with
  | .int i, .int j => R (.bl (decide (j ≤ i))) S
  | _, _ => False
def eqV' : M2 := fun x y S R => match dat S x, dat S y with
  | some d, some e => R (.bl (PyData.eqv d e)) S
  | _, _ => False
def neV' : M2 := fun x y S R => match dat S x, dat S y with
  | some d, some e => R (.bl (!PyData.eqv d e)) S
  | _, _ => False
def isV : M2 := fun x y S R => match x, y with
  | .bl a, .bl b => R (.bl (decide (a = b))) S
  | .non, .non => R (.bl true) S
  | _, .non => R (.bl false) S
  | _, _ => False
def isnotV : M2 := fun x y S R => match x, y with
  | .bl a, .bl b => R (.bl (!decide (a = b))) S
  | .non, .non => R (.bl false) S
  | _, .non => R (.bl true) S
  | _, _ => False
/-- nothing within -/
def flatM : MV → Bool
  | .non => true
  | .bl _ => true
  | .int _ => true
  | .str s => PyData.strOk (so s)
  | _ => false
def inB (x : MV) (l : List MV) : Bool := l.any fun y => PyData.eqv (pd y) (pd x)
def inM : M2 := fun x y S R => match y with
  | .tup l => (flatM x && l.all flatM) = true ∧ R (.bl (inB x l)) S
  | .ref a => (match lookL S a with
    | some l => (fit x 60 && fits l 59) = true ∧ R (.bl (inB x l)) S
    | none => False)
  | _ => False
def notInM : M2 := fun x y S R => match y with
  | .tup l => (flatM x && l.all flatM) = true ∧ R (.bl (!inB x l)) S
  | .ref a => (match lookL S a with
    | some l => (fit x 60 && fits l 59) = true ∧ R (.bl (!inB x l)) S
    | none => False)
  | _ => False
section
variable {X : Cx} {Z : List Addr}
theorem ro_add : OpR X (binaryOp .Add) (rM X.K Z addV) := by
  intro pins s σ H x y v u Q I rx ry h
  obtain ⟨mx, my, S, R, r1, r2, hS, hf, hQ⟩ := h
  unfold addV at hf
  split at hf
  · unfold RM at r1 r2
    exact op_add pins s σ H x y v u Q I rx ry ⟨_, _, r1, r2, mq_int hQ hS hf⟩
  · rename_i l k
    have r1' := r1; have r2' := r2
    unfold RM at r1 r2
    obtain ⟨a, xs, e1, s1, q1⟩ := r1
    obtain ⟨b, ys, e2, s2, q2⟩ := r2
    refine op_catA pins s σ H x y v u Q I rx ry ⟨a, b, xs, ys, e1, e2, s1, s2, by rw [q1.length, q2.length]; exact hf.1, fun e => ?_, fun _ e => ?_, fun _ _ p hp => ?_⟩
    · have : l = [] := by
        have := q1.length; rw [e] at this; exact List.eq_nil_of_length_eq_zero this.symm
      subst this
      subst e2
      exact mq hQ r2' hS hf.2
    · have : k = [] := by
        have := q2.length; rw [e] at this; exact List.eq_nil_of_length_eq_zero this.symm
      subst this
      subst e1
      have hf2 := hf.2
      rw [List.append_nil] at hf2
      exact mq hQ r1' hS hf2
    · exact mq_tup hQ hS (q1.append q2) hp hf.2
  · rename_i a b
    split at hf
    · rename_i l k ea eb
      obtain ⟨xs, h1, q1⟩ := hS.lst ea
      obtain ⟨ys, h2, q2⟩ := hS.lst eb
      unfold RM at r1 r2
      exact op_cat pins s σ H x y v u Q I rx ry ⟨a, b, xs, ys, r1, r2, h1, h2, by rw [q1.length, q2.length]; exact hf.1, fun p hp => mq_lst hQ hS (q1.append q2) hp hf.2⟩
    · exact hf.elim
  · exact hf.elim
theorem roI {f : Value → Value → Sem Value} {C : Int → Int → Prop} {g : Int → Int → Int} {h2 : M2} (ho : OpR X f (rI C fun i j => .int (g i j)))
    (hh : ∀ x y S R, h2 x y S R → ∃ i j, x = .int i ∧ y = .int j ∧ C i j ∧ R (.int (g i j)) S) : OpR X f (rM X.K Z h2) := by
  intro pins s σ H x y v u Q I rx ry h
  obtain ⟨mx, my, S, R, r1, r2, hS, hf, hQ⟩ := h
  obtain ⟨i, j, e1, e2, c, q⟩ := hh _ _ _ _ hf
  subst e1; subst e2
  unfold RM at r1 r2
  exact ho pins s σ H x y v u Q I rx ry ⟨i, j, r1, r2, c, mq_int hQ hS q⟩
theorem roB {f : Value → Value → Sem Value} {g : Int → Int → Bool} {h2 : M2} (ho : OpR X f (rI0 fun i j => .bl (g i j)))
    (hh : ∀ x y S R, h2 x y S R → ∃ i j, x = .int i ∧ y = .int j ∧ R (.bl (g i j)) S) : OpR X f (rM X.K Z h2) := by
  intro pins s σ H x y v u Q I rx ry h
  obtain ⟨mx, my, S, R, r1, r2, hS, hf, hQ⟩ := h
  obtain ⟨i, j, e1, e2, q⟩ := hh _ _ _ _ hf
  subst e1; subst e2
  unfold RM at r1 r2
  exact ho pins s σ H x y v u Q I rx ry ⟨i, j, r1, r2, mq_bl hQ hS q⟩
theorem ro_sub : OpR X (binaryOp .Sub) (rM X.K Z subV) := by
  intro pins s σ H x y v u Q I rx ry h
  obtain ⟨mx, my, S, R, r1, r2, hS, hf, hQ⟩ := h
  unfold subV at hf
  split at hf
  · unfold RM at r1 r2
    exact op_sub pins s σ H x y v u Q I rx ry ⟨_, _, r1, r2, mq_int hQ hS hf⟩
  · exact hf.elim
theorem ro_mul : OpR X (binaryOp .Mult) (rM X.K Z mulV) := roI op_mul fun x y S R h => by
  unfold mulV at h; split at h
  · exact ⟨_, _, rfl, rfl, h.1, h.2⟩
  · exact h.elim
theorem ro_mod : OpR X (binaryOp .Mod) (rM X.K Z modV) := roI op_mod fun x y S R h => by
  unfold modV at h; split at h
  · exact ⟨_, _, rfl, rfl, h.1, h.2⟩
  · exact h.elim
theorem ro_fdiv : OpR X (binaryOp .FloorDiv) (rM X.K Z fdivV) := roI op_fdiv fun x y S R h => by
  unfold fdivV at h; split at h
  · exact ⟨_, _, rfl, rfl, h.1, h.2⟩
  · exact h.elim
theorem ro_pow : OpR X (binaryOp .Pow) (rM X.K Z powV) := roI op_pow fun x y S R h => by
  unfold powV at h; split at h
  · exact ⟨_, _, rfl, rfl, h.1, h.2⟩
  · exact h.elim
theorem ro_lt : OpR X (compareOp .Lt) (rM X.K Z ltV) := roB op_lt fun x y S R h => by
  unfold ltV at h; split at h
  · exact ⟨_, _, rfl, rfl, h⟩
  · exact h.elim
theorem ro_le : OpR X (compareOp .LtE) (rM X.K Z leV) := roB op_le fun x y S R h => by
  unfold leV at h; split at h
  · exact ⟨_, _, rfl, rfl, h⟩
  · exact h.elim
theorem ro_gt : OpR X (compareOp .Gt) (rM X.K Z gtV) := roB op_gt fun x y S R h => by
  unfold gtV at h; split at h
  · exact ⟨_, _, rfl, rfl, h⟩
  · exact h.elim
theorem ro_ge : OpR X (compareOp .GtE) (rM X.K Z geV) := roB op_ge fun x y S R h => by
  unfold geV at h; split at h
  · exact ⟨_, _, rfl, rfl, h⟩
  · exact h.elim
theorem ro_eq (hu : X.A.units + 64 < cLine) : OpR X (compareOp .Eq) (rM X.K Z eqV') := by
  intro pins s σ H x y v u Q I rx ry h
  obtain ⟨mx, my, S, R, r1, r2, hS, hf, hQ⟩ := h
  unfold eqV' at hf
  split at hf
  · rename_i d e e1 e2
    obtain ⟨d1, s1⟩ := dat_dp hS e1 r1
    obtain ⟨d2, s2⟩ := dat_dp hS e2 r2
    exact op_eqD hu pins s σ H x y v u Q I rx ry ⟨d, e, d1, d2, s1, s2, mq_bl hQ hS hf⟩
  · exact hf.elim
theorem ro_ne (hu : X.A.units + 64 < cLine) : OpR X (compareOp .NotEq) (rM X.K Z neV') := by
  intro pins s σ H x y v u Q I rx ry h
  obtain ⟨mx, my, S, R, r1, r2, hS, hf, hQ⟩ := h
  unfold neV' at hf
  split at hf
  · rename_i d e e1 e2
    obtain ⟨d1, s1⟩ := dat_dp hS e1 r1
    obtain ⟨d2, s2⟩ := dat_dp hS e2 r2
    exact op_neD hu pins s σ H x y v u Q I rx ry ⟨d, e, d1, d2, s1, s2, mq_bl hQ hS hf⟩
  · exact hf.elim
theorem rm_non {K : PySem.W.Frag} {H : Hp} {m : MV} {v : V} (r : RM K H m v) : (v = .non) ↔ m = .non := by
  constructor
  · intro e; subst e
    cases m with
    | non => rfl
    | tup l => unfold RM at r; obtain ⟨a, xs, e, _⟩ := r; cases e
    | frz l => unfold RM at r; obtain ⟨a, xs, e, _⟩ := r; cases e
    | _ => unfold RM at r; cases r
  · intro e; subst e; unfold RM at r; exact r
theorem ro_is : OpR X (compareOp .Is) (rM X.K Z isV) := by
  intro pins s σ H x y v u Q I rx ry h
  obtain ⟨mx, my, S, R, r1, r2, hS, hf, hQ⟩ := h
  unfold isV at hf
  split at hf
  · unfold RM at r1 r2
    exact op_isBl pins s σ H x y v u Q I rx ry ⟨_, _, r1, r2, mq_bl hQ hS hf⟩
  · exact op_isN pins s σ H x y v u Q I rx ry ⟨(rm_non r2).2 rfl, by rw [decide_eq_true ((rm_non r1).2 rfl)]; exact mq_bl hQ hS hf⟩
  · rename_i hn
    refine op_isN pins s σ H x y v u Q I rx ry ⟨(rm_non r2).2 rfl, ?_⟩
    rw [decide_eq_false (fun e => hn ((rm_non r1).1 e))]; exact mq_bl hQ hS hf
  · exact hf.elim
theorem ro_isnot : OpR X (compareOp .IsNot) (rM X.K Z isnotV) := by
  intro pins s σ H x y v u Q I rx ry h
  obtain ⟨mx, my, S, R, r1, r2, hS, hf, hQ⟩ := h
  unfold isnotV at hf
  split at hf
  · unfold RM at r1 r2
    exact op_notBl pins s σ H x y v u Q I rx ry ⟨_, _, r1, r2, mq_bl hQ hS hf⟩
  · exact op_notN pins s σ H x y v u Q I rx ry ⟨(rm_non r2).2 rfl, by rw [decide_eq_true ((rm_non r1).2 rfl)]; exact mq_bl hQ hS hf⟩
  · rename_i hn
    refine op_notN pins s σ H x y v u Q I rx ry ⟨(rm_non r2).2 rfl, ?_⟩
    rw [decide_eq_false (fun e => hn ((rm_non r1).1 e))]; exact mq_bl hQ hS hf
  · exact hf.elim
theorem flat_V {K : PySem.W.Frag} {H : Hp} {m : MV} {v : V} (f : flatM m = true) (r : RM K H m v) : flatV v = true := by
  cases m with
  | tup l => cases f
  | ref a => cases f
  | frz a => cases f
  | _ => unfold RM at r; subst r; rfl
theorem flats_V {K : PySem.W.Frag} {H : Hp} : ∀ {l : List MV} {xs : List V}, l.all flatM = true → RMs K H l xs → xs.all flatV = true
  | [], _, _, r => by unfold RMs at r; subst r; rfl
  | m :: l, _, f, r => by
    unfold RMs at r
    obtain ⟨x, r', e, h1, h2⟩ := r
    subst e
    rw [List.all_cons, Bool.and_eq_true] at f ⊢
    exact ⟨flat_V f.1 h1, flats_V f.2 h2⟩
theorem so_beq (s t : String) : (so s == so t) = (s == t) := by
  by_cases h : s = t
  · subst h; simp
  · have : so s ≠ so t := fun e => h (so_inj e)
    rw [beq_eq_false_iff_ne.mpr this, beq_eq_false_iff_ne.mpr h]
theorem eqV_eqv {K : PySem.W.Frag} {H : Hp} {m n : MV} {v u : V} (f : flatM m = true) (g : flatM n = true) (r : RM K H m v) (q : RM K H n u) : eqV v u = PyData.eqv (pd m) (pd n) := by
  cases m with
  | tup l => cases f
  | ref a => cases f
  | frz a => cases f
  | _ => cases n with
    | tup l => cases g
    | ref a => cases g
    | frz a => cases g
    | _ => unfold RM at r q; subst r; subst q; simp [eqV, pd, PyData.eqv]
theorem inV_inB {K : PySem.W.Frag} {H : Hp} {x : MV} {v : V} (f : flatM x = true) (r : RM K H x v) : ∀ {l : List MV} {xs : List V}, l.all flatM = true → RMs K H l xs → inV v xs = inB x l
  | [], _, _, q => by unfold RMs at q; subst q; rfl
  | m :: l, _, g, q => by
    unfold RMs at q
    obtain ⟨y, r', e, h1, h2⟩ := q
    subst e
    rw [List.all_cons, Bool.and_eq_true] at g
    have ih := inV_inB f r g.2 h2
    unfold inV inB at ih ⊢
    rw [List.any_cons, List.any_cons, ih, eqV_eqv g.1 f h1 r]
theorem any_pds (x : MV) : ∀ l : List MV, ((pds l).any fun z => PyData.eqv z (pd x)) = inB x l
  | [] => rfl
  | m :: l => by
    have ih := any_pds x l
    unfold inB at ih ⊢
    simp only [pds, List.any_cons, ih]
theorem ro_in (hu : X.A.units + 65 < cLine) : OpR X (compareOp .In) (rM X.K Z inM) := by
  intro pins s σ H x y v u Q I rx ry h
  obtain ⟨mx, my, S, R, r1, r2, hS, hf, hQ⟩ := h
  unfold inM at hf
  split at hf
  · rename_i l
    obtain ⟨hf1, hf2⟩ := hf
    rw [Bool.and_eq_true] at hf1
    unfold RM at r2
    obtain ⟨b, ys, e2, s2, q2⟩ := r2
    refine op_in_seq pins s σ H x y v u Q I rx ry ⟨b, ys, e2, .inr s2, flat_V hf1.1 r1, flats_V hf1.2 q2, ?_⟩
    rw [if_neg Bool.false_ne_true, inV_inB hf1.1 r1 hf1.2 q2]
    exact mq_bl hQ hS hf2
  · rename_i a
    split at hf
    · rename_i l e
      obtain ⟨hf1, hf2⟩ := hf
      rw [Bool.and_eq_true] at hf1
      unfold RM at r2; subst r2
      obtain ⟨xs, h1, h2⟩ := look_sq hS e
      refine op_inD hu pins s σ H x _ v u Q I rx ry ⟨pd mx, pds l, dp_of _ 60 hf1.1 r1, .lst h1 (dps_of l 59 hf1.2 h2), fit_shaped hf1.1, fits_shaped hf1.2, ?_⟩
      rw [any_pds]
      exact mq_bl hQ hS hf2
    · exact hf.elim
  · exact hf.elim
theorem ro_notin (hu : X.A.units + 65 < cLine) : OpR X (compareOp .NotIn) (rM X.K Z notInM) := by
  intro pins s σ H x y v u Q I rx ry h
  obtain ⟨mx, my, S, R, r1, r2, hS, hf, hQ⟩ := h
  unfold notInM at hf
  split at hf
  · rename_i l
    obtain ⟨hf1, hf2⟩ := hf
    rw [Bool.and_eq_true] at hf1
    unfold RM at r2
    obtain ⟨b, ys, e2, s2, q2⟩ := r2
    refine op_notIn_seq pins s σ H x y v u Q I rx ry ⟨b, ys, e2, .inr s2, flat_V hf1.1 r1, flats_V hf1.2 q2, ?_⟩
    rw [if_pos rfl, inV_inB hf1.1 r1 hf1.2 q2]
    exact mq_bl hQ hS hf2
  · rename_i a
    split at hf
    · rename_i l e
      obtain ⟨hf1, hf2⟩ := hf
      rw [Bool.and_eq_true] at hf1
      unfold RM at r2; subst r2
      obtain ⟨xs, h1, h2⟩ := look_sq hS e
      refine op_notInD hu pins s σ H x _ v u Q I rx ry ⟨pd mx, pds l, dp_of _ 60 hf1.1 r1, .lst h1 (dps_of l 59 hf1.2 h2), fit_shaped hf1.1, fits_shaped hf1.2, ?_⟩
      rw [any_pds]
      exact mq_bl hQ hS hf2
    · exact hf.elim
  · exact hf.elim
end
/-! ### subscripts -/
def ixV : M2 := fun x y S R => match y with
  | .int i => (match x with
    | .tup l => (match atI l i with
      | some v => R v S
      | none => False)
    | .ref a => (match lookL S a with
      | some l => (match atI l i with
        | some v => R v S
        | none => False)
      | none => False)
    | _ => False)
  | _ => False
theorem at_rel {K : PySem.W.Frag} {H : Hp} {l : List MV} {xs : List V} {i : Int} {m : MV} (r : RMs K H l xs) (h : atI l i = some m) : ∃ x, atI xs i = some x ∧ RM K H m x := by
  unfold atI at h ⊢
  rw [r.length]
  cases e : ixN l.length i with
  | none => rw [e] at h; cases h
  | some j =>
    rw [e] at h
    obtain ⟨x, h1, h2⟩ := r.get (show l[j]? = some m from h)
    exact ⟨x, h1, h2⟩
section
variable {X : Cx} {Z : List Addr}
theorem ri_ix : IxR X (rM X.K Z ixV) := by
  intro value slice pins s σ H x y v u Q I rx ry h hs
  obtain ⟨mx, my, S, R, r1, r2, hS, hf, hQ⟩ := h
  unfold ixV at hf
  split at hf
  · rename_i i
    unfold RM at r2
    split at hf
    · rename_i l
      split at hf
      · rename_i m e
        unfold RM at r1
        obtain ⟨a, xs, e1, s1, q1⟩ := r1
        obtain ⟨z, h1, h2⟩ := at_rel q1 e
        exact ix_tup value slice pins s σ H x y v u Q I rx ry ⟨a, xs, i, z, e1, r2, s1, h1, mq hQ h2 hS hf⟩ hs
      · exact hf.elim
    · rename_i a
      split at hf
      · rename_i l el
        split at hf
        · rename_i m e
          unfold RM at r1
          obtain ⟨xs, g1, g2⟩ := look_sq hS el
          obtain ⟨z, h1, h2⟩ := at_rel g2 e
          exact ix_list value slice pins s σ H x y v u Q I rx ry ⟨a, xs, i, z, r1, r2, g1, h1, mq hQ h2 hS hf⟩ hs
        · exact hf.elim
      · exact hf.elim
    · exact hf.elim
  · exact hf.elim
end
end Mv

set_option Elab.async false
set_option linter.all false
set_option maxRecDepth 100000
set_option maxHeartbeats 4000000
namespace Mv
open PySem PySem.Spec PyProof.Rows L2
/-! ### truth -/
def truB (S : Sto) : MV → Option Bool
  | .non => some false
  | .bl b => some b
  | .int i => some (i != 0)
  | .str _ => none
  | .tup l => some (!l.isEmpty)
  | .ref a => (match S a with
    | some (.lst l) => some (!l.isEmpty)
    | some (.rl l) => some (!l.isEmpty)
    | some (.dct kvs) => some (!kvs.isEmpty)
    | _ => none)
  | .frz _ => none
theorem tru_of {K : PySem.W.Frag} {Z : List Addr} {S : Sto} {H : Hp} {m : MV} {v : V} {b : Bool} (hS : RS K Z S H) (r : RM K H m v) (h : truB S m = some b) : TruV K v H b := by
  cases m with
  | non => unfold RM at r; subst r; cases h; rfl
  | bl c => unfold RM at r; subst r; cases h; rfl
  | int i => unfold RM at r; subst r; cases h; rfl
  | str s => cases h
  | frz s => cases h
  | tup l =>
    unfold RM at r
    obtain ⟨a, xs, e, s, q⟩ := r
    subst e
    cases h
    exact .inr (.inl ⟨xs, s, by rw [q.isEmpty]⟩)
  | ref a =>
    unfold RM at r; subst r
    have h : (match S a with
      | some (.lst l) => some (!l.isEmpty)
      | some (.rl l) => some (!l.isEmpty)
      | some (.dct kvs) => some (!kvs.isEmpty)
      | _ => none) = some b := h
    cases e : S a with
    | none => rw [e] at h; cases h
    | some o =>
      have q := hS.ob a o e
      rw [e] at h
      cases o with
      | lst l =>
        obtain ⟨xs, h1, h2⟩ := q
        cases h
        exact .inl ⟨xs, .inl (.inl h1), by rw [h2.isEmpty]⟩
      | rl l =>
        obtain ⟨xs, h1, h2⟩ := q
        cases h
        exact .inl ⟨xs, .inl h1, by rw [h2.isEmpty]⟩
      | dct kvs =>
        obtain ⟨ks, h1, h2, h3⟩ := q
        cases h
        refine .inr (.inr ⟨ks, h1, ?_⟩)
        have : ks.length = kvs.length := by have := congrArg List.length h2; simpa using this
        cases ks <;> cases kvs <;> simp_all
      | _ => cases h
def mTru (m : ME) : MT := fun ρ S R => m ρ S fun v S' => match truB S' v with
  | some b => R b S'
  | none => False
def mAndV (ma mb : ME) : ME := fun ρ S R => ma ρ S fun x S1 => match truB S1 x with
  | some true => mb ρ S1 R
  | some false => R x S1
  | none => False
def mOrV (ma mb : ME) : ME := fun ρ S R => ma ρ S fun x S1 => match truB S1 x with
  | some true => R x S1
  | some false => mb ρ S1 R
  | none => False
def mNotV (ma : ME) : ME := fun ρ S R => ma ρ S fun x S1 => match truB S1 x with
  | some b => R (.bl (!b)) S1
  | none => False
def mAnd (t u : MT) : MT := fun ρ S R => t ρ S fun b S1 => match b with
  | true => u ρ S1 R
  | false => R false S1
def mOr (t u : MT) : MT := fun ρ S R => t ρ S fun b S1 => match b with
  | true => R true S1
  | false => u ρ S1 R
def mNot (t : MT) : MT := fun ρ S R => t ρ S fun b S1 => R (!b) S1
def mIf (t : MT) (a b : ME) : ME := fun ρ S R => t ρ S fun c S1 => match c with
  | true => a ρ S1 R
  | false => b ρ S1 R
def mUn (f : MV → Sto → MK → Prop) (ma : ME) : ME := fun ρ S R => ma ρ S fun x S1 => f x S1 R
def negV : MV → Sto → MK → Prop := fun x S R => match x with
  | .int i => R (.int (-i)) S
  | _ => False
def mChain (f g : M2) (ma mb mc : ME) : ME := fun ρ S R => ma ρ S fun x S1 => mb ρ S1 fun y S2 => f x y S2 (asB fun b S3 => match b with
  | true => mc ρ S3 fun z S4 => g y z S4 R
  | false => R (.bl false) S3)
section
variable {K : PySem.W.Frag} {Z : List Addr}
theorem MQ.base {S0 S : Sto} {H0 H : Hp} {R : MK} (t : GK K S0 H0 S H) {v : V} {H' : Hp} (h : MQ K Z S H R v H') : MQ K Z S0 H0 R v H' :=
  let ⟨m, S', t', r, s, q⟩ := h; ⟨m, S', t.trans t', r, s, q⟩
theorem MQb.base {S0 S : Sto} {H0 H : Hp} {R : Bool → Sto → Prop} (t : GK K S0 H0 S H) {v : Bool} {H' : Hp} (h : MQb K Z S H R v H') : MQb K Z S0 H0 R v H' :=
  let ⟨S', t', s, q⟩ := h; ⟨S', t.trans t', s, q⟩
theorem MQs.base {S0 S : Sto} {H0 H : Hp} {R : List MV → Sto → Prop} (t : GK K S0 H0 S H) {v : List V} {H' : Hp} (h : MQs K Z S H R v H') : MQs K Z S0 H0 R v H' :=
  let ⟨m, S', t', r, s, q⟩ := h; ⟨m, S', t.trans t', r, s, q⟩
theorem MQd.base {S0 S : Sto} {H0 H : Hp} {R : Env → Sto → Prop} (t : GK K S0 H0 S H) {v : L2.St} {H' : Hp} (h : MQd K Z S H R v H') : MQd K Z S0 H0 R v H' :=
  let ⟨m, S', t', r, s, q⟩ := h; ⟨m, S', t.trans t', r, s, q⟩
end
section
variable {X : Cx} {Z : List Addr} {e a b c : Expr} {m ma mb mc : ME} {mt mu : MT} {pos : Pos} {rest : List Expr}
theorem et_tru (h : EE X Z e m) (he : ∀ whole, isTrue e X.env whole = (do let v ← whole; standAt e.pos; holding [v] (truthy v)) := by intro _; kernel_rfl) : ET X Z e (mTru m) :=
  et_of (pt_truth h.pe he) fun σ H ρ S R hE hS hm => by
    refine ⟨ρ, S, _, hE, hS, hm, fun v H1 ⟨x, S1, t1, r1, s1, q1⟩ => ?_⟩
    dsimp only at q1
    split at q1
    · rename_i b e1
      exact ⟨b, tru_of s1 r1 e1, S1, t1, s1, q1⟩
    · exact q1.elim
theorem ee_one {op} (h : EE X Z a m) : EE X Z (.BoolOp op [a] pos) m := ⟨fun σ H ρ S R hE hS hm pins s I => (pe_one (h.pe)).run pins s σ H _ I ⟨ρ, S, R, hE, hS, hm, fun v H' q => q⟩⟩
theorem ee_and (ha : EE X Z a ma) (hb : EE X Z (.BoolOp .And (b :: rest) pos) mb) : EE X Z (.BoolOp .And (a :: b :: rest) pos) (mAndV ma mb) :=
  ee_of (pe_andT ha.pe hb.pe) fun σ H ρ S R hE hS hm => by
    refine ⟨ρ, S, _, hE, hS, hm, fun v H1 ⟨x, S1, t1, r1, s1, q1⟩ => ?_⟩
    dsimp only at q1
    split at q1
    · rename_i e1
      refine ⟨true, tru_of s1 r1 e1, ?_⟩
      rw [if_pos rfl]
      exact ⟨ρ, S1, R, hE.mono t1, s1, q1, fun v H' q => q.base t1⟩
    · rename_i e1
      refine ⟨false, tru_of s1 r1 e1, ?_⟩
      rw [if_neg Bool.false_ne_true]
      exact ⟨x, S1, t1, r1, s1, q1⟩
    · exact q1.elim
theorem ee_or (ha : EE X Z a ma) (hb : EE X Z (.BoolOp .Or (b :: rest) pos) mb) : EE X Z (.BoolOp .Or (a :: b :: rest) pos) (mOrV ma mb) :=
  ee_of (pe_orT ha.pe hb.pe) fun σ H ρ S R hE hS hm => by
    refine ⟨ρ, S, _, hE, hS, hm, fun v H1 ⟨x, S1, t1, r1, s1, q1⟩ => ?_⟩
    dsimp only at q1
    split at q1
    · rename_i e1
      refine ⟨true, tru_of s1 r1 e1, ?_⟩
      rw [if_pos rfl]
      exact ⟨x, S1, t1, r1, s1, q1⟩
    · rename_i e1
      refine ⟨false, tru_of s1 r1 e1, ?_⟩
      rw [if_neg Bool.false_ne_true]
      exact ⟨ρ, S1, R, hE.mono t1, s1, q1, fun v H' q => q.base t1⟩
    · exact q1.elim
theorem ee_not (ha : EE X Z a ma) : EE X Z (.UnaryOp .Not a pos) (mNotV ma) :=
  ee_of (pe_notT ha.pe) fun σ H ρ S R hE hS hm => by
    refine ⟨ρ, S, _, hE, hS, hm, fun v H1 ⟨x, S1, t1, r1, s1, q1⟩ => ?_⟩
    dsimp only at q1
    split at q1
    · rename_i b e1
      exact ⟨b, tru_of s1 r1 e1, .bl (!b), S1, t1, by unfold RM; rfl, s1, q1⟩
    · exact q1.elim
/-- a test of and, or -/
structure EW (X : Cx) (Z : List Addr) (e : Expr) (m : MT) : Prop where
  pw : PW X e (tMT X.K Z m)
theorem EW.et (h : EW X Z e mt) : ET X Z e mt := ⟨fun σ H ρ S R hE hS hm pins s I => h.pw.run _ pins s σ H _ I ⟨ρ, S, R, hE, hS, hm, fun v H' q => q⟩⟩
theorem PW.imp {t t' : TT} (h : PW X e t) (k : ∀ σ H Q, t' σ H Q → t σ H Q) : PW X e t' := ⟨fun wh pins s σ H Q I hw => h.run wh pins s σ H Q I (k σ H Q hw)⟩
theorem ew_and1 (ha : ET X Z a mt) : EW X Z (.BoolOp .And [a] pos) mt := ⟨pw_and1 ha.pt⟩
theorem ew_or1 (ha : ET X Z a mt) : EW X Z (.BoolOp .Or [a] pos) mt := ⟨pw_or1 ha.pt⟩
theorem ew_and (ha : ET X Z a mt) (hb : EW X Z (.BoolOp .And (b :: rest) pos) mu) : EW X Z (.BoolOp .And (a :: b :: rest) pos) (mAnd mt mu) :=
  ⟨PW.imp (pw_and ha.pt hb.pw) fun σ H Q ⟨ρ, S, R, hE, hS, hm, hQ⟩ => by
    refine ⟨ρ, S, _, hE, hS, hm, fun k H1 ⟨S1, t1, s1, q1⟩ => ?_⟩
    cases k with
    | true => rw [if_pos rfl]; exact ⟨ρ, S1, R, hE.mono t1, s1, q1, fun v H' q => hQ _ _ (q.base t1)⟩
    | false => rw [if_neg Bool.false_ne_true]; exact hQ _ _ ⟨S1, t1, s1, q1⟩⟩
theorem ew_or (ha : ET X Z a mt) (hb : EW X Z (.BoolOp .Or (b :: rest) pos) mu) : EW X Z (.BoolOp .Or (a :: b :: rest) pos) (mOr mt mu) :=
  ⟨PW.imp (pw_or ha.pt hb.pw) fun σ H Q ⟨ρ, S, R, hE, hS, hm, hQ⟩ => by
    refine ⟨ρ, S, _, hE, hS, hm, fun k H1 ⟨S1, t1, s1, q1⟩ => ?_⟩
    cases k with
    | true => rw [if_pos rfl]; exact hQ _ _ ⟨S1, t1, s1, q1⟩
    | false => rw [if_neg Bool.false_ne_true]; exact ⟨ρ, S1, R, hE.mono t1, s1, q1, fun v H' q => hQ _ _ (q.base t1)⟩⟩
theorem et_not (ha : ET X Z a mt) : ET X Z (.UnaryOp .Not a pos) (mNot mt) :=
  et_of (pt_not ha.pt) fun σ H ρ S R hE hS hm => ⟨ρ, S, _, hE, hS, hm, fun k H1 ⟨S1, t1, s1, q1⟩ => ⟨S1, t1, s1, q1⟩⟩
theorem ee_if (hc : ET X Z c mt) (ha : EE X Z a ma) (hb : EE X Z b mb) : EE X Z (.IfExp c a b pos) (mIf mt ma mb) :=
  ee_of (pe_ifExp hc.pt ha.pe hb.pe) fun σ H ρ S R hE hS hm => by
    refine ⟨ρ, S, _, hE, hS, hm, fun k H1 ⟨S1, t1, s1, q1⟩ => ?_⟩
    cases k with
    | true => rw [if_pos rfl]; exact ⟨ρ, S1, R, hE.mono t1, s1, q1, fun v H' q => q.base t1⟩
    | false => rw [if_neg Bool.false_ne_true]; exact ⟨ρ, S1, R, hE.mono t1, s1, q1, fun v H' q => q.base t1⟩
theorem ee_neg (ha : EE X Z a ma) : EE X Z (.UnaryOp .USub a pos) (mUn negV ma) :=
  ee_of (pe_un un_neg ha.pe) fun σ H ρ S R hE hS hm => by
    refine ⟨ρ, S, _, hE, hS, hm, fun v H1 ⟨x, S1, t1, r1, s1, q1⟩ => ?_⟩
    unfold negV at q1
    dsimp only at q1
    split at q1
    · unfold RM at r1; exact ⟨_, r1, .int _, S1, t1, by unfold RM; rfl, s1, q1⟩
    · exact q1.elim
theorem ee_chain {op op' : CmpOp} {f g : M2} (ho : OpR X (compareOp op) (rM X.K Z f)) (ho' : OpR X (compareOp op') (rM X.K Z g)) (ha : EE X Z a ma) (hb : EE X Z b mb) (hc : EE X Z c mc)
    (hm : lastMarks [op, op'] [b, c] = false := by kernel_rfl) : EE X Z (.Compare a [op, op'] [b, c] pos) (mChain f g ma mb mc) :=
  ee_of (pe_chain ho ho' ha.pe hb.pe hc.pe hm) fun σ H ρ S R hE hS hm => by
    refine ⟨ρ, S, _, hE, hS, hm, fun v H1 ⟨x, S1, t1, r1, s1, q1⟩ => ?_⟩
    refine ⟨ρ, S1, _, hE.mono t1, s1, q1, fun u H2 ⟨y, S2, t2, r2, s2, q2⟩ => ?_⟩
    refine ⟨x, y, S2, _, r1.mono t2, r2, s2, q2, fun z H3 q3 => ?_⟩
    obtain ⟨k, e, S3, t3, s3, q5⟩ := asB_out q3
    subst e
    refine ⟨k, rfl, ?_⟩
    cases k with
    | true =>
      rw [if_pos rfl]
      exact ⟨ρ, S3, _, hE.mono (t1.trans (t2.trans t3)), s3, q5, fun w' H4 ⟨z, S4, t4, r4, s4, q4⟩ => ⟨y, z, S4, R, r2.mono (t3.trans t4), r4, s4, q4, fun v H' q => q.base (t1.trans (t2.trans (t3.trans t4)))⟩⟩
    | false =>
      rw [if_neg Bool.false_ne_true]
      exact ⟨.bl false, S3, t1.trans (t2.trans t3), by unfold RM; rfl, s3, q5⟩
theorem et_chain {op op' : CmpOp} {f g : M2} (ho : OpR X (compareOp op) (rM X.K Z f)) (ho' : OpR X (compareOp op') (rM X.K Z g)) (ha : EE X Z a ma) (hb : EE X Z b mb) (hc : EE X Z c mc)
    (hm : lastMarks [op, op'] [b, c] = false := by kernel_rfl) : ET X Z (.Compare a [op, op'] [b, c] pos) (mTst (mChain f g ma mb mc)) :=
  et_of (pt_chain ho ho' ha.pe hb.pe hc.pe hm) fun σ H ρ S R hE hS hm => by
    refine ⟨ρ, S, _, hE, hS, hm, fun v H1 ⟨x, S1, t1, r1, s1, q1⟩ => ?_⟩
    refine ⟨ρ, S1, _, hE.mono t1, s1, q1, fun u H2 ⟨y, S2, t2, r2, s2, q2⟩ => ?_⟩
    refine ⟨x, y, S2, _, r1.mono t2, r2, s2, q2, fun z H3 q3 => ?_⟩
    obtain ⟨k, e, S3, t3, s3, q5⟩ := asB_out q3
    subst e
    refine ⟨k, rfl, ?_⟩
    cases k with
    | true =>
      rw [if_pos rfl]
      exact ⟨ρ, S3, _, hE.mono (t1.trans (t2.trans t3)), s3, q5, fun w' H4 ⟨z, S4, t4, r4, s4, q4⟩ => ⟨y, z, S4, _, r2.mono (t3.trans t4), r4, s4, q4, fun v H' q => asB_out (q.base (t1.trans (t2.trans (t3.trans t4))))⟩⟩
    | false =>
      rw [if_neg Bool.false_ne_true]
      exact ⟨false, rfl, S3, t1.trans (t2.trans t3), s3, q5⟩
/-! ### arguments, displays -/
def maNil : MA := fun _ S R => R [] S
def maCons (m : ME) (r : MA) : MA := fun ρ S R => m ρ S fun x S1 => r ρ S1 fun xs S2 => R (x :: xs) S2
variable {es : List Expr} {mas : MA}
theorem ea_nil : EA X Z [] maNil := ⟨PA.imp pa_nil fun σ H Q ⟨ρ, S, R, hE, hS, hm, hQ⟩ => hQ _ _ ⟨[], S, GK.refl, RMs.nil, hS, hm⟩⟩
theorem ea_cons (ha : EE X Z e m) (hr : EA X Z es mas) (hs : starEach (e :: es) X.env = (false, eval e X.env) :: starEach es X.env := by kernel_rfl) : EA X Z (e :: es) (maCons m mas) :=
  ⟨PA.imp (pa_cons ha.pe hr.pa hs) fun σ H Q ⟨ρ, S, R, hE, hS, hm, hQ⟩ => by
    refine ⟨ρ, S, _, hE, hS, hm, fun v H1 ⟨x, S1, t1, r1, s1, q1⟩ => ?_⟩
    refine ⟨ρ, S1, _, hE.mono t1, s1, q1, fun vs H2 ⟨xs, S2, t2, r2, s2, q2⟩ => ?_⟩
    exact hQ _ _ ⟨x :: xs, S2, t1.trans t2, RMs.cons (r1.mono t2) r2, s2, q2⟩⟩
def mTup (ms : MA) : ME := fun ρ S R => ms ρ S fun l S1 => l.length ≤ sizeLine ∧ R (.tup l) S1
def mLst (ms : MA) : ME := fun ρ S R => ms ρ S fun l S1 => l.length ≤ sizeLine ∧ newL l S1 R
theorem ee_tup {x1} (h : EA X Z es mas) : EE X Z (.Tuple es x1 pos) (mTup mas) :=
  ee_of (pe_tup h.pa) fun σ H ρ S R hE hS hm => by
    refine ⟨ρ, S, _, hE, hS, hm, fun vs H1 ⟨l, S1, t1, r1, s1, q1⟩ => ⟨by rw [r1.length]; exact q1.1, fun p hp => ?_⟩⟩
    exact mq_tup (fun v H' q => q.base t1) s1 r1 hp q1.2
theorem ee_lst (h : EA X Z es mas) : EE X Z (.List es pos) (mLst mas) :=
  ee_of (pe_lst h.pa) fun σ H ρ S R hE hS hm => by
    refine ⟨ρ, S, _, hE, hS, hm, fun vs H1 ⟨l, S1, t1, r1, s1, q1⟩ => ⟨by rw [r1.length]; exact q1.1, fun p hp => ?_⟩⟩
    exact mq_lst (fun v H' q => q.base t1) s1 r1 hp q1.2
/-! ### attributes -/
def mFld (T : String → String → Bool) (ma : ME) (f : String) : ME := fun ρ S R => ma ρ S fun x S1 => match x with
  | .ref a => (match S1 a with
    | some (.ins c fs) => T c f = true ∧ (match fs.lookup f with
      | some v => R v S1
      | none => False)
    | _ => False)
  | _ => False
/-- the classes' attributes -/
def AtOk (K : PySem.W.Frag) (T : String → String → Bool) : Prop := ∀ c f, T c f = true → Cls K (He.ga K (so c)) ∧ NoAttr K (He.ga K (so c)) (so f)
theorem lookup_rel {K : PySem.W.Frag} {H : Hp} {f : String} {m : MV} : ∀ {fs : List (String × MV)} {xs : List (Str × V)}, xs.map (·.1) = fs.map (fun p => so p.1) → RMs K H (fs.map (·.2)) (xs.map (·.2)) → fs.lookup f = some m → ∃ x, xs.lookup (so f) = some x ∧ RM K H m x
  | [], _, _, _, h => by cases h
  | (g, n) :: fs, [], e, _, _ => by simp at e
  | (g, n) :: fs, (y, x) :: xs, e, r, h => by
    simp only [List.map_cons, List.cons.injEq] at e
    simp only [List.map_cons] at r
    unfold RMs at r
    obtain ⟨x', r', ex, h1, h2⟩ := r
    injection ex with ex1 ex2
    subst ex1; subst ex2
    rw [List.lookup_cons] at h ⊢
    rw [e.1, so_beq]
    cases hb : f == g with
    | true => rw [hb] at h; cases h; exact ⟨x, rfl, h1⟩
    | false => rw [hb] at h; exact lookup_rel e.2 h2 h
theorem lookup_none {f : String} : ∀ {fs : List (String × MV)} {xs : List (Str × V)}, xs.map (·.1) = fs.map (fun p => so p.1) → fs.lookup f = none → xs.lookup (so f) = none
  | [], xs, e, _ => by cases xs with
    | nil => rfl
    | cons a b => simp at e
  | (g, n) :: fs, [], e, _ => by simp at e
  | (g, n) :: fs, (y, x) :: xs, e, h => by
    simp only [List.map_cons, List.cons.injEq] at e
    rw [List.lookup_cons] at h ⊢
    rw [e.1, so_beq]
    cases hb : f == g with
    | true => rw [hb] at h; cases h
    | false => rw [hb] at h; exact lookup_none e.2 h
theorem RS.ins {K : PySem.W.Frag} {S : Sto} {H : Hp} {a : Addr} {c : String} {fs : List (String × MV)} (r : RS K Z S H) (e : S a = some (.ins c fs)) :
    ∃ (dx : Addr) (xs : List (Str × V)), H a = some (.ins (He.ga K (so c)) dx xs) ∧ xs.map (·.1) = fs.map (fun p => so p.1) ∧ RMs K H (fs.map (·.2)) (xs.map (·.2)) := r.ob a _ e
theorem ee_fld {f : String} {T : String → String → Bool} (hT : AtOk X.K T) (he : EE X Z e m) (hb : attributeBase e (Str.ofString f) X.env (eval e X.env) = eval e X.env := by kernel_rfl) : EE X Z (.Attribute e (Str.ofString f) pos) (mFld T m f) :=
  ee_of (pe_fld he.pe hb) fun σ H ρ S R hE hS hm => by
    refine ⟨ρ, S, _, hE, hS, hm, fun v H1 ⟨x, S1, t1, r1, s1, q1⟩ => ?_⟩
    dsimp only at q1
    split at q1
    · rename_i a
      split at q1
      · rename_i c fs e1
        obtain ⟨hc, q1⟩ := q1
        split at q1
        · rename_i m' e2
          obtain ⟨dx, xs, h1, h2, h3⟩ := s1.ins e1
          obtain ⟨y, e3, r3⟩ := lookup_rel h2 h3 e2
          unfold RM at r1
          exact ⟨a, _, dx, xs, y, r1, h1, (hT _ _ hc).1, (hT _ _ hc).2, e3, m', S1, t1, r3, s1, q1⟩
        · exact q1.elim
      · exact q1.elim
    · exact q1.elim
end
end Mv

set_option Elab.async false
set_option linter.all false
set_option maxRecDepth 100000
set_option maxHeartbeats 4000000
namespace Mv
open PySem PySem.Spec PyProof.Rows L2
/-! ### dicts with text keys -/
def putD (kvs : List (String × MV)) (k : String) (v : MV) : List (String × MV) :=
  if (kvs.any fun kv => kv.1 == k) = true then kvs.map (fun kv => if kv.1 = k then (kv.1, v) else kv) else kvs ++ [(k, v)]
def mergeD (kvs more : List (String × MV)) : List (String × MV) := more.foldl (fun acc kv => putD acc kv.1 kv.2) kvs
/-- two lists of pairs -/
structure RK (K : PySem.W.Frag) (H : Hp) (kvs : List (String × MV)) (ks : List (Key × V)) : Prop where
  keys : ks.map (·.1) = kvs.map (fun p => (Sum.inr (so p.1) : Key))
  vals : RMs K H (kvs.map (·.2)) (ks.map (·.2))
theorem inr_eq (s t : String) : ((Sum.inr (so s) : Key) = Sum.inr (so t)) ↔ s = t := ⟨fun h => so_inj (Sum.inr.inj h), fun h => by rw [h]⟩
theorem RK.nil {K : PySem.W.Frag} {H : Hp} : RK K H [] [] := ⟨rfl, RMs.nil⟩
theorem RK.cons_iff {K : PySem.W.Frag} {H : Hp} {k : String} {m : MV} {kvs : List (String × MV)} {q : Key} {x : V} {ks : List (Key × V)} : RK K H ((k, m) :: kvs) ((q, x) :: ks) ↔ q = Sum.inr (so k) ∧ RM K H m x ∧ RK K H kvs ks := by
  constructor
  · rintro ⟨h1, h2⟩
    simp only [List.map_cons, List.cons.injEq] at h1
    simp only [List.map_cons] at h2
    unfold RMs at h2
    obtain ⟨x', r, e, a, b⟩ := h2
    injection e with e1 e2
    subst e1; subst e2
    exact ⟨h1.1, a, h1.2, b⟩
  · rintro ⟨e, a, b⟩
    refine ⟨?_, ?_⟩
    · simp only [List.map_cons, e, b.keys]
    · simp only [List.map_cons]
      exact RMs.cons a b.vals
theorem RK.length {K : PySem.W.Frag} {H : Hp} {kvs : List (String × MV)} {ks : List (Key × V)} (r : RK K H kvs ks) : ks.length = kvs.length := by
  have := congrArg List.length r.keys; simpa using this
theorem RK.get {K : PySem.W.Frag} {H : Hp} {s : String} {m : MV} : ∀ {kvs : List (String × MV)} {ks : List (Key × V)}, RK K H kvs ks → kvs.lookup s = some m → ∃ x, valV ks (Sum.inr (so s) : Key) = some x ∧ RM K H m x
  | [], _, _, h => by cases h
  | (k, n) :: kvs, [], r, _ => by have := r.length; simp at this
  | (k, n) :: kvs, (q, x) :: ks, r, h => by
    obtain ⟨e, a, b⟩ := RK.cons_iff.mp r
    subst e
    rw [List.lookup_cons] at h
    by_cases hk : s = k
    · subst hk
      simp at h; subst h
      exact ⟨x, valV_pos rfl, a⟩
    · have hb : (s == k) = false := beq_eq_false_iff_ne.mpr hk
      rw [hb] at h
      obtain ⟨y, e1, e2⟩ := RK.get b h
      exact ⟨y, by rw [valV_neg (fun e => hk ((inr_eq _ _).mp e).symm)]; exact e1, e2⟩
theorem RK.any {K : PySem.W.Frag} {H : Hp} {s : String} : ∀ {kvs : List (String × MV)} {ks : List (Key × V)}, RK K H kvs ks → (ks.any fun kv => decide (kv.1 = (Sum.inr (so s) : Key))) = kvs.any fun kv => kv.1 == s
  | [], [], _ => rfl
  | [], _ :: _, r => by have := r.length; simp at this
  | _ :: _, [], r => by have := r.length; simp at this
  | (k, n) :: kvs, (q, x) :: ks, r => by
    obtain ⟨e, a, b⟩ := RK.cons_iff.mp r
    subst e
    rw [List.any_cons, List.any_cons, RK.any b]
    congr 1
    by_cases hk : k = s
    · subst hk; simp
    · rw [decide_eq_false (fun e => hk ((inr_eq _ _).mp e)), beq_eq_false_iff_ne.mpr hk]
theorem RK.repl {K : PySem.W.Frag} {H : Hp} {s : String} {m : MV} {v : V} (rv : RM K H m v) : ∀ {kvs : List (String × MV)} {ks : List (Key × V)}, RK K H kvs ks →
    RK K H (kvs.map (fun kv => if kv.1 = s then (kv.1, m) else kv)) (ks.map (fun kv => if kv.1 = (Sum.inr (so s) : Key) then (kv.1, v) else kv))
  | [], [], _ => .nil
  | [], _ :: _, r => by have := r.length; simp at this
  | _ :: _, [], r => by have := r.length; simp at this
  | (k, n) :: kvs, (q, x) :: ks, r => by
    obtain ⟨e, a, b⟩ := RK.cons_iff.mp r
    subst e
    have ih := RK.repl (s := s) rv b
    simp only [List.map_cons]
    by_cases hk : k = s
    · subst hk
      simp only [if_true]
      exact RK.cons_iff.mpr ⟨rfl, rv, ih⟩
    · rw [if_neg hk, if_neg (fun e => hk ((inr_eq _ _).mp e))]
      exact RK.cons_iff.mpr ⟨rfl, a, ih⟩
theorem RK.snoc {K : PySem.W.Frag} {H : Hp} {s : String} {m : MV} {v : V} (rv : RM K H m v) {kvs : List (String × MV)} {ks : List (Key × V)} (r : RK K H kvs ks) : RK K H (kvs ++ [(s, m)]) (ks ++ [((Sum.inr (so s) : Key), v)]) :=
  ⟨by simp [r.keys], by simpa using r.vals.append (RMs.cons rv RMs.nil)⟩
theorem RK.put {K : PySem.W.Frag} {H : Hp} {s : String} {m : MV} {v : V} (rv : RM K H m v) {kvs : List (String × MV)} {ks : List (Key × V)} (r : RK K H kvs ks) : RK K H (putD kvs s m) (putK ks (Sum.inr (so s) : Key) v) := by
  unfold putD putK
  rw [r.any]
  split
  · exact r.repl rv
  · exact r.snoc rv
theorem RK.merge {K : PySem.W.Frag} {H : Hp} : ∀ {more : List (String × MV)} {ms : List (Key × V)} {kvs : List (String × MV)} {ks : List (Key × V)}, RK K H more ms → RK K H kvs ks → RK K H (mergeD kvs more) (mergeK ks ms)
  | [], [], _, _, _, r => r
  | [], _ :: _, _, _, r, _ => by have := r.length; simp at this
  | _ :: _, [], _, _, r, _ => by have := r.length; simp at this
  | (k, n) :: more, (q, x) :: ms, kvs, ks, r, r2 => by
    obtain ⟨e, a, b⟩ := RK.cons_iff.mp r
    subst e
    show RK K H (mergeD (putD kvs k n) more) (mergeK (putK ks (Sum.inr (so k)) x) ms)
    exact RK.merge b (r2.put a)
theorem RS.dct {K : PySem.W.Frag} {Z : List Addr} {S : Sto} {H : Hp} {a : Addr} {kvs : List (String × MV)} (r : RS K Z S H) (e : S a = some (.dct kvs)) : ∃ ks, H a = some (.dK ks) ∧ RK K H kvs ks := by
  obtain ⟨ks, h1, h2, h3⟩ := r.ob a _ e
  exact ⟨ks, h1, h2, h3⟩
theorem RK.mono {K : PySem.W.Frag} {S S' : Sto} {H H' : Hp} {kvs : List (String × MV)} {ks : List (Key × V)} (r : RK K H kvs ks) (g : GK K S H S' H') : RK K H' kvs ks := ⟨r.keys, r.vals.mono g⟩
def dgetV : M2 := fun x y S R => match y with
  | .str s => (match x with
    | .ref a => (match S a with
      | some (.dct kvs) => (match kvs.lookup s with
        | some v => R v S
        | none => False)
      | _ => False)
    | _ => False)
  | _ => False
section
variable {X : Cx} {Z : List Addr} {e a b c o i value : Expr} {m ma mb mc : ME} {mt mu : MT} {pos pos' : Pos} {rest : List Expr}
theorem ee_dget (hu : X.A.units + 1 < cLine) (ho : EE X Z o ma) (hi : EE X Z i mb) (hs : NoSl i) : EE X Z (.Subscript o i pos) (mOp dgetV ma mb) :=
  ee_of (pe_dget hu ho.pe hi.pe hs) fun σ H ρ S R hE hS hm => by
    refine ⟨ρ, S, _, hE, hS, hm, fun v H1 ⟨x, S1, t1, r1, s1, q1⟩ => ?_⟩
    refine ⟨ρ, S1, _, hE.mono t1, s1, q1, fun u H2 ⟨y, S2, t2, r2, s2, q2⟩ => ?_⟩
    cases y with
    | str s =>
      cases x with
      | ref d =>
        have q2 : (match S2 d with
          | some (.dct kvs) => (match kvs.lookup s with
            | some v => R v S2
            | none => False)
          | _ => False) := q2
        split at q2
        · rename_i kvs e1
          split at q2
          · rename_i w e2
            obtain ⟨ks, h1, h2⟩ := s2.dct e1
            obtain ⟨z, e3, r3⟩ := h2.get e2
            have r1' := r1.mono t2
            unfold RM at r1' r2
            refine ⟨d, z, r1', ?_, w, S2, t1.trans t2, r3, s2, q2⟩
            rw [r2, ← e3]
            exact DGet.k (k := Sum.inr (so s)) h1
          · exact q2.elim
        · exact q2.elim
      | _ => exact False.elim q2
    | _ => exact False.elim q2
def newD (kvs : List (String × MV)) (S : Sto) (R : MK) : Prop := ∀ p, S p = none → R (.ref p) (supd S p (.dct kvs))
theorem mq_dct {K : PySem.W.Frag} {S : Sto} {H : Hp} {R : MK} {Q : VK} (hQ : ∀ v H', MQ K Z S H R v H' → Q v H') {kvs : List (String × MV)} {ks : List (Key × V)} {p : Addr} (s : RS K Z S H) (r : RK K H kvs ks) (hp : H p = none) (h : newD kvs S R) : Q (.ref p) (upd H p (.dK ks)) := by
  have g : GK K S H (supd S p (.dct kvs)) (upd H p (.dK ks)) := GK.new hp
  exact hQ _ _ ⟨.ref p, _, g, by unfold RM; rfl, s.put (TK.new hp) (fun ps e => by rw [hp] at e; cases e) ⟨ks, upd_same, r.keys, (r.mono g).vals⟩, h p (s.free hp)⟩
def mDictN : ME := fun _ S R => newD [] S R
theorem ee_dictN : EE X Z (.Dict [] [] pos) mDictN := ee_of pe_dnewK fun σ H ρ S R hE hS hm => fun p hp => mq_dct (fun v H' q => q) hS RK.nil hp hm
/-- the pairs of a display, their keys written texts -/
structure ED (X : Cx) (Z : List Addr) (pos : Pos) (keys : List (Option Expr)) (values : List Expr) (ks : List String) (m : MA) : Prop where
  ex : ∃ trs, PPs X pos keys values trs ∧ ∀ σ H ρ S R Q, RE X.K H ρ σ → RS X.K Z S H → m ρ S R →
    (∀ ps H', (∃ (kvs : List (Key × V)) (ms : List MV) (S' : Sto), GK X.K S H S' H' ∧ ps = kvs.map (fun kv => (kV kv.1, kv.2)) ∧ ms.length = ks.length ∧ RK X.K H' (ks.zip ms) kvs ∧ RS X.K Z S' H' ∧ R ms S') → Q ps H') → tPairs trs σ H Q
theorem ed_nil : ED X Z pos [] [] [] maNil := ⟨[], pps_nil, fun σ H ρ S R Q hE hS hm hQ => hQ _ _ ⟨[], [], S, GK.refl, rfl, rfl, RK.nil, hS, hm⟩⟩
theorem ed_cons {s : String} {j p1} {v : Expr} {keys : List (Option Expr)} {values : List Expr} {ks : List String} {mr : MA} (hv : EE X Z v m) (h : ED X Z pos keys values ks mr) : ED X Z pos (some (.Constant (.str (Str.ofString s)) j p1) :: keys) (v :: values) (s :: ks) (maCons m mr) := by
  obtain ⟨trs, h1, h2⟩ := h.ex
  refine ⟨_, pps_cons pe_str hv.pe h1, fun σ H ρ S R Q hE hS hm hQ => ?_⟩
  show tM X.K Z m σ H _
  refine ⟨ρ, S, _, hE, hS, hm, fun u H1 ⟨x, S1, t1, r1, s1, q1⟩ => ?_⟩
  refine h2 σ H1 ρ S1 _ _ (hE.mono t1) s1 q1 fun ps H2 ⟨kvs, ms, S2, t2, e, hl, r2, s2, q2⟩ => ?_
  refine hQ _ _ ⟨((Sum.inr (so s) : Key), u) :: kvs, x :: ms, S2, t1.trans t2, by rw [e]; rfl, by rw [List.length_cons, List.length_cons, hl], ?_, s2, q2⟩
  rw [List.zip_cons_cons]
  exact RK.cons_iff.mpr ⟨rfl, r1.mono t2, r2⟩
/-- something hidden is laid first, shown at the end -/
theorem GK.late {K : PySem.W.Frag} {S S' : Sto} {H H' : Hp} {p : Addr} {o o' : HO} {m : MO} (hp : H p = none) (t : GK K S (upd H p o) S' H') (tk : TK K H' (upd H' p o')) : GK K S H (supd S' p m) (upd H' p o') :=
  ⟨(TK.new hp).trans (t.tk.trans tk), fun a u n e nt => by
    have hne : a ≠ p := ne_of_none e hp
    obtain ⟨e1, n1⟩ := t.fr a u n (by rw [upd_ne hne]; exact e) nt
    exact ⟨by rw [upd_ne hne]; exact e1, by rw [supd_ne hne]; exact n1⟩⟩
def mDisp (ks : List String) (ms : MA) : ME := fun ρ S R => ms ρ S fun vs S1 => newD (mergeD [] (ks.zip vs)) S1 R
theorem ee_disp {keys : List (Option Expr)} {values : List Expr} {ks : List String} {mas : MA} (h : ED X Z pos keys values ks mas) (hk : ks.length ≤ 15 := by decide) (hall : keys.all (·.isSome) = true := by kernel_rfl) (hl : keys.length = values.length := by kernel_rfl) (h0 : keys ≠ [] := by intro z; cases z)
    (hk2 : keys.length ≤ 15 := by decide) : EE X Z (.Dict keys values pos) (mDisp ks mas) := by
  obtain ⟨trs, h1, h2⟩ := h.ex
  refine ee_of (pe_disp h1 hall hl h0 hk2) fun σ H ρ S R hE hS hm => fun p hp => ?_
  have g0 : GK X.K S H S (upd H p (.dK [])) := GK.hid hp
  refine h2 σ _ ρ S _ _ (hE.mono g0) (hS.hid hp) hm fun ps H' ⟨kvs, ms, S', t, e, hlen, r, s, q⟩ => ?_
  obtain ⟨k1, k2⟩ := t.fr p (.dK []) (hS.free hp) upd_same (fun ps e => by cases e)
  refine ⟨k1, kvs, e, ?_, ?_⟩
  · rw [r.length, List.length_zip, hlen, Nat.min_self]; exact hk
  · have r2 : RK X.K H' (mergeD [] (ks.zip ms)) (mergeK [] kvs) := RK.merge r RK.nil
    have g1 : GK X.K S H (supd S' p (.dct (mergeD [] (ks.zip ms)))) (upd H' p (.dK (mergeK [] kvs))) := GK.late hp t (TK.dK k1)
    exact ⟨.ref p, _, g1, by unfold RM; rfl, s.put (TK.dK k1) (fun ps e => by rw [k1] at e; cases e) ⟨_, upd_same, r2.keys, RMs.monoT (TK.dK k1) _ r2.vals⟩, q p k2⟩
/-! ### slices -/
def mPart := Env → Sto → (Option Int → Sto → Prop) → Prop
def pNo : mPart := fun _ S R => R none S
def pYes (m : ME) : mPart := fun ρ S R => m ρ S fun x S1 => match x with
  | .int i => R (some i) S1
  | _ => False
structure EO (X : Cx) (Z : List Addr) (e : Option Expr) (m : mPart) : Prop where
  po : ∃ t : TO, PO X e t ∧ ∀ σ H ρ S R Q, RE X.K H ρ σ → RS X.K Z S H → m ρ S R → (∀ o H', (∃ S', GK X.K S H S' H' ∧ RS X.K Z S' H' ∧ R o S') → Q o H') → t σ H Q
theorem eo_no : EO X Z none pNo := ⟨_, po_none, fun σ H ρ S R Q hE hS hm hQ => hQ _ _ ⟨S, GK.refl, hS, hm⟩⟩
theorem eo_yes (h : EE X Z e m) : EO X Z (some e) (pYes m) := ⟨_, po_some h.pe, fun σ H ρ S R Q hE hS hm hQ => by
  refine ⟨ρ, S, _, hE, hS, hm, fun v H1 ⟨x, S1, t1, r1, s1, q1⟩ => ?_⟩
  cases x with
  | int i => unfold RM at r1; exact ⟨i, r1, hQ _ _ ⟨S1, t1, s1, q1⟩⟩
  | _ => exact False.elim q1⟩
def cutM (l : List MV) (lo hi : Option Int) : List MV := (l.drop (HT.sIx l.length 0 lo)).take (HT.sIx l.length l.length hi - HT.sIx l.length 0 lo)
theorem cut_rel {K : PySem.W.Frag} {H : Hp} {l : List MV} {xs : List V} (r : RMs K H l xs) (lo hi : Option Int) : RMs K H (cutM l lo hi) (cutV xs lo hi) := by
  unfold cutM cutV
  rw [r.length]
  exact (r.drop _).take _
def slV (x : MV) (lo hi : Option Int) (S : Sto) (R : MK) : Prop := match x with
  | .tup l => R (.tup (cutM l lo hi)) S
  | .ref a => (match lookL S a with
    | some l => newL (cutM l lo hi) S R
    | none => False)
  | _ => False
def mSl (ma : ME) (lo hi : mPart) : ME := fun ρ S R => ma ρ S fun x S1 => lo ρ S1 fun l S2 => hi ρ S2 fun u S3 => slV x l u S3 R
theorem ee_slice {lo hi : Option Expr} {ml mh : mPart} {p2 : Pos} (he : EE X Z e m) (hl : EO X Z lo ml) (hh : EO X Z hi mh) : EE X Z (.Subscript e (.Slice lo hi none p2) pos) (mSl m ml mh) := by
  obtain ⟨tl, l1, l2⟩ := hl.po
  obtain ⟨th, h1, h2⟩ := hh.po
  refine ee_of (pe_slice (sl_tupA.or sl_list) he.pe l1 h1) fun σ H ρ S R hE hS hm => ?_
  refine ⟨ρ, S, _, hE, hS, hm, fun v H1 ⟨x, S1, t1, r1, s1, q1⟩ => ?_⟩
  refine l2 σ H1 ρ S1 _ _ (hE.mono t1) s1 q1 fun o H2 ⟨S2, t2, s2, q2⟩ => ?_
  refine h2 σ H2 ρ S2 _ _ (hE.mono (t1.trans t2)) s2 q2 fun o2 H3 ⟨S3, t3, s3, q3⟩ => ?_
  have r3 := r1.mono (t2.trans t3)
  have hQ : ∀ v H', MQ X.K Z S3 H3 R v H' → MQ X.K Z S H R v H' := fun v H' q => q.base (t1.trans (t2.trans t3))
  cases x with
  | tup l =>
    have r3' := r3
    unfold RM at r3
    obtain ⟨a, xs, e1, sq, rs⟩ := r3
    refine .inl ⟨a, xs, e1, sq, fun hw => ?_, fun hw p hp => ?_⟩
    · have ec : cutM l o o2 = l := by
        unfold cutM
        rw [← rs.length, hw.1, hw.2]
        rw [rs.length, List.drop_zero, Nat.sub_zero, List.take_length]
      have q3 : R (.tup (cutM l o o2)) S3 := q3
      rw [ec] at q3
      rw [← e1]
      exact mq hQ r3' s3 q3
    · exact mq_tup hQ s3 (cut_rel rs o o2) hp q3
  | ref a =>
    unfold RM at r3
    have q3 : (match lookL S3 a with
      | some l => newL (cutM l o o2) S3 R
      | none => False) := q3
    split at q3
    · rename_i l el
      obtain ⟨xs, g1, g2⟩ := look_sq s3 el
      exact .inr ⟨a, xs, r3, g1, fun p hp => mq_lst hQ s3 (cut_rel g2 o o2) hp q3⟩
    · exact q3.elim
  | _ => exact False.elim q3
def mRev (ma : ME) : ME := fun ρ S R => ma ρ S fun x S1 => match x with
  | .ref a => (match lookL S1 a with
    | some l => newL l.reverse S1 R
    | none => False)
  | _ => False
theorem ee_rev {k : Nat} {p1 p2 p3 : Pos} (he : EE X Z e m) : EE X Z (.Subscript e (.Slice none none (some (.UnaryOp .USub (.Constant (.int 1) k p1) p2)) p3) pos) (mRev m) :=
  ee_of (pe_revL he.pe) fun σ H ρ S R hE hS hm => by
    refine ⟨ρ, S, _, hE, hS, hm, fun v H1 ⟨x, S1, t1, r1, s1, q1⟩ => ?_⟩
    cases x with
    | ref a =>
      unfold RM at r1
      dsimp only at q1
      split at q1
      · rename_i l el
        obtain ⟨xs, g1, g2⟩ := look_sq s1 el
        exact ⟨a, xs, r1, g1, fun p hp => mq_lst (fun v H' q => q.base t1) s1 g2.reverse hp q1⟩
      · exact q1.elim
    | _ => exact False.elim q1
/-! ### calls of defs -/
abbrev MW := List MV → Sto → MK → Prop
/-- the promise that is the def's own reading -/
def spM (K : PySem.W.Frag) (Z : List Addr) (n : Nat) (W : MW) : Sp := fun vs H Q _ => vs.length = n ∧ ∃ ms S R, RMs K H ms vs ∧ RS K Z S H ∧ W ms S R ∧ ∀ v H', MQ K Z S H R v H' → Q v H'
/-- a def that keeps its reading W -/
structure Cal (P : Program) (w : World) (K : PySem.W.Frag) (mg : Str → Option Value) (base : Heap) (Z : List Addr) (f : Addr) (ps : List Str) (k : Nat) (W : MW) : Prop where
  ex : ∃ fd : FuncData, FnOk P w K mg base CX0 k f fd ps (spM K Z ps.length W) ∧ PySem.W.keepIn K (.ref f) = true ∧ Binds K fd ps []
  len : ∀ ms S R, W ms S R → ms.length = ps.length
def mCall (W : MW) (ms : MA) : ME := fun ρ S R => ms ρ S fun vs S1 => W vs S1 R
section
variable {es : List Expr} {ps : List Str} {k k' : Nat} {W : MW} {mas : MA}
theorem sp_of {K : PySem.W.Frag} {S0 S : Sto} {H0 H : Hp} {n : Nat} {R : MK} {ms : List MV} {vs : List V} (hlen : ∀ ms S R, W ms S R → ms.length = n) (t : GK K S0 H0 S H) (r : RMs K H ms vs) (s : RS K Z S H) (q : W ms S R) : spM K Z n W vs H (MQ K Z S0 H0 R) E0 :=
  ⟨by rw [r.length]; exact hlen _ _ _ q, ms, S, R, r, s, q, fun v H' q => q.base t⟩
theorem ee_call {x : Str} {f : Addr} {p : Pos} (C : Cal X.prog X.w X.K X.mg X.base Z f ps k W) (hr : Room k' X.A) (hk : k ≤ k') (hg : Gl X x) (hm : X.mg x = some (.ref f)) (ha : EA X Z (e :: es) mas) (hdb : (x == ("__debug__" : Str)) = false := by kernel_rfl)
    (he : starEach (e :: es) X.env = (false, eval e X.env) :: starEach es X.env := by kernel_rfl) (hpl : (backTo pos (starEach es X.env)).any (·.1) = false := by kernel_rfl) : EE X Z (.Call (.Name x p) (e :: es) [] pos) (mCall W mas) := by
  obtain ⟨fd, F, kp, b⟩ := C.ex
  refine ee_of (pe_call F (hr.mono hk) hg hm kp b .nil pass0 ha.pa hdb he hpl) fun σ H ρ S R hE hS hm => ?_
  refine ⟨ρ, S, _, hE, hS, hm, fun vs H1 ⟨ms, S1, t1, r1, s1, q1⟩ => ?_⟩
  dsimp only
  rw [List.append_nil]
  exact sp_of C.len t1 r1 s1 q1
/-- o.m(..) of an own class -/
def mMeth (c m : String) (W : MW) (mo : ME) (ms : MA) : ME := fun ρ S R => mo ρ S fun x S1 => match x with
  | .ref a => (match S1 a with
    | some (.ins c' fs) => c' = c ∧ fs.lookup m = none ∧ ms ρ S1 fun vs S2 => W (.ref a :: vs) S2 R
    | _ => False)
  | _ => False
theorem ee_meth {c mt : String} {f : Addr} {apos : Pos} {pl : Sem Bool} (C : Cal X.prog X.w X.K X.mg X.base Z f ps k W) (hr : Room k' X.A) (hk : k ≤ k') (cl : Cls X.K (He.ga X.K (so c))) (hmt : Meth X.K (He.ga X.K (so c)) (so mt) f) (ho : EE X Z o m) (ha : EA X Z (e :: es) mas)
    (hst : starEach (e :: es) X.env = (false, eval e X.env) :: starEach es X.env := by kernel_rfl) (hpl : (backTo pos (starEach es X.env)).any (·.1) = false := by kernel_rfl)
    (ht : eval (.Call (.Attribute o (Str.ofString mt) apos) (e :: es) [] pos) X.env = (do
      let ov ← eval o X.env
      standAt apos.atName
      let (f, first) ← holding [ov] (getMethod ov (Str.ofString mt) pl)
      callWith pos f first (backTo pos (starEach (e :: es) X.env)) (backToKw pos (keywordEach [] X.env))) := by kernel_rfl) : EE X Z (.Call (.Attribute o (Str.ofString mt) apos) (e :: es) [] pos) (mMeth c mt W m mas) := by
  obtain ⟨fd, F, kp, b⟩ := C.ex
  refine ee_of (pe_meth ho.pe cl hmt F (hr.mono hk) b .nil pass0 ha.pa hst hpl ht) fun σ H ρ S R hE hS hm => ?_
  refine ⟨ρ, S, _, hE, hS, hm, fun v H1 ⟨x, S1, t1, r1, s1, q1⟩ => ?_⟩
  cases x with
  | ref a =>
    unfold RM at r1
    dsimp only at q1
    split at q1
    · rename_i c' fs e1
      obtain ⟨ec, el, q1⟩ := q1
      subst ec
      obtain ⟨dx, xs, h1, h2, h3⟩ := s1.ins e1
      refine ⟨a, dx, xs, r1, h1, lookup_none h2 el, ρ, S1, _, hE.mono t1, s1, q1, fun vs H2 ⟨ms, S2, t2, r2, s2, q2⟩ => ?_⟩
      dsimp only
      rw [List.append_nil, r1]
      exact sp_of C.len (t1.trans t2) (RMs.cons (by unfold RM; rfl) r2) s2 q2
    · exact q1.elim
  | _ => exact False.elim q1
theorem ee_meth0 {c mt : String} {f : Addr} {apos : Pos} {pl : Sem Bool} (C : Cal X.prog X.w X.K X.mg X.base Z f ps k W) (hr : Room k' X.A) (hk : k ≤ k') (cl : Cls X.K (He.ga X.K (so c))) (hmt : Meth X.K (He.ga X.K (so c)) (so mt) f) (ho : EE X Z o m)
    (ht : eval (.Call (.Attribute o (Str.ofString mt) apos) [] [] pos) X.env = (do
      let ov ← eval o X.env
      standAt apos.atName
      let (f, first) ← holding [ov] (getMethod ov (Str.ofString mt) pl)
      callWith pos f first (backTo pos (starEach [] X.env)) (backToKw pos (keywordEach [] X.env))) := by kernel_rfl) : EE X Z (.Call (.Attribute o (Str.ofString mt) apos) [] [] pos) (mMeth c mt W m maNil) := by
  obtain ⟨fd, F, kp, b⟩ := C.ex
  refine ee_of (pe_meth0 ho.pe cl hmt F (hr.mono hk) b .nil pass0 ht) fun σ H ρ S R hE hS hm => ?_
  refine ⟨ρ, S, _, hE, hS, hm, fun v H1 ⟨x, S1, t1, r1, s1, q1⟩ => ?_⟩
  cases x with
  | ref a =>
    unfold RM at r1
    dsimp only at q1
    split at q1
    · rename_i c' fs e1
      obtain ⟨ec, el, q1⟩ := q1
      subst ec
      obtain ⟨dx, xs, h1, h2, h3⟩ := s1.ins e1
      refine ⟨a, dx, xs, r1, h1, lookup_none h2 el, ?_⟩
      rw [r1]
      exact sp_of C.len t1 (RMs.cons (by unfold RM; rfl) RMs.nil) s1 q1
    · exact q1.elim
  | _ => exact False.elim q1
/-- C(..) of an own class -/
def mMake (c : String) (W : MW) (ms : MA) : ME := fun ρ S R => ms ρ S fun vs S1 => ∀ p, S1 p = none → W (.ref p :: vs) (supd S1 p (.ins c [])) fun v S2 => v = .non ∧ R (.ref p) S2
theorem make_st {K : PySem.W.Frag} {S : Sto} {H : Hp} {x dx : Addr} {c : String} (s : RS K Z S H) (hx : H x = none) (hdx : H dx = none) (hne : dx ≠ x) :
    GK K S H (supd S x (.ins c [])) (upd (upd H dx (.own x)) x (.ins (He.ga K (so c)) dx [])) ∧ RS K Z (supd S x (.ins c [])) (upd (upd H dx (.own x)) x (.ins (He.ga K (so c)) dx [])) := by
  have h1 : (upd H dx (.own x)) x = none := by rw [upd_ne hne.symm]; exact hx
  have g0 : GK K S H S (upd H dx (.own x)) := GK.hid hdx
  have g1 : GK K S (upd H dx (.own x)) (supd S x (.ins c [])) (upd (upd H dx (.own x)) x (.ins (He.ga K (so c)) dx [])) := GK.new h1
  refine ⟨g0.trans g1, (s.hid hdx).put (TK.new h1) (fun ps e => by rw [h1] at e; cases e) ⟨dx, [], upd_same, rfl, RMs.nil⟩⟩
theorem ee_make {x : Str} {c : String} {f : Addr} {p : Pos} (C : Cal X.prog X.w X.K X.mg X.base Z f ps k W) (M : Mk X.K (He.ga X.K (so c)) f) (hr : Room k' X.A) (hk : k + 1 ≤ k') (hg : Gl X x) (hm : X.mg x = some (.ref (He.ga X.K (so c)))) (ha : EA X Z (e :: es) mas)
    (hdb : (x == ("__debug__" : Str)) = false := by kernel_rfl) (he : starEach (e :: es) X.env = (false, eval e X.env) :: starEach es X.env := by kernel_rfl) (hpl : (backTo pos (starEach es X.env)).any (·.1) = false := by kernel_rfl) :
    EE X Z (.Call (.Name x p) (e :: es) [] pos) (mMake c W mas) := by
  obtain ⟨fd, F, kp, b⟩ := C.ex
  refine ee_of (pe_make M F (hr.mono hk) hg hm b .nil pass0 ha.pa hdb he hpl) fun σ H ρ S R hE hS hm => ?_
  refine ⟨ρ, S, _, hE, hS, hm, fun vs H1 ⟨ms, S1, t1, r1, s1, q1⟩ => fun y dx hy hdx hne => ?_⟩
  obtain ⟨g, s2⟩ := make_st (c := c) s1 hy hdx hne
  rw [List.append_nil]
  have q2 := q1 y (s1.free hy)
  refine ⟨?_, .ref y :: ms, _, _, RMs.cons (by unfold RM; rfl) (r1.mono g), s2, q2, fun v H' ⟨m, S', t', r', s', em, q'⟩ => ?_⟩
  · rw [List.length_cons, r1.length]; exact C.len _ _ _ q2
  · subst em
    unfold RM at r'
    exact ⟨r', .ref y, S', t1.trans (g.trans t'), by unfold RM; rfl, s', q'⟩
end
end
end Mv

set_option Elab.async false
set_option linter.all false
set_option maxRecDepth 100000
set_option maxHeartbeats 4000000
namespace Mv
open PySem PySem.Spec PyProof.Rows L2
/-! ### built-ins by name -/
abbrev MF := List MV → Sto → MK → Prop
def rMC (K : PySem.W.Frag) (Z : List Addr) (f : MF) : List V → Hp → VK → Prop := fun vs H Q => ∃ ms S R, RMs K H ms vs ∧ RS K Z S H ∧ f ms S R ∧ ∀ v H', MQ K Z S H R v H' → Q v H'
theorem rms1 {K : PySem.W.Frag} {H : Hp} {m : MV} {vs : List V} (r : RMs K H [m] vs) : ∃ v, vs = [v] ∧ RM K H m v := by
  unfold RMs at r; obtain ⟨v, r', e, h1, h2⟩ := r; unfold RMs at h2; subst h2; exact ⟨v, e, h1⟩
theorem rms2 {K : PySem.W.Frag} {H : Hp} {m n : MV} {vs : List V} (r : RMs K H [m, n] vs) : ∃ v u, vs = [v, u] ∧ RM K H m v ∧ RM K H n u := by
  unfold RMs at r; obtain ⟨v, r', e, h1, h2⟩ := r; obtain ⟨u, e2, h3⟩ := rms1 h2; subst e2; exact ⟨v, u, e, h1, h3⟩
def lenV : MF := fun ms S R => match ms with
  | [.tup l] => R (.int l.length) S
  | [.ref a] => (match lookL S a with
    | some l => R (.int l.length) S
    | none => False)
  | _ => False
def listV : MF := fun ms S R => match ms with
  | [.tup l] => newL l S R
  | [.frz l] => newL l S R
  | [.ref a] => (match lookL S a with
    | some l => newL l S R
    | none => False)
  | _ => False
def tupleV : MF := fun ms S R => match ms with
  | [.tup l] => R (.tup l) S
  | [.ref a] => (match lookL S a with
    | some l => R (.tup l) S
    | none => False)
  | _ => False
def intV : MF := fun ms S R => match ms with
  | [.int i] => R (.int i) S
  | [.bl b] => R (.int (if b then 1 else 0)) S
  | _ => False
section
variable {X : Cx} {Z : List Addr} {e a b c o i value : Expr} {m ma mb mc : ME} {mt mu : MT} {pos pos' p : Pos} {rest es : List Expr} {mas : MA} {x : Str}
theorem cr_len : CallR X (.builtin "len") (rMC X.K Z lenV) := by
  intro pins s σ H xs us Q I rv h
  obtain ⟨ms, S, R, r, hS, hf, hQ⟩ := h
  unfold lenV at hf
  split at hf
  · obtain ⟨v, rfl, q⟩ := rms1 r
    unfold RM at q
    obtain ⟨a, ys, e, sq, rs⟩ := q
    exact call_len_seq pins s σ H _ us Q I rv ⟨a, ys, by rw [e], .inr sq, by rw [rs.length]; exact mq_int hQ hS hf⟩
  · obtain ⟨v, rfl, q⟩ := rms1 r
    unfold RM at q
    split at hf
    · rename_i l el
      obtain ⟨ys, g1, g2⟩ := look_sq hS el
      exact call_len_seq pins s σ H _ us Q I rv ⟨_, ys, by rw [q], .inl g1, by rw [g2.length]; exact mq_int hQ hS hf⟩
    · exact hf.elim
  · exact hf.elim
theorem cr_list : CallR X (.type "list") (rMC X.K Z listV) := by
  intro pins s σ H xs us Q I rv h
  obtain ⟨ms, S, R, r, hS, hf, hQ⟩ := h
  unfold listV at hf
  split at hf
  · obtain ⟨v, rfl, q⟩ := rms1 r
    unfold RM at q
    obtain ⟨a, ys, e, sq, rs⟩ := q
    exact call_list_of pins s σ H _ us Q I rv ⟨a, ys, by rw [e], .inr sq, fun l hl => mq_lst hQ hS rs hl hf⟩
  · obtain ⟨v, rfl, q⟩ := rms1 r
    unfold RM at q
    obtain ⟨a, ys, e, sq, rs⟩ := q
    exact call_list_of pins s σ H _ us Q I rv ⟨a, ys, by rw [e], .inl sq.sq, fun l hl => mq_lst hQ hS rs hl hf⟩
  · obtain ⟨v, rfl, q⟩ := rms1 r
    unfold RM at q
    split at hf
    · rename_i l el
      obtain ⟨ys, g1, g2⟩ := look_sq hS el
      exact call_list_of pins s σ H _ us Q I rv ⟨_, ys, by rw [q], .inl g1, fun l hl => mq_lst hQ hS g2 hl hf⟩
    · exact hf.elim
  · exact hf.elim
theorem cr_tuple : CallR X (.type "tuple") (rMC X.K Z tupleV) := by
  intro pins s σ H xs us Q I rv h
  obtain ⟨ms, S, R, r, hS, hf, hQ⟩ := h
  unfold tupleV at hf
  split at hf
  · obtain ⟨v, rfl, q⟩ := rms1 r
    have q' := q
    unfold RM at q
    obtain ⟨a, ys, e, sq, rs⟩ := q
    exact call_tuple_of pins s σ H _ us Q I rv ⟨a, ys, by rw [e], .inr ⟨sq, by rw [← e]; exact mq hQ q' hS hf⟩⟩
  · obtain ⟨v, rfl, q⟩ := rms1 r
    unfold RM at q
    split at hf
    · rename_i l el
      obtain ⟨ys, g1, g2⟩ := look_sq hS el
      exact call_tuple_of pins s σ H _ us Q I rv ⟨_, ys, by rw [q], .inl ⟨g1, fun l hl => mq_tup hQ hS g2 hl hf⟩⟩
    · exact hf.elim
  · exact hf.elim
theorem cr_int : CallR X (.type "int") (rMC X.K Z intV) := by
  intro pins s σ H xs us Q I rv h
  obtain ⟨ms, S, R, r, hS, hf, hQ⟩ := h
  unfold intV at hf
  split at hf
  · obtain ⟨v, rfl, q⟩ := rms1 r
    unfold RM at q
    exact call_int1 pins s σ H _ us Q I rv (.inl ⟨_, by rw [q], mq_int hQ hS hf⟩)
  · obtain ⟨v, rfl, q⟩ := rms1 r
    unfold RM at q
    exact call_int1 pins s σ H _ us Q I rv (.inr ⟨_, by rw [q], mq_int hQ hS hf⟩)
  · exact hf.elim
def mCB (f : MF) (ms : MA) : ME := fun ρ S R => ms ρ S fun vs S1 => f vs S1 R
theorem ee_callB {id : String} {f : MF} (hc : CallR X (.builtin id) (rMC X.K Z f)) (hg : Gl X x) (hm : X.mg x = none) (hv : bootBuiltins x = some (.builtin id)) (ha : EA X Z (e :: es) mas) (hn : x ≠ "__name__" := by decide +kernel) (hdb : (x == ("__debug__" : Str)) = false := by kernel_rfl)
    (he : starEach (e :: es) X.env = (false, eval e X.env) :: starEach es X.env := by kernel_rfl) (hpl : (backTo pos (starEach es X.env)).any (·.1) = false := by kernel_rfl) : EE X Z (.Call (.Name x p) (e :: es) [] pos) (mCB f mas) :=
  ee_of (pe_callB hc hg hm hv ha.pa hn hdb he hpl) fun σ H ρ S R hE hS hm =>
    ⟨ρ, S, _, hE, hS, hm, fun vs H1 ⟨ms, S1, t1, r1, s1, q1⟩ => ⟨ms, S1, R, r1, s1, q1, fun v H' q => q.base t1⟩⟩
theorem ee_callTy {T : String} {f : MF} (hc : CallR X (.type T) (rMC X.K Z f)) (hg : Gl X x) (hm : X.mg x = none) (hv : bootBuiltins x = some (.type T)) (ha : EA X Z (e :: es) mas) (hn : x ≠ "__name__" := by decide +kernel) (hdb : (x == ("__debug__" : Str)) = false := by kernel_rfl)
    (he : starEach (e :: es) X.env = (false, eval e X.env) :: starEach es X.env := by kernel_rfl) (hpl : (backTo pos (starEach es X.env)).any (·.1) = false := by kernel_rfl) : EE X Z (.Call (.Name x p) (e :: es) [] pos) (mCB f mas) :=
  ee_of (pe_callTy hc hg hm hv ha.pa hn hdb he hpl) fun σ H ρ S R hE hS hm =>
    ⟨ρ, S, _, hE, hS, hm, fun vs H1 ⟨ms, S1, t1, r1, s1, q1⟩ => ⟨ms, S1, R, r1, s1, q1, fun v H' q => q.base t1⟩⟩
/-! isinstance(e, T), T a built-in type -/
def tyN (S : Sto) : MV → Option String
  | .non => some "NoneType"
  | .bl _ => some "bool"
  | .int _ => some "int"
  | .str _ => some "str"
  | .tup _ => some "tuple"
  | .ref a => (match S a with
    | some (.lst _) => some "list"
    | some (.rl _) => some "list"
    | some (.dct _) => some "dict"
    | _ => none)
  | .frz _ => none
def tyB (T n : String) : Bool := n == T || (n == "bool" && T == "int")
theorem kit_all : ∀ n ∈ ["NoneType", "bool", "int", "str", "tuple", "list", "dict"], ∀ T ∈ ["bool", "int", "str", "tuple", "list", "dict"], kitB n T = some (tyB T n) := by decide +kernel
theorem tyX_of {K : PySem.W.Frag} {S : Sto} {H : Hp} {m : MV} {v : V} {n : String} (hS : RS K Z S H) (r : RM K H m v) (h : tyN S m = some n) : TyX K H v (.type n) ∧ n ∈ ["NoneType", "bool", "int", "str", "tuple", "list", "dict"] := by
  cases m with
  | frz l => cases h
  | non => cases h; unfold RM at r; subst r; exact ⟨.base .non, by simp⟩
  | bl b => cases h; unfold RM at r; subst r; exact ⟨.base (.bl b), by simp⟩
  | int b => cases h; unfold RM at r; subst r; exact ⟨.base (.int b), by simp⟩
  | str b => cases h; unfold RM at r; subst r; exact ⟨.base (.str _), by simp⟩
  | tup l =>
    cases h; unfold RM at r
    obtain ⟨a, xs, e, sq, rs⟩ := r
    subst e
    refine ⟨?_, by simp⟩
    rcases sq with (sq | ⟨ob, sq⟩) | ⟨ob, its, k, h1, h2, _⟩
    · exact .base (.tup sq)
    · exact .fTuple sq
    · exact .kTuple h1 h2
  | ref a =>
    unfold RM at r; subst r
    have h : (match S a with
      | some (.lst _) => some "list"
      | some (.rl _) => some "list"
      | some (.dct _) => some "dict"
      | _ => none) = some n := h
    cases e : S a with
    | none => rw [e] at h; cases h
    | some ob =>
      have q := hS.ob a ob e
      rw [e] at h
      cases ob with
      | lst l =>
        obtain ⟨xs, h1, h2⟩ := q
        cases h
        exact ⟨.base (.lst h1), by simp⟩
      | rl l =>
        obtain ⟨xs, h1, h2⟩ := q
        cases h
        rcases h1 with h1 | ⟨ob, h1⟩
        · exact ⟨.base (.lst h1), by simp⟩
        · exact ⟨.base (.frz h1), by simp⟩
      | dct kvs =>
        obtain ⟨ks, h1, h2, h3⟩ := q
        cases h
        exact ⟨.base (.dK h1), by simp⟩
      | _ => cases h
def mIsi (T : String) (m : ME) : ME := fun ρ S R => m ρ S fun x S1 => match tyN S1 x with
  | some n => R (.bl (tyB T n)) S1
  | none => False
theorem ee_isi {y : Str} {T : String} {p2 : Pos} (ha : EE X Z e m) (hg : Gl X "isinstance") (hm : X.mg "isinstance" = none) (hgT : Gl X y) (hmT : X.mg y = none) (hvT : bootBuiltins y = some (.type T)) (hT : T ∈ ["bool", "int", "str", "tuple", "list", "dict"])
    (hv : bootBuiltins "isinstance" = some (.builtin "isinstance") := by decide +kernel) (hn : y ≠ "__name__" := by decide +kernel) (hdb : (y == ("__debug__" : Str)) = false := by kernel_rfl)
    (he : starEach [e, .Name y p2] X.env = (false, eval e X.env) :: starEach [.Name y p2] X.env := by kernel_rfl) (hpl : (backTo pos (starEach [.Name y p2] X.env)).any (·.1) = false := by kernel_rfl) (hs1 : starEach [.Name y p2] X.env = (false, eval (.Name y p2) X.env) :: starEach [] X.env := by kernel_rfl) :
    EE X Z (.Call (.Name "isinstance" p) [e, .Name y p2] [] pos) (mIsi T m) :=
  ee_of (pe_callB call_isi hg hm hv (pa_cons ha.pe (pa_cons (pe_bltn hgT hmT hvT (v := .ty T) rfl hn hdb) pa_nil hs1) he) (by decide) (by decide) he hpl) fun σ H ρ S R hE hS hm => by
    refine ⟨ρ, S, _, hE, hS, hm, fun v H1 ⟨x, S1, t1, r1, s1, q1⟩ => ?_⟩
    dsimp only at q1
    split at q1
    · rename_i n en
      obtain ⟨ty, hmem⟩ := tyX_of s1 r1 en
      exact ⟨v, .ty T, .type n, .type T, tyB T n, rfl, .ty T, ty, kit_ty (kit_all n hmem T hT), .bl _, S1, t1, by unfold RM; rfl, s1, q1⟩
    · exact q1.elim
/-! ### methods of lists -/
abbrev MB := MV → List MV → Sto → MK → Prop
def isL (S : Sto) (x : MV) : Prop := match x with
  | .ref a => (lookL S a).isSome = true
  | _ => False
theorem isL_ty {K : PySem.W.Frag} {S : Sto} {H : Hp} {x : MV} {v : V} (hS : RS K Z S H) (r : RM K H x v) (h : isL S x) : tyV K "list" v H := by
  cases x with
  | ref a =>
    unfold RM at r; subst r
    have h : (lookL S a).isSome = true := h
    cases e : lookL S a with
    | none => rw [e] at h; cases h
    | some l =>
      obtain ⟨xs, g1, _⟩ := look_sq hS e
      exact .inl ⟨rfl, xs, g1⟩
  | _ => exact False.elim h
def mBM (f : MB) (mo : ME) (ms : MA) : ME := fun ρ S R => mo ρ S fun x S1 => isL S1 x ∧ ms ρ S1 fun vs S2 => f x vs S2 R
def rMB (K : PySem.W.Frag) (Z : List Addr) (f : MB) : V → List V → Hp → VK → Prop := fun v vs H Q => ∃ x ms S R, RM K H x v ∧ RMs K H ms vs ∧ RS K Z S H ∧ f x ms S R ∧ ∀ v H', MQ K Z S H R v H' → Q v H'
theorem ee_bm {name : Str} {id : String} {f : MB} {apos cpos : Pos} (pa : PlainAttrs "list") (slot : Slot "list" name id) (hty : typeOf (.builtin id) = pure (.type "method_descriptor")) (hm : MtR X id (rMB X.K Z f)) (ho : EE X Z o m) (ha : EA X Z (e :: es) mas)
    (hbase : attributeBase o name X.env (eval o X.env) = eval o X.env := by kernel_rfl)
    (hfew : ((backTo cpos (starEach (e :: es) X.env)).all (fun x => !x.1) && (backToKw cpos (keywordEach [] X.env)).all (fun x => x.1.isSome)
      && decide ((e :: es).length + ([] : List Keyword).length + (if ([] : List Keyword).isEmpty then 0 else 1) < 30)) = true := by kernel_rfl)
    (hline : (apos.endLine == cpos.line) = true := by kernel_rfl) (hs : starEach (e :: es) X.env = (false, eval e X.env) :: starEach es X.env := by kernel_rfl) (hplain : (backTo cpos (starEach es X.env)).any (·.1) = false := by kernel_rfl) :
    EE X Z (.Call (.Attribute o name apos) (e :: es) [] cpos) (mBM f m mas) :=
  ee_of (pe_bm pa slot hty hm ho.pe ha.pa hbase hfew hline hs hplain) fun σ H ρ S R hE hS hm => by
    refine ⟨ρ, S, _, hE, hS, hm, fun v H1 ⟨x, S1, t1, r1, s1, l1, q1⟩ => ⟨isL_ty s1 r1 l1, ρ, S1, _, hE.mono t1, s1, q1, fun vs H2 ⟨ms, S2, t2, r2, s2, q2⟩ => ?_⟩⟩
    exact ⟨x, ms, S2, R, r1.mono t2, r2, s2, q2, fun v H' q => q.base (t1.trans t2)⟩
theorem ee_bm0 {name : Str} {id : String} {f : MB} {apos cpos : Pos} (pa : PlainAttrs "list") (slot : Slot "list" name id) (hty : typeOf (.builtin id) = pure (.type "method_descriptor")) (hm : MtR X id (rMB X.K Z f)) (ho : EE X Z o m)
    (hbase : attributeBase o name X.env (eval o X.env) = eval o X.env := by kernel_rfl) (hline : (apos.endLine == cpos.line) = true := by kernel_rfl) : EE X Z (.Call (.Attribute o name apos) [] [] cpos) (mBM f m maNil) :=
  ee_of (pe_bm0 pa slot hty hm ho.pe hbase hline) fun σ H ρ S R hE hS hm => by
    refine ⟨ρ, S, _, hE, hS, hm, fun v H1 ⟨x, S1, t1, r1, s1, l1, q1⟩ => ⟨isL_ty s1 r1 l1, ?_⟩⟩
    exact ⟨x, [], S1, R, r1, RMs.nil, s1, q1, fun v H' q => q.base t1⟩
def appendV : MB := fun x vs S R => match x, vs with
  | .ref a, [v] => (match S a with
    | some (.lst l) => l.length < sizeLine ∧ R .non (supd S a (.lst (l ++ [v])))
    | _ => False)
  | _, _ => False
theorem mq_setL {K : PySem.W.Frag} {S : Sto} {H : Hp} {R : MK} {Q : VK} (hQ : ∀ v H', MQ K Z S H R v H' → Q v H') {m : MV} {v : V} {a : Addr} {l l' : List MV} {xs ys : List V} (s : RS K Z S H) (e : S a = some (.lst l)) (h : H a = some (.lst ys)) (r : RMs K H l' xs) (rv : RM K H m v)
    (q : R m (supd S a (.lst l'))) : Q v (upd H a (.lst xs)) := by
  have g : GK K S H (supd S a (.lst l')) (upd H a (.lst xs)) := GK.put (TK.lst h) e
  exact hQ _ _ ⟨m, _, g, rv.mono g, s.setL (l := l) h r, q⟩
theorem mr_append : MtR X "list.append" (rMB X.K Z appendV) := by
  intro pins s σ H x vs v us Q I rx rv h
  obtain ⟨mx, ms, S, R, r1, r2, hS, hf, hQ⟩ := h
  unfold appendV at hf
  split at hf
  · rename_i a w
    split at hf
    · rename_i l e
      obtain ⟨u, rfl, q⟩ := rms1 r2
      unfold RM at r1
      obtain ⟨xs, h1, h2⟩ := hS.lst e
      exact mt_append pins s σ H x _ v us Q I rx rv ⟨a, xs, u, r1, rfl, h1, by rw [h2.length]; exact hf.1, mq_setL hQ hS e h1 (h2.append (RMs.cons q RMs.nil)) (by unfold RM; rfl) hf.2⟩
    · exact hf.elim
  · exact hf.elim
/-- xs.pop(0) -/
def popV : MB := fun x vs S R => match x, vs with
  | .ref a, [.int 0] => (match S a with
    | some (.lst (v :: l)) => R v (supd S a (.lst l))
    | _ => False)
  | .ref a, [] => (match S a with
    | some (.lst l) => (match l[l.length - 1]? with
      | some v => R v (supd S a (.lst l.dropLast))
      | none => False)
    | _ => False)
  | _, _ => False
theorem RMs.dropLast {K : PySem.W.Frag} {H : Hp} {l : List MV} {xs : List V} (h : RMs K H l xs) : RMs K H l.dropLast xs.dropLast := by
  rw [List.dropLast_eq_take, List.dropLast_eq_take, h.length]
  exact h.take _
theorem mr_pop : MtR X "list.pop" (rMB X.K Z popV) := by
  intro pins s σ H x vs v us Q I rx rv h
  obtain ⟨mx, ms, S, R, r1, r2, hS, hf, hQ⟩ := h
  unfold popV at hf
  split at hf
  · rename_i a
    split at hf
    · rename_i w l e
      obtain ⟨u, rfl, q⟩ := rms1 r2
      unfold RM at r1 q
      subst q
      obtain ⟨xs, h1, h2⟩ := hS.lst e
      have h2' := h2
      unfold RMs at h2
      obtain ⟨y, r, e2, r3, r4⟩ := h2
      subst e2
      exact mt_popAt pins s σ H x _ v us Q I rx rv ⟨a, y :: r, 0, 0, y, r1, rfl, h1, by decide, by decide, (ixN_seq (n := (y :: r).length) (i := 0) (j := 0) (by unfold ixN; rw [if_pos (by decide), if_pos (by rw [List.length_cons]; omega)]; rfl)).1, rfl, mq_setL hQ hS e h1 r4 r3 hf⟩
    · exact hf.elim
  · rename_i a
    split at hf
    · rename_i l e
      split at hf
      · rename_i w e2
        unfold RMs at r2; subst r2
        unfold RM at r1
        obtain ⟨xs, h1, h2⟩ := hS.lst e
        obtain ⟨y, e3, r3⟩ := h2.get e2
        exact mt_pop pins s σ H x _ v us Q I rx rv ⟨a, xs, y, r1, rfl, h1, by rw [h2.length]; exact e3, mq_setL hQ hS e h1 h2.dropLast r3 hf⟩
      · exact hf.elim
    · exact hf.elim
  · exact hf.elim
def extendV : MB := fun x vs S R => match x, vs with
  | .ref a, [.ref b] => (match S a, S b with
    | some (.lst l), some (.lst k) => l.length + k.length ≤ sizeLine ∧ R .non (supd S a (.lst (l ++ k)))
    | _, _ => False)
  | _, _ => False
theorem mr_extend : MtR X "list.extend" (rMB X.K Z extendV) := by
  intro pins s σ H x vs v us Q I rx rv h
  obtain ⟨mx, ms, S, R, r1, r2, hS, hf, hQ⟩ := h
  unfold extendV at hf
  split at hf
  · rename_i a b
    split at hf
    · rename_i l k e e'
      obtain ⟨u, rfl, q⟩ := rms1 r2
      unfold RM at r1 q
      obtain ⟨xs, h1, h2⟩ := hS.lst e
      obtain ⟨ys, h3, h4⟩ := hS.lst e'
      exact mt_extend pins s σ H x _ v us Q I rx rv ⟨a, b, xs, ys, r1, by rw [q], h1, h3, by rw [h2.length, h4.length]; exact hf.1, mq_setL hQ hS e h1 (h2.append h4) (by unfold RM; rfl) hf.2⟩
    · exact hf.elim
  · exact hf.elim
end
end Mv

set_option Elab.async false
set_option linter.all false
set_option maxRecDepth 100000
set_option maxHeartbeats 4000000
namespace Mv
open PySem PySem.Spec PyProof.Rows L2
/-! ### statements -/
section
variable {K : PySem.W.Frag} {Z : List Addr}
theorem toE_base {S0 S : Sto} {H0 H : Hp} {D : MD} {D' : Ends} (t : GK K S0 H0 S H) (h1 : ∀ σ' H', MQd K Z S0 H0 D.nx σ' H' → D'.nx σ' H') : ∀ σ' H', MQd K Z S H D.nx σ' H' → D'.nx σ' H' := fun σ' H' q => h1 _ _ (q.base t)
end
section
variable {X : Cx} {Z : List Addr} {e a b c o i value : Expr} {m ma mb mc : ME} {mt mu : MT} {pos pos' p : Pos} {rest es : List Expr} {mas : MA} {x : Str} {st : Stmt} {sts els : List Stmt} {ms mr : MS}
/-- the four ways out, over a later state -/
theorem tMS_at {m : MS} {S S1 : Sto} {σ : L2.St} {H H1 : Hp} {ρ : Env} {D' : MD} {D : Ends} (t : GK X.K S H S1 H1) (hE : RE X.K H1 ρ σ) (hS : RS X.K Z S1 H1) (hm : m D' ρ S1)
    (h1 : ∀ σ' H', MQd X.K Z S H D'.nx σ' H' → D.nx σ' H') (h2 : ∀ v H', MQ X.K Z S H D'.rt v H' → D.rt v H')
    (h3 : ∀ σ' H', MQd X.K Z S H D'.bk σ' H' → D.bk σ' H') (h4 : ∀ σ' H', MQd X.K Z S H D'.ct σ' H' → D.ct σ' H') : tMS X.K Z m D σ H1 :=
  ⟨ρ, S1, D', hE, hS, hm, fun σ' H' q => h1 _ _ (q.base t), fun σ' H' q => h2 _ _ (q.base t), fun σ' H' q => h3 _ _ (q.base t), fun σ' H' q => h4 _ _ (q.base t)⟩
def msNil : MS := fun D ρ S => D.nx ρ S
def msSeq (a b : MS) : MS := fun D ρ S => a { D with nx := b D } ρ S
theorem eb_nil : EB X Z [] msNil := ⟨PSs.imp pss_nil fun D σ H ⟨ρ, S, D', hE, hS, hm, h1, h2, h3, h4⟩ => h1 _ _ ⟨ρ, S, GK.refl, hE, hS, hm⟩⟩
theorem eb_cons (ha : ES X Z st ms) (hb : EB X Z sts mr) : EB X Z (st :: sts) (msSeq ms mr) :=
  ⟨PSs.imp (pss_cons ha.ps hb.pss) fun D σ H ⟨ρ, S, D', hE, hS, hm, h1, h2, h3, h4⟩ =>
    ⟨ρ, S, { D' with nx := mr D' }, hE, hS, hm, fun σ' H' ⟨ρ', S', t, e', s', q⟩ => tMS_at t e' s' q h1 h2 h3 h4, h2, h3, h4⟩⟩
theorem eb_one (ha : ES X Z st ms) : EB X Z [st] ms := ⟨PSs.imp (pss_one ha.ps) fun D σ H h => h⟩
def msRet (m : ME) : MS := fun D ρ S => m ρ S D.rt
theorem es_ret (h : EE X Z e m) : ES X Z (.Return (some e) pos) (msRet m) :=
  ⟨PS.imp (ps_ret h.pe) fun D σ H ⟨ρ, S, D', hE, hS, hm, h1, h2, h3, h4⟩ => ⟨ρ, S, D'.rt, hE, hS, hm, h2⟩⟩
def msRetN : MS := fun D _ S => D.rt .non S
theorem es_retN : ES X Z (.Return none pos) msRetN :=
  ⟨PS.imp ps_retN fun D σ H ⟨ρ, S, D', hE, hS, hm, h1, h2, h3, h4⟩ => h2 _ _ ⟨.non, S, GK.refl, by unfold RM; rfl, hS, hm⟩⟩
theorem es_pass : ES X Z (.Pass pos) msNil := ⟨PS.imp ps_pass fun D σ H ⟨ρ, S, D', hE, hS, hm, h1, h2, h3, h4⟩ => h1 _ _ ⟨ρ, S, GK.refl, hE, hS, hm⟩⟩
def msBrk : MS := fun D ρ S => D.bk ρ S
def msCont : MS := fun D ρ S => D.ct ρ S
theorem es_break : ES X Z (.Break pos) msBrk := ⟨PS.imp ps_break fun D σ H ⟨ρ, S, D', hE, hS, hm, h1, h2, h3, h4⟩ => h3 _ _ ⟨ρ, S, GK.refl, hE, hS, hm⟩⟩
theorem es_cont : ES X Z (.Continue pos) msCont := ⟨PS.imp ps_continue fun D σ H ⟨ρ, S, D', hE, hS, hm, h1, h2, h3, h4⟩ => h4 _ _ ⟨ρ, S, GK.refl, hE, hS, hm⟩⟩
def msNever : MS := fun _ _ _ => False
theorem es_never : ES X Z st msNever := ⟨PS.imp ps_never fun D σ H ⟨ρ, S, D', hE, hS, hm, h1, h2, h3, h4⟩ => hm⟩
theorem es_doc {s : Str} {j} : ES X Z (.Expr (.Constant (.str s) j pos) pos') msNil := ⟨PS.imp ps_doc fun D σ H ⟨ρ, S, D', hE, hS, hm, h1, h2, h3, h4⟩ => h1 _ _ ⟨ρ, S, GK.refl, hE, hS, hm⟩⟩
def msExpr (m : ME) : MS := fun D ρ S => m ρ S fun _ S1 => D.nx ρ S1
theorem es_expr (h : EE X Z e m) (hs : swapsWith e none pos.line X.env = pure false := by kernel_rfl) : ES X Z (.Expr e pos) (msExpr m) :=
  ⟨PS.imp (ps_expr h.pe hs) fun D σ H ⟨ρ, S, D', hE, hS, hm, h1, h2, h3, h4⟩ =>
    ⟨ρ, S, _, hE, hS, hm, fun v H1 ⟨x, S1, t1, r1, s1, q1⟩ => h1 _ _ ⟨ρ, S1, t1, hE.mono t1, s1, q1⟩⟩⟩
def msIf (t : MT) (a b : MS) : MS := fun D ρ S => t ρ S fun k S1 => match k with
  | true => a D ρ S1
  | false => b D ρ S1
theorem es_if {sa sb : List Stmt} {ma mb : MS} (hc : ET X Z c mt) (ha : EB X Z sa ma) (hb : EB X Z sb mb) : ES X Z (.If c sa sb pos) (msIf mt ma mb) :=
  ⟨PS.imp (ps_if hc.pt ha.pss hb.pss) fun D σ H ⟨ρ, S, D', hE, hS, hm, h1, h2, h3, h4⟩ => by
    refine ⟨ρ, S, _, hE, hS, hm, fun k H1 ⟨S1, t1, s1, q1⟩ => ?_⟩
    cases k with
    | true => rw [if_pos rfl]; exact tMS_at t1 (hE.mono t1) s1 q1 h1 h2 h3 h4
    | false => rw [if_neg Bool.false_ne_true]; exact tMS_at t1 (hE.mono t1) s1 q1 h1 h2 h3 h4⟩
/-! ### stores -/
def msSet (i : Nat) (m : ME) : MS := fun D ρ S => m ρ S fun v S1 => D.nx (ρ.set i (some v)) S1
theorem es_set {i : Nat} (hN : X.N.Nodup) (hi : X.N[i]? = some x) (hx : Loc X.env.scope x) (he : EE X Z e m) (hs : swapsWith e (some (.Name x pos')) pos.line X.env = pure false := by kernel_rfl)
    (hf : X.fn x = true ∨ X.env.scope.names.lookup x = some .local) : ES X Z (.Assign [.Name x pos'] e pos) (msSet i m) :=
  ⟨PS.imp (ps_set hN hi hx he.pe hs hf) fun D σ H ⟨ρ, S, D', hE, hS, hm, h1, h2, h3, h4⟩ =>
    ⟨ρ, S, _, hE, hS, hm, fun v H1 ⟨x, S1, t1, r1, s1, q1⟩ => h1 _ _ ⟨_, S1, t1, (hE.mono t1).set r1, s1, q1⟩⟩⟩
def putFM (f : String) (v : MV) : List (String × MV) → List (String × MV)
  | [] => [(f, v)]
  | (g, x) :: r => if g = f then (g, v) :: r else (g, x) :: putFM f v r
theorem putF_rel {K : PySem.W.Frag} {H : Hp} {f : String} {m : MV} {v : V} (r : RM K H m v) : ∀ {fs : List (String × MV)} {xs : List (Str × V)}, xs.map (·.1) = fs.map (fun p => so p.1) → RMs K H (fs.map (·.2)) (xs.map (·.2)) →
    (putF (so f) v xs).map (·.1) = (putFM f m fs).map (fun p => so p.1) ∧ RMs K H ((putFM f m fs).map (·.2)) ((putF (so f) v xs).map (·.2))
  | [], [], _, _ => ⟨rfl, RMs.cons r RMs.nil⟩
  | [], _ :: _, e, _ => by simp at e
  | _ :: _, [], e, _ => by simp at e
  | (g, n) :: fs, (y, x) :: xs, e, q => by
    simp only [List.map_cons, List.cons.injEq] at e
    simp only [List.map_cons] at q
    unfold RMs at q
    obtain ⟨x', r', ex, q1, q2⟩ := q
    injection ex with ex1 ex2
    subst ex1; subst ex2
    unfold putF putFM
    by_cases hg : g = f
    · subst hg
      rw [if_pos e.1, if_pos rfl]
      exact ⟨by simp [e.1, e.2], RMs.cons r q2⟩
    · rw [if_neg (fun z => hg (so_inj (e.1.symm.trans z))), if_neg hg]
      obtain ⟨i1, i2⟩ := putF_rel r e.2 q2
      exact ⟨by simp [e.1, i1], RMs.cons q1 i2⟩
theorem insLen {fs : List (String × MV)} {xs : List (Str × V)} (h : xs.map (·.1) = fs.map (fun p => so p.1)) : xs.length = fs.length := by
  have := congrArg List.length h; simpa using this
/-- o.f = e -/
def fldPut (T : String → String → Bool) (f : String) (o v : MV) (S : Sto) (k : Sto → Prop) : Prop := match o with
  | .ref a => (match S a with
    | some (.ins c fs) => T c f = true ∧ fs.length < 1000 ∧ k (supd S a (.ins c (putFM f v fs)))
    | _ => False)
  | _ => False
def msFld (T : String → String → Bool) (mo : ME) (f : String) (mv : ME) : MS := fun D ρ S => mv ρ S fun v S1 => mo ρ S1 fun o S2 => fldPut T f o v S2 fun S3 => D.nx ρ S3
theorem fld_put {T : String → String → Bool} {f : String} (hT : AtOk X.K T) {S : Sto} {H : Hp} {o v : MV} {ov vv : V} {k : Sto → Prop} (hS : RS X.K Z S H) (ro : RM X.K H o ov) (rv : RM X.K H v vv) (h : fldPut T f o v S k) :
    ∃ (a C dx : Addr) (fs : List (Str × V)) (S3 : Sto), ov = .ref a ∧ H a = some (.ins C dx fs) ∧ Cls X.K C ∧ NoAttr X.K C (so f) ∧ fs.length < 1000 ∧ GK X.K S H S3 (upd H a (.ins C dx (putF (so f) vv fs))) ∧ RS X.K Z S3 (upd H a (.ins C dx (putF (so f) vv fs))) ∧ k S3 := by
  cases o with
  | ref a =>
    unfold RM at ro
    have h : (match S a with
      | some (.ins c fs) => T c f = true ∧ fs.length < 1000 ∧ k (supd S a (.ins c (putFM f v fs)))
      | _ => False) := h
    split at h
    · rename_i c fs e
      obtain ⟨hc, hl, q⟩ := h
      obtain ⟨dx, xs, h1, h2, h3⟩ := hS.ins e
      obtain ⟨p1, p2⟩ := putF_rel (f := f) rv h2 h3
      have g : GK X.K S H (supd S a (.ins c (putFM f v fs))) (upd H a (.ins (He.ga X.K (so c)) dx (putF (so f) vv xs))) := GK.put (TK.ins h1) e
      exact ⟨a, _, dx, xs, _, ro, h1, (hT _ _ hc).1, (hT _ _ hc).2, by rw [insLen h2]; exact hl, g, hS.put (TK.ins h1) (fun ps e => by rw [h1] at e; cases e) ⟨dx, _, upd_same, p1, p2.mono g⟩, q⟩
    · exact h.elim
  | _ => exact False.elim h
theorem es_fld {T : String → String → Bool} {f : String} (hT : AtOk X.K T) (ho : EE X Z o mb) (hv : EE X Z value ma) (hs : swapsWith value (some (.Attribute o (Str.ofString f) pos')) pos.line X.env = pure false := by kernel_rfl) :
    ES X Z (.Assign [.Attribute o (Str.ofString f) pos'] value pos) (msFld T mb f ma) :=
  ⟨PS.imp (ps_fld ho.pe hv.pe hs) fun D σ H ⟨ρ, S, D', hE, hS, hm, h1, h2, h3, h4⟩ => by
    refine ⟨ρ, S, _, hE, hS, hm, fun v H1 ⟨x, S1, t1, r1, s1, q1⟩ => ?_⟩
    refine ⟨ρ, S1, _, hE.mono t1, s1, q1, fun ov H2 ⟨y, S2, t2, r2, s2, q2⟩ => ?_⟩
    obtain ⟨a, C, dx, fs, S3, e1, e2, e3, e4, e5, g, s3, q3⟩ := fld_put hT s2 r2 (r1.mono t2) q2
    exact ⟨a, C, dx, fs, e1, e2, e3, e4, e5, h1 _ _ ⟨ρ, S3, t1.trans (t2.trans g), hE.mono (t1.trans (t2.trans g)), s3, q3⟩⟩⟩
/-- o[i] = e: a list, or a dict with a text key -/
def subPut (o i v : MV) (S : Sto) (k : Sto → Prop) : Prop := match o with
  | .ref a => (match S a with
    | some (.lst l) => (match i with
      | .int z => (match ixN l.length z with
        | some j => k (supd S a (.lst (l.set j v)))
        | none => False)
      | _ => False)
    | some (.dct kvs) => (match i with
      | .str s => kvs.length < sizeLine ∧ k (supd S a (.dct (putD kvs s v)))
      | _ => False)
    | _ => False)
  | _ => False
def rSetB : TSet := fun o i v H Q => rSetL o i v H Q ∨ rSetD o i v H Q
theorem set_both (hu : X.A.units + 1 < cLine) : PSet X rSetB := fun pins s σ H o i v ov iv u Q I r1 r2 r3 h => h.elim (set_list pins s σ H o i v ov iv u Q I r1 r2 r3) (set_dict hu pins s σ H o i v ov iv u Q I r1 r2 r3)
theorem sub_put {S : Sto} {H : Hp} {o i v : MV} {ov iv vv : V} {k : Sto → Prop} {Q : Hp → Prop} (hS : RS X.K Z S H) (ro : RM X.K H o ov) (ri : RM X.K H i iv) (rv : RM X.K H v vv) (h : subPut o i v S k)
    (hQ : ∀ S3 H3, GK X.K S H S3 H3 → RS X.K Z S3 H3 → k S3 → Q H3) : rSetB ov iv vv H Q := by
  cases o with
  | ref a =>
    unfold RM at ro
    unfold subPut at h
    dsimp only at h
    split at h
    · rename_i l e
      cases i with
      | int z =>
        unfold RM at ri
        dsimp only at h
        split at h
        · rename_i j ej
          obtain ⟨xs, g1, g2⟩ := hS.lst e
          have g : GK X.K S H (supd S a (.lst (l.set j v))) (upd H a (.lst (xs.set j vv))) := GK.put (TK.lst g1) e
          exact .inl ⟨a, xs, z, j, ro, ri, g1, by rw [g2.length]; exact ej, hQ _ _ g (hS.setL (l := l) g1 (RMs.set rv j g2)) h⟩
        · exact h.elim
      | _ => exact False.elim h
    · rename_i kvs e
      cases i with
      | str s =>
        unfold RM at ri
        obtain ⟨ks, g1, g2⟩ := hS.dct e
        have g : GK X.K S H (supd S a (.dct (putD kvs s v))) (upd H a (.dK (putK ks (Sum.inr (so s) : Key) vv))) := GK.put (TK.dK g1) e
        have g3 := (g2.put (s := s) rv).mono g
        exact .inr ⟨a, _, ro, by rw [ri]; exact DPut.k (k := Sum.inr (so s)) g1 (by rw [g2.length]; exact h.1), hQ _ _ g (hS.put (TK.dK g1) (fun ps e => by rw [g1] at e; cases e) ⟨_, upd_same, g3.keys, g3.vals⟩) h.2⟩
      | _ => exact False.elim h
    · exact h.elim
  | _ => exact False.elim h
def msSub (mo mi mv : ME) : MS := fun D ρ S => mv ρ S fun v S1 => mo ρ S1 fun o S2 => mi ρ S2 fun i S3 => subPut o i v S3 fun S4 => D.nx ρ S4
theorem es_sub (hu : X.A.units + 1 < cLine) (ho : EE X Z o ma) (hi : EE X Z i mb) (hv : EE X Z value mc) (hs : swapsWithSole [.Subscript o i pos'] value pos.line X.env = pure false := by kernel_rfl) (hw : swappedStores [.Subscript o i pos'] value X.env = pure none := by kernel_rfl)
    (h1 : (assignEach [.Subscript o i pos'] X.env).map (·.2) = [assign (.Subscript o i pos') X.env] := by kernel_rfl)
    (ha : ∀ v, assign (.Subscript o i pos') X.env v = (do
      let ov ← holding [v] (eval o X.env)
      let iv ← holding [v, ov] (eval i X.env)
      standAt pos'
      holding [v, ov, iv] (setItem ov iv v)
      release [v, ov, iv] []) := by intro _; kernel_rfl) : ES X Z (.Assign [.Subscript o i pos'] value pos) (msSub ma mb mc) :=
  ⟨PS.imp (ps_asg hv.pe (pg_sub ho.pe hi.pe (set_both hu) ha) hs hw h1) fun D σ H ⟨ρ, S, D', hE, hS, hm, h1, h2, h3, h4⟩ => by
    refine ⟨ρ, S, _, hE, hS, hm, fun v H1 ⟨x, S1, t1, r1, s1, q1⟩ => ?_⟩
    refine ⟨ρ, S1, _, hE.mono t1, s1, q1, fun ov H2 ⟨y, S2, t2, r2, s2, q2⟩ => ?_⟩
    refine ⟨ρ, S2, _, hE.mono (t1.trans t2), s2, q2, fun iv H3 ⟨z, S3, t3, r3, s3, q3⟩ => ?_⟩
    exact sub_put s3 (r2.mono t3) r3 (r1.mono (t2.trans t3)) q3 fun S4 H4 g s4 q4 => h1 _ _ ⟨ρ, S4, t1.trans (t2.trans (t3.trans g)), hE.mono (t1.trans (t2.trans (t3.trans g))), s4, q4⟩⟩
/-! ### op= -/
def msAug (i : Nat) (f : M2) (m : ME) : MS := fun D ρ S => match ρ[i]? with
  | some (some x) => m ρ S fun y S1 => f x y S1 fun z S2 => D.nx (ρ.set i (some z)) S2
  | _ => False
theorem pip_of {op : Operator} {f : M2} (h : OpR X (inplaceOp op) (rM X.K Z f)) : PIp X op (rM X.K Z f) := fun pins s σ H x y v u Q I r1 r2 q => h pins s σ H x y v u Q I r1 r2 q
theorem ri_add : OpR X (inplaceOp .Add) (rM X.K Z (fun x y S R => match x, y with
    | .int i, .int j => R (.int (i + j)) S
    | _, _ => False)) := by
  intro pins s σ H x y v u Q I rx ry h
  obtain ⟨mx, my, S, R, r1, r2, hS, hf, hQ⟩ := h
  split at hf
  · unfold RM at r1 r2
    exact iop_add pins s σ H x y v u Q I rx ry ⟨_, _, r1, r2, mq_int hQ hS hf⟩
  · exact hf.elim
def iaddV : M2 := fun x y S R => match x, y with
  | .int i, .int j => R (.int (i + j)) S
  | _, _ => False
theorem ri_iadd : OpR X (inplaceOp .Add) (rM X.K Z iaddV) := ri_add
theorem ri_isub : OpR X (inplaceOp .Sub) (rM X.K Z subV) := by
  intro pins s σ H x y v u Q I rx ry h
  obtain ⟨mx, my, S, R, r1, r2, hS, hf, hQ⟩ := h
  unfold subV at hf
  split at hf
  · unfold RM at r1 r2
    exact iop_sub pins s σ H x y v u Q I rx ry ⟨_, _, r1, r2, mq_int hQ hS hf⟩
  · exact hf.elim
theorem es_aug {i : Nat} {op : Operator} {f : M2} (hN : X.N.Nodup) (hi : X.N[i]? = some x) (hx : Loc X.env.scope x) (he : EE X Z e m) (ho : OpR X (inplaceOp op) (rM X.K Z f)) (hf : X.fn x = true ∨ X.env.scope.names.lookup x = some .local) :
    ES X Z (.AugAssign (.Name x pos') op e pos) (msAug i f m) :=
  ⟨PS.imp (ps_aug hN hi hx he.pe (pip_of ho) hf) fun D σ H ⟨ρ, S, D', hE, hS, hm, h1, h2, h3, h4⟩ => by
    unfold msAug at hm
    split at hm
    · rename_i w hw
      obtain ⟨vx, ex, rx⟩ := hE.at_ i w hw
      refine ⟨vx, ex, ρ, S, _, hE, hS, hm, fun v H1 ⟨y, S1, t1, r1, s1, q1⟩ => ?_⟩
      exact ⟨w, y, S1, _, rx.mono t1, r1, s1, q1, fun z H2 ⟨u, S2, t2, r2, s2, q2⟩ => h1 _ _ ⟨_, S2, t1.trans t2, (hE.mono (t1.trans t2)).set r2, s2, q2⟩⟩
    · exact hm.elim⟩
/-- o[i] op= e, o a list, i not below nought -/
theorem get_lst0 : PGet X (fun o i H Q => ∃ p xs k v, o = .ref p ∧ i = .int k ∧ 0 ≤ k ∧ SqL X.K H p xs ∧ atI xs k = some v ∧ Q v H) := by
  intro pins s σ H o i ov iv Q I rx ry h
  obtain ⟨p, xs, k, z, rfl, rfl, h0, hq, he, q⟩ := h
  cases rx
  obtain ⟨t, rfl⟩ := ry
  obtain ⟨its, r, pl, hz⟩ := I.list hq
  obtain ⟨j, h1, h2, h3, h4, h5⟩ := atI_get he
  obtain ⟨w, ew, rw'⟩ := r.get h2
  have hl := r.length
  have hn := line63
  have hj : k.toNat = j := by
    rw [seqIndex_of h0 h5] at h1
    exact Option.some.inj h1
  exact wpAny_getItem_list pl.isList h0 (by omega) (by rw [hj]; simpa using ew) ⟨z, H, I, rw', q⟩
def ixL : M2 := fun x y S R => match y with
  | .int i => (match x with
    | .ref a => (match lookL S a with
      | some l => (match atI l i with
        | some v => 0 ≤ i ∧ R v S
        | none => False)
      | none => False)
    | _ => False)
  | _ => False
def msAugS (f : M2) (mo mi m : ME) : MS := fun D ρ S => mo ρ S fun o S1 => mi ρ S1 fun i S2 => ixL o i S2 fun x S3 => m ρ S3 fun y S4 => f x y S4 fun z S5 => subPut o i z S5 fun S6 => D.nx ρ S6
theorem es_augS {op : Operator} {f : M2} (hu : X.A.units + 1 < cLine) (hp : OpR X (inplaceOp op) (rM X.K Z f)) (ho : EE X Z o ma) (hi : EE X Z i mb) (he : EE X Z e mc)
    (ha : ∀ ov iv new, augStore i ov iv new = (do holding [new, ov, iv] (setItem ov iv new); release [new, ov, iv] []; pure .next) := by intros; kernel_rfl) : ES X Z (.AugAssign (.Subscript o i pos') op e pos) (msAugS f ma mb mc) :=
  ⟨PS.imp (ps_augS ho.pe hi.pe get_lst0 he.pe (pip_of hp) (set_both hu) ha) fun D σ H ⟨ρ, S, D', hE, hS, hm, h1, h2, h3, h4⟩ => by
    refine ⟨ρ, S, _, hE, hS, hm, fun ov H1 ⟨x, S1, t1, r1, s1, q1⟩ => ?_⟩
    refine ⟨ρ, S1, _, hE.mono t1, s1, q1, fun iv H2 ⟨y, S2, t2, r2, s2, q2⟩ => ?_⟩
    unfold ixL at q2
    cases y with
    | int k =>
      cases x with
      | ref a =>
        dsimp only at q2
        split at q2
        · rename_i l el
          split at q2
          · rename_i w ew
            obtain ⟨h0, q2⟩ := q2
            obtain ⟨xs, g1, g2⟩ := look_sq s2 el
            obtain ⟨vw, hw, rw'⟩ := at_rel g2 ew
            have r1' := r1.mono t2
            have r2' := r2
            unfold RM at r1' r2'
            refine ⟨a, xs, k, vw, r1', r2', h0, g1, hw, ρ, S2, _, hE.mono (t1.trans t2), s2, q2, fun ev H3 ⟨z, S3, t3, r3, s3, q3⟩ => ?_⟩
            refine ⟨w, z, S3, _, rw'.mono t3, r3, s3, q3, fun nv H4 ⟨u, S4, t4, r4, s4, q4⟩ => ?_⟩
            exact sub_put s4 (r1.mono (t2.trans (t3.trans t4))) (r2.mono (t3.trans t4)) r4 q4 fun S5 H5 g s5 q5 => h1 _ _ ⟨ρ, S5, t1.trans (t2.trans (t3.trans (t4.trans g))), hE.mono (t1.trans (t2.trans (t3.trans (t4.trans g)))), s5, q5⟩
          · exact q2.elim
        · exact q2.elim
      | _ => exact False.elim q2
    | _ => exact False.elim q2⟩
/-! ### targets: names, and tuples of names -/
inductive Pat where
  | nm (i : Nat)
  | tp (ps : List Pat)
mutual
def Pat.slots : Pat → List Nat
  | .nm i => [i]
  | .tp ps => slotsL ps
def slotsL : List Pat → List Nat
  | [] => []
  | p :: ps => p.slots ++ slotsL ps
end
mutual
/-- a value is bound: the slots behind it -/
def bindP : Pat → MV → Sto → Env → (Env → Prop) → Prop
  | .nm i, v, _, ρ, k => k (ρ.set i (some v))
  | .tp ps, v, S, ρ, k => match v with
    | .tup l => bindL ps l S ρ k
    | .ref a => (match lookL S a with
      | some l => bindL ps l S ρ k
      | none => False)
    | _ => False
def bindL : List Pat → List MV → Sto → Env → (Env → Prop) → Prop
  | [], l, _, ρ, k => l = [] ∧ k ρ
  | p :: ps, l, S, ρ, k => match l with
    | v :: r => bindP p v S ρ fun ρ' => bindL ps r S ρ' k
    | [] => False
end
mutual
theorem bindP_ex : ∀ (p : Pat) (v : MV) (S : Sto) (ρ : Env) {k : Env → Prop}, bindP p v S ρ k → ∃ ρ', k ρ'
  | .nm i, v, S, ρ, k, h => by unfold bindP at h; exact ⟨_, h⟩
  | .tp ps, v, S, ρ, k, h => by
    unfold bindP at h
    split at h
    · exact bindL_ex ps _ S ρ h
    · split at h
      · exact bindL_ex ps _ S ρ h
      · exact h.elim
    · exact h.elim
theorem bindL_ex : ∀ (ps : List Pat) (l : List MV) (S : Sto) (ρ : Env) {k : Env → Prop}, bindL ps l S ρ k → ∃ ρ', k ρ'
  | [], l, S, ρ, k, h => by unfold bindL at h; exact ⟨_, h.2⟩
  | p :: ps, [], S, ρ, k, h => by unfold bindL at h; exact h.elim
  | p :: ps, v :: r, S, ρ, k, h => by
    unfold bindL at h
    obtain ⟨ρ', h⟩ := bindP_ex p v S ρ h
    exact bindL_ex ps r S ρ' h
end
def gP (K : PySem.W.Frag) (Z : List Addr) (p : Pat) : TG := fun v σ H Q => ∃ (m : MV) (ρ : Env) (S : Sto) (k : Env → Prop), RM K H m v ∧ RE K H ρ σ ∧ RS K Z S H ∧ bindP p m S ρ k ∧ ∀ ρ' σ', RE K H ρ' σ' → (∀ j, j ∉ p.slots → σ'[j]? = σ[j]?) → σ'.length = σ.length → k ρ' → Q σ' H
def gPs (K : PySem.W.Frag) (Z : List Addr) (ps : List Pat) : TGs := fun vs σ H Q => ∃ (ms : List MV) (ρ : Env) (S : Sto) (k : Env → Prop), RMs K H ms vs ∧ RE K H ρ σ ∧ RS K Z S H ∧ bindL ps ms S ρ k ∧ ∀ ρ' σ', RE K H ρ' σ' → (∀ j, j ∉ slotsL ps → σ'[j]? = σ[j]?) → σ'.length = σ.length → k ρ' → Q σ' H
structure EG (X : Cx) (Z : List Addr) (tg : Expr) (p : Pat) : Prop where
  pg : PG X tg (gP X.K Z p)
structure EGs (X : Cx) (Z : List Addr) (tgs : List Expr) (ps : List Pat) : Prop where
  pgs : PGs X tgs (gPs X.K Z ps)
  n : tgs.length = ps.length
theorem PG.imp {tg : Expr} {t t' : TG} (h : PG X tg t) (k : ∀ v σ H Q, t' v σ H Q → t v σ H Q) : PG X tg t' := ⟨fun pins s σ H v u Q I r hw => h.run pins s σ H v u Q I r (k v σ H Q hw)⟩
theorem PGs.imp {tg : List Expr} {t t' : TGs} (h : PGs X tg t) (k : ∀ v σ H Q, t' v σ H Q → t v σ H Q) : PGs X tg t' := ⟨fun pins s σ H v u Q I r hw => h.run pins s σ H v u Q I r (k v σ H Q hw)⟩
theorem PG.or {tg : Expr} {t t' : TG} (h : PG X tg t) (h' : PG X tg t') : PG X tg (fun v σ H Q => t v σ H Q ∨ t' v σ H Q) := ⟨fun pins s σ H v u Q I r hw => hw.elim (h.run pins s σ H v u Q I r) (h'.run pins s σ H v u Q I r)⟩
theorem eg_nm {i : Nat} (hN : X.N.Nodup) (hi : X.N[i]? = some x) (hx : Loc X.env.scope x) (hf : X.fn x = true ∨ X.env.scope.names.lookup x = some .local) : EG X Z (.Name x pos) (.nm i) :=
  ⟨PG.imp (pg_name hN hi hx hf) fun v σ H Q ⟨m, ρ, S, k, r, hE, hS, hb, hQ⟩ => by
    refine hQ _ _ (hE.set r) (fun j hj => ?_) (by rw [List.length_set]) (show k (ρ.set i (some m)) by unfold bindP at hb; exact hb)
    rw [List.getElem?_set_ne]
    intro e
    exact hj (by rw [← e]; simp [Pat.slots])⟩
theorem egs_nil : EGs X Z [] [] := ⟨PGs.imp pgs_nil fun vs σ H Q ⟨ms, ρ, S, k, r, hE, hS, hb, hQ⟩ => by
  unfold bindL at hb
  obtain ⟨e, hb⟩ := hb
  subst e
  unfold RMs at r; subst r
  exact ⟨rfl, hQ _ _ hE (fun _ _ => rfl) rfl hb⟩, rfl⟩
theorem egs_cons {tg : Expr} {tgs : List Expr} {p : Pat} {ps : List Pat} (h1 : EG X Z tg p) (h2 : EGs X Z tgs ps) (hs : (assignEach (tg :: tgs) X.env).map (·.2) = assign tg X.env :: (assignEach tgs X.env).map (·.2) := by kernel_rfl) : EGs X Z (tg :: tgs) (p :: ps) :=
  ⟨PGs.imp (pgs_cons h1.pg h2.pgs hs) fun vs σ H Q ⟨ms, ρ, S, k, r, hE, hS, hb, hQ⟩ => by
    cases ms with
    | nil => unfold bindL at hb; exact False.elim hb
    | cons m ms =>
      unfold RMs at r
      obtain ⟨v, vr, e, r1, r2⟩ := r
      have hb : bindP p m S ρ fun ρ' => bindL ps ms S ρ' k := by unfold bindL at hb; exact hb
      refine ⟨v, vr, e, m, ρ, S, _, r1, hE, hS, hb, fun ρ1 σ1 e1 f1 l1 b1 => ?_⟩
      refine ⟨ms, ρ1, S, k, r2, e1, hS, b1, fun ρ2 σ2 e2 f2 l2 b2 => hQ ρ2 σ2 e2 (fun j hj => ?_) (l2.trans l1) b2⟩
      simp only [slotsL, List.mem_append, not_or] at hj
      exact (f2 j hj.2).trans (f1 j hj.1), by rw [List.length_cons, List.length_cons, h2.n]⟩
theorem eg_tp {tgs : List Expr} {k : Nat} {ps : List Pat} (hc : X.calm = true) (h : EGs X Z tgs ps) (hn : (assignEach tgs X.env).length = tgs.length := by kernel_rfl) (hst : (assignEach tgs X.env).findIdx? (·.1) = none := by kernel_rfl) : EG X Z (.Tuple tgs k pos) (.tp ps) :=
  ⟨PG.imp (PG.or (pg_tup hc h.pgs hn hst) (pg_unl hc h.pgs hn hst)) fun v σ H Q ⟨m, ρ, S, kk, r, hE, hS, hb, hQ⟩ => by
    have len : ∀ (ps : List Pat) (l : List MV) (S : Sto) (ρ : Env) (k : Env → Prop), bindL ps l S ρ k → l.length = ps.length := by
      intro ps
      induction ps with
      | nil => intro l S ρ k hb; unfold bindL at hb; rw [hb.1]; rfl
      | cons p ps ih =>
        intro l S ρ k hb
        cases l with
        | nil => unfold bindL at hb; exact False.elim hb
        | cons v r =>
          rw [List.length_cons, List.length_cons]
          unfold bindL at hb
          obtain ⟨ρ', hb⟩ := bindP_ex p v S ρ hb
          rw [ih _ _ _ _ hb]
    cases m with
    | tup l =>
      unfold RM at r
      obtain ⟨a, xs, e, sq, rs⟩ := r
      have hb : bindL ps l S ρ kk := by unfold bindP at hb; exact hb
      exact .inl ⟨a, xs, e, sq, by rw [rs.length, len _ _ _ _ _ hb, h.n], l, ρ, S, kk, rs, hE, hS, hb, hQ⟩
    | ref a =>
      unfold RM at r
      have hb : (match lookL S a with
        | some l => bindL ps l S ρ kk
        | none => False) := by unfold bindP at hb; exact hb
      split at hb
      · rename_i l el
        obtain ⟨xs, g1, g2⟩ := look_sq hS el
        exact .inr ⟨a, xs, r, g1, by rw [g2.length, len _ _ _ _ _ hb, h.n], l, ρ, S, kk, g2, hE, hS, hb, hQ⟩
      · exact hb.elim
    | _ => unfold bindP at hb; exact False.elim hb⟩
/-- target = e, by a pattern -/
def msPat (p : Pat) (m : ME) : MS := fun D ρ S => m ρ S fun v S1 => bindP p v S1 ρ fun ρ' => D.nx ρ' S1
theorem es_pat {tg : Expr} {p : Pat} (he : EE X Z e m) (hg : EG X Z tg p) (hs : swapsWithSole [tg] e pos.line X.env = pure false := by kernel_rfl) (hw : swappedStores [tg] e X.env = pure none := by kernel_rfl)
    (h1 : (assignEach [tg] X.env).map (·.2) = [assign tg X.env] := by kernel_rfl) : ES X Z (.Assign [tg] e pos) (msPat p m) :=
  ⟨PS.imp (ps_asg he.pe hg.pg hs hw h1) fun D σ H ⟨ρ, S, D', hE, hS, hm, h1, h2, h3, h4⟩ =>
    ⟨ρ, S, _, hE, hS, hm, fun v H1 ⟨x, S1, t1, r1, s1, q1⟩ => ⟨x, ρ, S1, _, r1, hE.mono t1, s1, q1, fun ρ' σ' e' _ _ q => h1 _ _ ⟨ρ', S1, t1, e', s1, q⟩⟩⟩⟩
end
end Mv

set_option Elab.async false
set_option linter.all false
set_option maxRecDepth 100000
set_option maxHeartbeats 4000000
namespace Mv
open PySem PySem.Spec PyProof.Rows L2
/-! ### what is walked -/
/-- the items, and the lists that must stand as they are meanwhile -/
structure Items where
  vs : List MV
  keep : List (Addr × List MV)
def keepOk (k : List (Addr × List MV)) (S : Sto) : Prop := ∀ p ∈ k, lookL S p.1 = some p.2
abbrev MI := Env → Sto → (Items → Sto → Prop) → Prop
/-- the iterator J gives the items -/
def JI (K : PySem.W.Frag) (Z : List Addr) (J : It) (I : Items) (H0 : Hp) : Prop :=
  ∀ (i : Nat) (S : Sto) (H : Hp), TK K H0 H → RS K Z S H → keepOk I.keep S →
    (∀ v, I.vs[i]? = some v → J.go i H ∧ ∀ x H', J.yld i H x H' → GK K S H S H' ∧ RS K Z S H' ∧ RM K H' v x) ∧ (I.vs.length ≤ i → J.stop i H)
structure EI (X : Cx) (Z : List Addr) (tg iter : Expr) (m : MI) : Prop where
  pi : ∃ wi, PI X tg iter wi ∧ ∀ σ H ρ S R R', RE X.K H ρ σ → RS X.K Z S H → m ρ S R →
    (∀ J H', (∃ I S', GK X.K S H S' H' ∧ RS X.K Z S' H' ∧ JI X.K Z J I H' ∧ R I S') → R' J H') → wi σ H R'
theorem PI.or {X : Cx} {tg iter : Expr} {w w' : TI} (h : PI X tg iter w) (h' : PI X tg iter w') : PI X tg iter (fun σ H R => w σ H R ∨ w' σ H R) := ⟨fun pins s σ H R I hw => hw.elim (h.run pins s σ H R I) (h'.run pins s σ H R I)⟩
section
variable {K : PySem.W.Frag} {Z : List Addr}
theorem look_at {S : Sto} {H : Hp} {a : Addr} {l : List MV} {i : Nat} {v : MV} (hS : RS K Z S H) (e : lookL S a = some l) (h : l[i]? = some v) : ∃ xs x, SqL K H a xs ∧ xs[i]? = some x ∧ RM K H v x := by
  obtain ⟨xs, g1, g2⟩ := look_sq hS e
  obtain ⟨x, h1, h2⟩ := g2.get h
  exact ⟨xs, x, g1, h1, h2⟩
theorem ji_list {a : Addr} {l : List MV} {H0 : Hp} : JI K Z (Itl K a) ⟨l, [(a, l)]⟩ H0 := fun i S H t hS hk => by
  have e : lookL S a = some l := hk (a, l) (by simp)
  refine ⟨fun v hv => ?_, fun hl => ?_⟩
  · obtain ⟨xs, x, g1, h1, h2⟩ := look_at hS e hv
    refine ⟨⟨xs, x, g1, h1⟩, fun y H' ⟨eH, hy⟩ => ?_⟩
    subst eH
    have := hy xs g1
    rw [h1] at this; cases this
    exact ⟨GK.refl, hS, h2⟩
  · obtain ⟨xs, g1, g2⟩ := look_sq hS e
    exact ⟨xs, g1, by rw [g2.length]; exact hl⟩
theorem ji_tup {a : Addr} {l : List MV} {xs : List V} {H0 : Hp} (sq : SqT K H0 a xs) (r : RMs K H0 l xs) : JI K Z (Itt K a) ⟨l, []⟩ H0 := fun i S H t hS hk => by
  have sq' := t.tup _ _ sq
  refine ⟨fun v hv => ?_, fun hl => ?_⟩
  · obtain ⟨x, h1, h2⟩ := r.get hv
    refine ⟨⟨xs, x, sq', h1⟩, fun y H' ⟨eH, hy⟩ => ?_⟩
    subst eH
    have := hy xs sq'
    rw [h1] at this; cases this
    exact ⟨GK.refl, hS, RM.monoT t _ h2⟩
  · exact ⟨xs, sq', by rw [r.length]; exact hl⟩
def rngM (lo : Int) (n : Nat) : List MV := (List.range n).map fun (k : Nat) => MV.int (lo + (k : Int))
theorem ji_range {lo : Int} {n : Nat} {H0 : Hp} : JI K Z (Itr lo n) ⟨rngM lo n, []⟩ H0 := fun i S H t hS hk => by
  refine ⟨fun v hv => ?_, fun hl => ?_⟩
  · have hi : i < n := by
      have := (List.getElem?_eq_some_iff.mp hv).1
      simpa [rngM] using this
    have ev : v = .int (lo + (i : Int)) := by
      have : (rngM lo n)[i]? = some (.int (lo + (i : Int))) := by simp [rngM, hi]
      rw [this] at hv; cases hv; rfl
    refine ⟨hi, fun y H' ⟨eH, hy⟩ => ?_⟩
    subst eH; subst hy; subst ev
    exact ⟨GK.refl, hS, by unfold RM; rfl⟩
  · show n ≤ i
    simpa [rngM] using hl
theorem ji_rev {a : Addr} {l : List MV} {n : Nat} {H0 : Hp} (hn : n = l.length) : JI K Z (Itv K a n) ⟨l.reverse, [(a, l)]⟩ H0 := fun i S H t hS hk => by
  subst hn
  have e : lookL S a = some l := hk (a, l) (by simp)
  refine ⟨fun v hv => ?_, fun hl => ?_⟩
  · have hi : i < l.length := by have := (List.getElem?_eq_some_iff.mp hv).1; simpa using this
    have hv' : l[l.length - 1 - i]? = some v := by rw [← hv, List.getElem?_reverse hi]
    obtain ⟨xs, x, g1, h1, h2⟩ := look_at hS e hv'
    refine ⟨⟨hi, xs, x, g1, h1⟩, fun y H' ⟨eH, hy⟩ => ?_⟩
    subst eH
    have := hy xs g1
    rw [h1] at this; cases this
    exact ⟨GK.refl, hS, h2⟩
  · show l.length ≤ i
    simpa using hl
theorem ji_revT {a : Addr} {l : List MV} {xs : List V} {n : Nat} {H0 : Hp} (hn : n = l.length) (sq : SqT K H0 a xs) (r : RMs K H0 l xs) : JI K Z (RT.ItvT K a n) ⟨l.reverse, []⟩ H0 := fun i S H t hS hk => by
  subst hn
  have sq' := t.tup _ _ sq
  refine ⟨fun v hv => ?_, fun hl => ?_⟩
  · have hi : i < l.length := by have := (List.getElem?_eq_some_iff.mp hv).1; simpa using this
    have hv' : l[l.length - 1 - i]? = some v := by rw [← hv, List.getElem?_reverse hi]
    obtain ⟨x, h1, h2⟩ := r.get hv'
    refine ⟨⟨hi, xs, x, sq', h1⟩, fun y H' ⟨eH, hy⟩ => ?_⟩
    subst eH
    have := hy xs sq'
    rw [h1] at this; cases this
    exact ⟨GK.refl, hS, RM.monoT t _ h2⟩
  · show l.length ≤ i
    simpa using hl
/-- (i, x) of a list -/
def enumM : Nat → List MV → List MV
  | _, [] => []
  | n, v :: l => .tup [.int (n : Int), v] :: enumM (n + 1) l
theorem enumM_length : ∀ (n : Nat) (l : List MV), (enumM n l).length = l.length
  | _, [] => rfl
  | n, v :: l => by unfold enumM; rw [List.length_cons, List.length_cons, enumM_length]
theorem enumM_get : ∀ (n : Nat) (l : List MV) (i : Nat) (w : MV), (enumM n l)[i]? = some w → ∃ v, l[i]? = some v ∧ w = .tup [.int ((n + i : Nat) : Int), v]
  | n, [], i, w, h => by simp [enumM] at h
  | n, v :: l, 0, w, h => by simp [enumM] at h; exact ⟨v, rfl, by rw [← h]; rfl⟩
  | n, v :: l, i + 1, w, h => by
    obtain ⟨u, e1, e2⟩ := enumM_get (n + 1) l i w (by simpa [enumM] using h)
    refine ⟨u, by simpa using e1, ?_⟩
    rw [e2, show n + 1 + i = n + (i + 1) by omega]
theorem ji_enum {a : Addr} {l : List MV} {H0 : Hp} : JI K Z (Ite K a) ⟨enumM 0 l, [(a, l)]⟩ H0 := fun i S H t hS hk => by
  have e : lookL S a = some l := hk (a, l) (by simp)
  refine ⟨fun w hw => ?_, fun hl => ?_⟩
  · obtain ⟨v, hv, ew⟩ := enumM_get 0 l i w hw
    obtain ⟨xs, x, g1, h1, h2⟩ := look_at hS e hv
    refine ⟨⟨xs, x, g1, h1⟩, fun y H' ⟨T, x', ey, nT, eH, hy⟩ => ?_⟩
    have := hy xs g1
    rw [h1] at this; cases this
    subst eH
    have g : GK K S H S (upd H T (.tup [.int (i : Nat), x])) := GK.hid nT
    refine ⟨g, hS.hid nT, ?_⟩
    rw [ew, Nat.zero_add]
    unfold RM
    exact ⟨T, _, ey, .inl (.inl upd_same), RMs.cons (by unfold RM; rfl) (RMs.cons (h2.mono g) RMs.nil)⟩
  · obtain ⟨xs, g1, g2⟩ := look_sq hS e
    rw [enumM_length] at hl
    exact ⟨xs, g1, by rw [g2.length]; exact hl⟩
def zipM (l k : List MV) : List MV := (l.zip k).map fun p => MV.tup [p.1, p.2]
theorem zipM_get {l k : List MV} {i : Nat} {w : MV} (h : (zipM l k)[i]? = some w) : ∃ u v, l[i]? = some u ∧ k[i]? = some v ∧ w = .tup [u, v] := by
  unfold zipM at h
  rw [List.getElem?_map] at h
  cases e : (l.zip k)[i]? with
  | none => rw [e] at h; cases h
  | some p =>
    rw [e] at h
    obtain ⟨u, v⟩ := p
    have := List.getElem?_zip_eq_some.mp e
    exact ⟨u, v, this.1, this.2, by cases h; rfl⟩
theorem zipM_length (l k : List MV) : (zipM l k).length = min l.length k.length := by simp [zipM]
theorem pair_rel {S : Sto} {H : Hp} {T : Addr} {x y : V} {u v : MV} (hS : RS K Z S H) (nT : H T = none) (r1 : RM K H u x) (r2 : RM K H v y) :
    GK K S H S (upd H T (.tup [x, y])) ∧ RS K Z S (upd H T (.tup [x, y])) ∧ RM K (upd H T (.tup [x, y])) (.tup [u, v]) (.ref T) := by
  have g : GK K S H S (upd H T (.tup [x, y])) := GK.hid nT
  refine ⟨g, hS.hid nT, ?_⟩
  unfold RM
  exact ⟨T, _, rfl, .inl (.inl upd_same), RMs.cons (r1.mono g) (RMs.cons (r2.mono g) RMs.nil)⟩
theorem ji_zip {a b : Addr} {l k : List MV} {H0 : Hp} : JI K Z (Itz K a b) ⟨zipM l k, [(a, l), (b, k)]⟩ H0 := fun i S H t hS hk => by
  have e : lookL S a = some l := hk (a, l) (by simp)
  have e' : lookL S b = some k := hk (b, k) (by simp)
  refine ⟨fun w hw => ?_, fun hl => ?_⟩
  · obtain ⟨u, v, hu, hv, ew⟩ := zipM_get hw
    obtain ⟨xs, x, g1, h1, h2⟩ := look_at hS e hu
    obtain ⟨ys, y, g3, h3, h4⟩ := look_at hS e' hv
    refine ⟨⟨xs, ys, x, y, g1, g3, h1, h3⟩, fun z H' ⟨T, x', y', ez, nT, eH, hx, hy⟩ => ?_⟩
    have q1 := hx xs g1
    have q2 := hy ys g3
    rw [h1] at q1; cases q1
    rw [h3] at q2; cases q2
    subst eH; subst ez; subst ew
    exact pair_rel hS nT h2 h4
  · obtain ⟨xs, g1, g2⟩ := look_sq hS e
    obtain ⟨ys, g3, g4⟩ := look_sq hS e'
    rw [zipM_length] at hl
    have hl : min l.length k.length ≤ i := hl
    exact ⟨xs, ys, g1, g3, by rw [g2.length, g4.length]; omega⟩
theorem ji_zipT {a b : Addr} {l k : List MV} {xs ys : List V} {H0 : Hp} (s1 : SqT K H0 a xs) (r1 : RMs K H0 l xs) (s2 : SqT K H0 b ys) (r2 : RMs K H0 k ys) : JI K Z (RZ.ItzT K a b) ⟨zipM l k, []⟩ H0 := fun i S H t hS hk => by
  have s1' := t.tup _ _ s1
  have s2' := t.tup _ _ s2
  refine ⟨fun w hw => ?_, fun hl => ?_⟩
  · obtain ⟨u, v, hu, hv, ew⟩ := zipM_get hw
    obtain ⟨x, h1, h2⟩ := r1.get hu
    obtain ⟨y, h3, h4⟩ := r2.get hv
    refine ⟨⟨xs, ys, x, y, s1', s2', h1, h3⟩, fun z H' ⟨T, x', y', ez, nT, eH, hx, hy⟩ => ?_⟩
    have q1 := hx xs s1'
    have q2 := hy ys s2'
    rw [h1] at q1; cases q1
    rw [h3] at q2; cases q2
    subst eH; subst ez; subst ew
    exact pair_rel hS nT (RM.monoT t _ h2) (RM.monoT t _ h4)
  · rw [zipM_length] at hl
    have hl : min l.length k.length ≤ i := hl
    exact ⟨xs, ys, s1', s2', by rw [r1.length, r2.length]; omega⟩
end
def mIter (m : ME) : MI := fun ρ S R => m ρ S fun x S1 => match x with
  | .tup l => R ⟨l, []⟩ S1
  | .ref a => (match lookL S1 a with
    | some l => R ⟨l, [(a, l)]⟩ S1
    | none => False)
  | _ => False
def mRng1 (ms : MA) : MI := fun ρ S R => ms ρ S fun vs S1 => match vs with
  | [.int j] => (-(2 ^ 62) ≤ j ∧ j < 2 ^ 62) ∧ R ⟨rngM 0 j.toNat, []⟩ S1
  | _ => False
def mRng2 (ms : MA) : MI := fun ρ S R => ms ρ S fun vs S1 => match vs with
  | [.int i, .int j] => (-(2 ^ 62) ≤ i ∧ i < 2 ^ 62 ∧ -(2 ^ 62) ≤ j ∧ j < 2 ^ 62) ∧ R ⟨rngM i (j - i).toNat, []⟩ S1
  | _ => False
def mReversed (m : ME) : MI := fun ρ S R => m ρ S fun x S1 => match x with
  | .tup l => R ⟨l.reverse, []⟩ S1
  | .ref a => (match lookL S1 a with
    | some l => R ⟨l.reverse, [(a, l)]⟩ S1
    | none => False)
  | _ => False
section
variable {X : Cx} {Z : List Addr} {e a b tg iter : Expr} {m ma mb : ME} {pos p : Pos} {es : List Expr} {mas : MA}
/-- a list or a tuple -/
def iSeq (K : PySem.W.Frag) (te : TE) : TI := fun σ H R => te σ H fun x H1 => ∃ d : Addr, x = .ref d ∧ ((∃ xs, SqL K H1 d xs ∧ R (Itl K d) H1) ∨ ∃ xs, SqT K H1 d xs ∧ R (Itt K d) H1)
theorem pi_seq {te : TE} (h : PE X e te) : PI X tg e (iSeq X.K te) :=
  ⟨fun pins s σ H R I hw => thn (h.run pins s σ H _ I hw) fun v s1 ⟨x, H1, I1, r1, q1⟩ => by
    obtain ⟨d, ex, q1⟩ := q1
    subst ex
    cases r1
    rcases q1 with ⟨xs, sq, q⟩ | ⟨xs, sq, q⟩
    · obtain ⟨its, _, pl, _⟩ := I1.list sq
      exact wpAny_pyIter_list pl.isList (pi_one I1 _ (turn_list d _) ⟨_, Heap.get?_push_size _ rfl, rfl, rfl⟩ q)
    · obtain ⟨its, _, pl, _⟩ := I1.tuple sq
      exact wpAny_pyIter_tuple (show s1.heap.IsTuple d its.toArray from pl) (pi_one I1 _ (turn_tuple d _) ⟨_, Heap.get?_push_size _ rfl, rfl, rfl⟩ q)⟩
theorem ei_of (h : EE X Z e m) : EI X Z tg e (mIter m) := ⟨_, pi_seq h.pe, fun σ H ρ S R R' hE hS hm hQ => by
  refine ⟨ρ, S, _, hE, hS, hm, fun v H1 ⟨x, S1, t1, r1, s1, q1⟩ => ?_⟩
  cases x with
  | tup l =>
    unfold RM at r1
    obtain ⟨d, xs, ex, sq, rs⟩ := r1
    exact ⟨d, ex, .inr ⟨xs, sq, hQ _ _ ⟨_, S1, t1, s1, ji_tup sq rs, q1⟩⟩⟩
  | ref d =>
    unfold RM at r1
    dsimp only at q1
    split at q1
    · rename_i l el
      obtain ⟨xs, g1, g2⟩ := look_sq s1 el
      exact ⟨d, r1, .inl ⟨xs, g1, hQ _ _ ⟨_, S1, t1, s1, ji_list, q1⟩⟩⟩
    · exact q1.elim
  | _ => exact False.elim q1⟩
theorem ei_rng1 {p pos : Pos} (hg : Gl X "range") (hm : X.mg "range" = none) (ha : EA X Z [a] mas) (hs : starEach [a] X.env = [(false, eval a X.env)] := by kernel_rfl) : EI X Z tg (.Call (.Name "range" p) [a] [] pos) (mRng1 mas) :=
  ⟨_, pi_range1 hg hm ha.pa hs, fun σ H ρ S R R' hE hS hm hQ => by
    refine ⟨ρ, S, _, hE, hS, hm, fun vs H1 ⟨ms, S1, t1, r1, s1, q1⟩ => ?_⟩
    dsimp only at q1
    split at q1
    · rename_i j
      obtain ⟨v, rfl, r⟩ := rms1 r1
      unfold RM at r
      subst r
      exact ⟨j, rfl, q1.1.1, q1.1.2, hQ _ _ ⟨_, S1, t1, s1, ji_range, q1.2⟩⟩
    · exact q1.elim⟩
theorem ei_rng2 {p pos : Pos} (hg : Gl X "range") (hm : X.mg "range" = none) (ha : EA X Z [a, b] mas) (hs : starEach [a, b] X.env = [(false, eval a X.env), (false, eval b X.env)] := by kernel_rfl) (hs2 : starEach [b] X.env = [(false, eval b X.env)] := by kernel_rfl) :
    EI X Z tg (.Call (.Name "range" p) [a, b] [] pos) (mRng2 mas) :=
  ⟨_, pi_range2 hg hm ha.pa hs hs2, fun σ H ρ S R R' hE hS hm hQ => by
    refine ⟨ρ, S, _, hE, hS, hm, fun vs H1 ⟨ms, S1, t1, r1, s1, q1⟩ => ?_⟩
    dsimp only at q1
    split at q1
    · rename_i i j
      obtain ⟨v, u, rfl, r, r2⟩ := rms2 r1
      unfold RM at r r2
      subst r; subst r2
      exact ⟨i, j, rfl, q1.1, hQ _ _ ⟨_, S1, t1, s1, ji_range, q1.2⟩⟩
    · exact q1.elim⟩
theorem ei_rev {p pos : Pos} (hg : Gl X "reversed") (hm : X.mg "reversed" = none) (he : EE X Z e m) (hs : starEach [e] X.env = (false, eval e X.env) :: starEach [] X.env := by kernel_rfl) : EI X Z tg (.Call (.Name "reversed" p) [e] [] pos) (mReversed m) :=
  ⟨_, RT.pi_revA hg hm he.pe hs, fun σ H ρ S R R' hE hS hm hQ => by
    refine ⟨ρ, S, _, hE, hS, hm, fun v H1 ⟨x, S1, t1, r1, s1, q1⟩ => ?_⟩
    cases x with
    | tup l =>
      unfold RM at r1
      obtain ⟨d, xs, ex, sq, rs⟩ := r1
      exact ⟨d, xs, ex, .inr ⟨sq, hQ _ _ ⟨_, S1, t1, s1, ji_revT rs.length sq rs, q1⟩⟩⟩
    | ref d =>
      unfold RM at r1
      dsimp only at q1
      split at q1
      · rename_i l el
        obtain ⟨xs, g1, g2⟩ := look_sq s1 el
        exact ⟨d, xs, r1, .inl ⟨g1, hQ _ _ ⟨_, S1, t1, s1, ji_rev g2.length, q1⟩⟩⟩
      · exact q1.elim
    | _ => exact False.elim q1⟩
/-! ### for -/
def forL (k : List (Addr × List MV)) (pt : Pat) (body : MS) (D : MD) : List MV → Env → Sto → Prop
  | [], ρ, S => keepOk k S ∧ D.nx ρ S
  | v :: r, ρ, S => keepOk k S ∧ bindP pt v S ρ fun ρ' => body { D with nx := forL k pt body D r, ct := forL k pt body D r, bk := D.nx } ρ' S
def msFor (mi : MI) (pt : Pat) (body : MS) : MS := fun D ρ S => mi ρ S fun I S1 => forL I.keep pt body D I.vs ρ S1
theorem es_for {body : List Stmt} {mi : MI} {pt : Pat} {mb : MS} (hp : PassesOwn (model X.prog X.w) X.A X.env X.xe) (hc : X.calm = true) (hi : EI X Z tg iter mi) (hg : EG X Z tg pt) (hb : EB X Z body mb) (hs : ∀ x, foldedSetIterable iter X.env x = pure x := by intro _; kernel_rfl) :
    ES X Z (.For tg iter body [] pos) (msFor mi pt mb) := by
  obtain ⟨wi, w1, w2⟩ := hi.pi
  refine ⟨PS.imp (ps_for hp hc w1 hg.pg hb.pss hs) fun D σ H ⟨ρ, S, D', hE, hS, hm, h1, h2, h3, h4⟩ => ?_⟩
  refine w2 σ H ρ S _ _ hE hS hm fun J H1 ⟨I, S1, t1, s1, j1, q1⟩ => ?_
  refine ⟨fun i n σ2 H2 => n = I.vs.length - i ∧ i ≤ I.vs.length ∧ ∃ ρ2 S2, GK X.K S H S2 H2 ∧ TK X.K H1 H2 ∧ RE X.K H2 ρ2 σ2 ∧ RS X.K Z S2 H2 ∧ forL I.keep pt mb D' (I.vs.drop i) ρ2 S2, ⟨_, rfl, Nat.zero_le _, ρ, S1, t1, TK.refl, hE.mono t1, s1, q1⟩, ?_⟩
  rintro i n σ2 H2 ⟨rfl, hi, ρ2, S2, g2, k2, e2, s2, q2⟩
  by_cases hlt : i < I.vs.length
  · rw [List.drop_eq_getElem_cons hlt] at q2
    unfold forL at q2
    obtain ⟨kp, q2⟩ := q2
    obtain ⟨go, yl⟩ := (j1 i S2 H2 k2 s2 kp).1 _ (List.getElem?_eq_getElem hlt)
    refine .inr ⟨go, fun σ3 H3 => ∃ ρ3 S3, GK X.K S H S3 H3 ∧ TK X.K H1 H3 ∧ RE X.K H3 ρ3 σ3 ∧ RS X.K Z S3 H3 ∧ forL I.keep pt mb D' (I.vs.drop (i + 1)) ρ3 S3, fun σ3 H3 ⟨ρ3, S3, a1, a2, a3, a4, a5⟩ => ⟨_, by omega, rfl, hlt, ρ3, S3, a1, a2, a3, a4, a5⟩, fun x H3 hy => ?_⟩
    obtain ⟨g3, s3, r3⟩ := yl x H3 hy
    refine ⟨_, ρ2, S2, _, r3, e2.mono g3, s3, q2, fun ρ4 σ4 e4 _ _ b4 => ?_⟩
    have t4 : GK X.K S H S2 H3 := g2.trans g3
    refine ⟨ρ4, S2, _, e4, s3, b4, fun σ5 H5 ⟨ρ5, S5, g5, e5, s5, q5⟩ => ⟨ρ5, S5, t4.trans g5, k2.trans (g3.tk.trans g5.tk), e5, s5, q5⟩, fun v H5 q => h2 _ _ (q.base t4), fun σ5 H5 q => h1 _ _ (q.base t4),
      fun σ5 H5 ⟨ρ5, S5, g5, e5, s5, q5⟩ => ⟨ρ5, S5, t4.trans g5, k2.trans (g3.tk.trans g5.tk), e5, s5, q5⟩⟩
  · have ei : i = I.vs.length := by omega
    subst ei
    rw [List.drop_length] at q2
    unfold forL at q2
    obtain ⟨kp, q2⟩ := q2
    exact .inl ⟨(j1 _ S2 H2 k2 s2 kp).2 (Nat.le_refl _), h1 _ _ ⟨ρ2, S2, g2, e2, s2, q2⟩⟩
/-! ### while -/
def whileN (c : MT) (body : MS) (D : MD) : Nat → Env → Sto → Prop
  | 0, _, _ => False
  | n + 1, ρ, S => c ρ S fun b S1 => match b with
    | true => body { D with nx := whileN c body D n, ct := whileN c body D n, bk := D.nx } ρ S1
    | false => D.nx ρ S1
def msWhile (c : MT) (body : MS) : MS := fun D ρ S => ∃ n, whileN c body D n ρ S
theorem es_while {c : Expr} {body : List Stmt} {mc : MT} {mb : MS} (hp : PassesOwn (model X.prog X.w) X.A X.env X.xe) (hc : ET X Z c mc) (hb : EB X Z body mb) : ES X Z (.While c body [] pos) (msWhile mc mb) := by
  refine ⟨PS.imp (ps_while hp hc.pt hb.pss) fun D σ H ⟨ρ, S, D', hE, hS, ⟨n0, hm⟩, h1, h2, h3, h4⟩ => ?_⟩
  refine ⟨fun n σ2 H2 => ∃ ρ2 S2, GK X.K S H S2 H2 ∧ RE X.K H2 ρ2 σ2 ∧ RS X.K Z S2 H2 ∧ whileN mc mb D' n ρ2 S2, ⟨n0, ρ, S, GK.refl, hE, hS, hm⟩, ?_⟩
  rintro n σ2 H2 ⟨ρ2, S2, g2, e2, s2, q2⟩
  cases n with
  | zero => exact False.elim q2
  | succ n =>
    unfold whileN at q2
    refine ⟨ρ2, S2, _, e2, s2, q2, fun b H3 ⟨S3, g3, s3, q3⟩ => ?_⟩
    have t3 : GK X.K S H S3 H3 := g2.trans g3
    cases b with
    | true =>
      dsimp only at q3 ⊢
      rw [if_pos rfl]
      refine ⟨fun σ4 H4 => ∃ ρ4 S4, GK X.K S H S4 H4 ∧ RE X.K H4 ρ4 σ4 ∧ RS X.K Z S4 H4 ∧ whileN mc mb D' n ρ4 S4, fun σ4 H4 h => ⟨n, Nat.lt_succ_self n, h⟩, ?_⟩
      refine ⟨ρ2, S3, _, e2.mono g3, s3, q3, fun σ5 H5 ⟨ρ5, S5, g5, e5, s5, q5⟩ => ⟨ρ5, S5, t3.trans g5, e5, s5, q5⟩, fun v H5 q => h2 _ _ (q.base t3), fun σ5 H5 q => h1 _ _ (q.base t3),
        fun σ5 H5 ⟨ρ5, S5, g5, e5, s5, q5⟩ => ⟨ρ5, S5, t3.trans g5, e5, s5, q5⟩⟩
    | false =>
      dsimp only at q3 ⊢
      rw [if_neg Bool.false_ne_true]
      exact h1 _ _ ⟨ρ2, S3, t3, e2.mono g3, s3, q3⟩
/-! ### comprehensions -/
def lcL (k : List (Addr × List MV)) (pt : Pat) (tt : MT) (te : ME) (ρ : Env) (Q : List MV → Sto → Prop) : List MV → List MV → Sto → Prop
  | [], acc, S => keepOk k S ∧ Q acc S
  | v :: r, acc, S => keepOk k S ∧ bindP pt v S ρ fun ρ' => tt ρ' S fun b S1 => match b with
    | true => te ρ' S1 fun y S2 => acc.length < sizeLine ∧ lcL k pt tt te ρ Q r (acc ++ [y]) S2
    | false => lcL k pt tt te ρ Q r acc S1
def mLc (mi : MI) (pt : Pat) (tt : MT) (te : ME) (vs : List Nat) : ME := fun ρ S R => mi ρ S fun I S1 => lcL I.keep pt tt te (wipeM ρ vs) (fun l S2 => newL l S2 R) I.vs [] S1
def mYes : MT := fun _ S R => R true S
structure ETs (X : Cx) (Z : List Addr) (ifs : List Expr) (m : MT) : Prop where
  pts : PTs X ifs (tMT X.K Z m)
theorem PTs.imp {ifs : List Expr} {t t' : TT} (h : PTs X ifs t) (k : ∀ σ H Q, t' σ H Q → t σ H Q) : PTs X ifs t' := ⟨fun pins s σ H Q I hw => h.run pins s σ H Q I (k σ H Q hw)⟩
theorem ets_nil : ETs X Z [] mYes := ⟨PTs.imp pts_nil fun σ H Q ⟨ρ, S, R, hE, hS, hm, hQ⟩ => hQ _ _ ⟨S, GK.refl, hS, hm⟩⟩
theorem ets_one {c : Expr} {mt : MT} (h : ET X Z c mt) : ETs X Z [c] mt := ⟨pts_one h.pt⟩
theorem wipe_eq {vs : List Nat} {σ σ' : L2.St} (hl : σ'.length = σ.length) (h : ∀ j, j ∉ vs → σ'[j]? = σ[j]?) : L2.wipe σ' vs = L2.wipe σ vs := by
  apply List.ext_getElem?
  intro j
  have key : ∀ (τ : L2.St) (vs : List Nat), j ∈ vs → j < τ.length → (L2.wipe τ vs)[j]? = some none := by
    intro τ vs
    induction vs with
    | nil => intro h _; cases h
    | cons v vs ih =>
      intro hj hlt
      unfold L2.wipe
      by_cases e : v = j
      · subst e
        rw [List.getElem?_set_self (by rw [wipe_length]; exact hlt)]
      · rw [List.getElem?_set_ne e]
        exact ih ((List.mem_cons.mp hj).resolve_left (fun z => e z.symm)) hlt
  by_cases hj : j ∈ vs
  · by_cases hlt : j < σ.length
    · rw [key σ' vs hj (by rw [hl]; exact hlt), key σ vs hj hlt]
    · rw [List.getElem?_eq_none (by rw [wipe_length]; omega), List.getElem?_eq_none (by rw [wipe_length]; omega)]
  · rw [wipe_out hj, wipe_out hj]
    exact h j hj
theorem wipe_wipe (σ : L2.St) (vs : List Nat) : L2.wipe (L2.wipe σ vs) vs = L2.wipe σ vs := by
  refine wipe_eq (wipe_length σ vs) fun j hj => wipe_out hj
theorem RS.showL {K : PySem.W.Frag} {S : Sto} {H : Hp} {p : Addr} {l : List MV} {xs : List V} (r : RS K Z S H) (h : H p = some (.lst xs)) (q : RMs K H l xs) : RS K Z (supd S p (.lst l)) H :=
  ⟨fun b u e => by
    by_cases hb : b = p
    · subst hb; rw [supd_same] at e; cases e; exact ⟨xs, h, q⟩
    · rw [supd_ne hb] at e; exact r.ob b u e, r.tab⟩
theorem GK.over {K : PySem.W.Frag} {S S' : Sto} {H H' : Hp} {p : Addr} {o : HO} (g : GK K S H S' H') (hp : H p = none) (tk : TK K H' (upd H' p o)) : GK K S H S' (upd H' p o) :=
  ⟨g.tk.trans tk, fun a u n e nt => by
    obtain ⟨e1, n1⟩ := g.fr a u n e nt
    exact ⟨by rw [upd_ne (ne_of_none e hp)]; exact e1, n1⟩⟩
theorem GK.showL {K : PySem.W.Frag} {S S' : Sto} {H H' : Hp} {p : Addr} {l : List MV} (g : GK K S H S' H') (hp : H p = none) : GK K S H (supd S' p (.lst l)) H' :=
  ⟨g.tk, fun a u n e nt => by
    obtain ⟨e1, n1⟩ := g.fr a u n e nt
    exact ⟨e1, by rw [supd_ne (ne_of_none e hp)]; exact n1⟩⟩
theorem lc_read {K : PySem.W.Frag} {mi : MI} {pt : Pat} {tt : MT} {te : ME} {vs : List Nat} {wi : TI} {σ : L2.St} {H : Hp} {ρ : Env} {S : Sto} {R : MK} {Q : VK}
    (w2 : ∀ σ H ρ S R R', RE K H ρ σ → RS K Z S H → mi ρ S R → (∀ J H', (∃ I S', GK K S H S' H' ∧ RS K Z S' H' ∧ JI K Z J I H' ∧ R I S') → R' J H') → wi σ H R') (hsl : ∀ j ∈ pt.slots, j ∈ vs)
    (hE : RE K H ρ σ) (hS : RS K Z S H) (hm : mLc mi pt tt te vs ρ S R) (hQ : ∀ v H', MQ K Z S H R v H' → Q v H') : tLc wi (gP K Z pt) (tMT K Z tt) (tM K Z te) vs σ H Q := by
  refine w2 σ H ρ S _ _ hE hS hm fun J H1 ⟨I, S1, t1, s1, j1, q1⟩ D hD => ?_
  refine ⟨fun i n H2 => n = I.vs.length - i ∧ i ≤ I.vs.length ∧ ∃ (acc : List MV) (xs : List V) (S2 : Sto), S2 D = none ∧ H2 D = some (.lst xs) ∧ RMs K H2 acc xs ∧ RS K Z S2 H2 ∧ GK K S1 H1 S2 H2 ∧ lcL I.keep pt tt te (wipeM ρ vs) (fun l S2 => newL l S2 R) (I.vs.drop i) acc S2,
    ⟨_, rfl, Nat.zero_le _, [], [], S1, s1.free hD, upd_same, RMs.nil, s1.hid hD, GK.hid hD, q1⟩, ?_⟩
  rintro i n H2 ⟨rfl, hi, acc, xs, S2, nD, eD, ra, s2, g2, q2⟩
  by_cases hlt : i < I.vs.length
  · rw [List.drop_eq_getElem_cons hlt] at q2
    unfold lcL at q2
    obtain ⟨kp, q2⟩ := q2
    obtain ⟨go, yl⟩ := (j1 i S2 H2 g2.tk s2 kp).1 _ (List.getElem?_eq_getElem hlt)
    refine .inr ⟨go, fun H3 => ∃ (acc : List MV) (xs : List V) (S3 : Sto), S3 D = none ∧ H3 D = some (.lst xs) ∧ RMs K H3 acc xs ∧ RS K Z S3 H3 ∧ GK K S1 H1 S3 H3 ∧ lcL I.keep pt tt te (wipeM ρ vs) (fun l S2 => newL l S2 R) (I.vs.drop (i + 1)) acc S3,
      fun H3 ⟨a1, a2, a3, a4⟩ => ⟨_, by omega, rfl, hlt, a1, a2, a3, a4⟩, fun x H3 hy => ?_⟩
    obtain ⟨g3, s3, r3⟩ := yl x H3 hy
    have e3 : RE K H3 (wipeM ρ vs) (L2.wipe σ vs) := ((hE.mono t1).mono (g2.trans g3)).wiped vs
    refine ⟨_, wipeM ρ vs, S2, _, r3, e3, s3, q2, fun ρ4 σ4 e4 f4 l4 b4 => ⟨?_, ?_⟩⟩
    · rw [← wipe_wipe σ vs]
      exact wipe_eq l4 fun j hj => f4 j fun z => hj (hsl j z)
    · refine ⟨ρ4, S2, _, e4, s3, b4, fun b H4 ⟨S4, g4, s4, q4⟩ => ?_⟩
      have g34 := g3.trans g4
      cases b with
      | true =>
        dsimp only at q4 ⊢
        rw [if_pos rfl]
        refine ⟨ρ4, S4, _, e4.mono g4, s4, q4, fun y H5 ⟨my, S5, g5, r5, s5, hl, q5⟩ => ?_⟩
        have g35 := g34.trans g5
        obtain ⟨k1, k2⟩ := g35.fr D _ nD eD (fun ps z => by cases z)
        have tk := TK.lst (K := K) (o := .lst (xs ++ [y])) k1
        refine ⟨xs, k1, by rw [ra.length]; exact hl, acc ++ [my], xs ++ [y], S5, k2, upd_same, RMs.monoT tk _ ((ra.mono g35).append (RMs.cons r5 RMs.nil)), s5.hidW k1 k2, (g2.trans g35).over hD tk, q5⟩
      | false =>
        dsimp only at q4 ⊢
        rw [if_neg Bool.false_ne_true]
        obtain ⟨k1, k2⟩ := g34.fr D _ nD eD (fun ps z => by cases z)
        exact ⟨acc, xs, S4, k2, k1, ra.mono g34, s4, g2.trans g34, q4⟩
  · have ei : i = I.vs.length := by omega
    subst ei
    rw [List.drop_length] at q2
    unfold lcL at q2
    obtain ⟨kp, q2⟩ := q2
    refine .inl ⟨(j1 _ S2 H2 g2.tk s2 kp).2 (Nat.le_refl _), hQ _ _ ⟨.ref D, _, t1.trans (g2.showL (l := acc) hD), by unfold RM; rfl, s2.showL eD ra, q2 D nD⟩⟩
section
variable {elt : Expr} {ifs : List Expr} {scope : Scope} {own : List (Str × Nat)} {vs : List Nat} {mi : MI} {pt : Pat} {tt : MT} {te : ME}
theorem ee_lc (hc : X.calm = true) (hN : X.N.Nodup) (hi : EI X Z tg iter mi) (ok : BlkOk X.N X.env.scope scope own)
    (hg : ∀ (s : Shared) (H : Hp) (C : Addr) (cl : List (Str × Addr)) (fp : List Addr), EG (X.blk s H scope (compEnvC scope cl C X.env) fp) Z tg pt)
    (ht : ∀ (s : Shared) (H : Hp) (C : Addr) (cl : List (Str × Addr)) (fp : List Addr), ETs (X.blk s H scope (compEnvC scope cl C X.env) fp) Z ifs tt)
    (he : ∀ (s : Shared) (H : Hp) (C : Addr) (cl : List (Str × Addr)) (fp : List Addr), EE (X.blk s H scope (compEnvC scope cl C X.env) fp) Z elt te)
    (hvs : own.map (·.2) = vs := by rfl) (hsl : ∀ j ∈ pt.slots, j ∈ vs := by decide) (hs : ∀ x, foldedSetIterable iter X.env x = pure x := by intro _; kernel_rfl) : EE X Z (.ListComp elt [⟨tg, iter, ifs, 0⟩] scope pos) (mLc mi pt tt te vs) := by
  subst hvs
  obtain ⟨wi, w1, w2⟩ := hi.pi
  exact ee_of (pe_lc hc hN w1 ok (fun a b c d f => (hg a b c d f).pg) (fun a b c d f => (ht a b c d f).pts) (fun a b c d f => (he a b c d f).pe) hs) fun σ H ρ S R hE hS hm => lc_read w2 hsl hE hS hm fun v H' q => q
theorem es_setlc {i : Nat} {y : Str} {py spos : Pos} (hc : X.calm = true) (hN : X.N.Nodup) (hy : X.N[i]? = some y) (hyl : X.env.scope.names.lookup y = some .local)
    (hsw : swapsWith (.ListComp elt [⟨tg, iter, ifs, 0⟩] scope pos) (some (.Name y py)) spos.line X.env = pure true) (hi : EI X Z tg iter mi) (ok : BlkOk X.N X.env.scope scope own)
    (hg : ∀ (s : Shared) (H : Hp) (C : Addr) (cl : List (Str × Addr)) (fp : List Addr), EG (X.blk s H scope (compEnvC scope cl C X.env) fp) Z tg pt)
    (ht : ∀ (s : Shared) (H : Hp) (C : Addr) (cl : List (Str × Addr)) (fp : List Addr), ETs (X.blk s H scope (compEnvC scope cl C X.env) fp) Z ifs tt)
    (he : ∀ (s : Shared) (H : Hp) (C : Addr) (cl : List (Str × Addr)) (fp : List Addr), EE (X.blk s H scope (compEnvC scope cl C X.env) fp) Z elt te)
    (hvs : own.map (·.2) = vs := by rfl) (hsl : ∀ j ∈ pt.slots, j ∈ vs := by decide) (hs : ∀ x, foldedSetIterable iter X.env x = pure x := by intro _; kernel_rfl) :
    ES X Z (.Assign [.Name y py] (.ListComp elt [⟨tg, iter, ifs, 0⟩] scope pos) spos) (msSet i (mLc mi pt tt te vs)) := by
  subst hvs
  obtain ⟨wi, w1, w2⟩ := hi.pi
  exact ⟨PS.imp (ps_setLc hc hN hy hyl hsw w1 ok (fun a b c d f => (hg a b c d f).pg) (fun a b c d f => (ht a b c d f).pts) (fun a b c d f => (he a b c d f).pe) hs) fun D σ H ⟨ρ, S, D', hE, hS, hm, h1, h2, h3, h4⟩ =>
    lc_read w2 hsl hE hS hm fun v H1 ⟨x, S1, t1, r1, s1, q1⟩ => h1 _ _ ⟨_, S1, t1, (hE.mono t1).set r1, s1, q1⟩⟩
end
end
/-! ### a def by its body -/
def startM (n : Nat) (ms : List MV) : Env := ms.map some ++ List.replicate (n - ms.length) none
theorem start_rel {K : PySem.W.Frag} {H : Hp} {N : List Str} {ms : List MV} {vs : List V} (r : RMs K H ms vs) : RE K H (startM N.length ms) (L2.start N vs) := by
  refine ⟨?_, fun i m h => ?_⟩
  · unfold startM L2.start
    simp [r.length]
  · unfold startM at h
    unfold L2.start
    by_cases hi : i < ms.length
    · rw [List.getElem?_append_left (by simpa using hi), List.getElem?_map] at h
      rw [List.getElem?_append_left (by simpa [r.length] using hi), List.getElem?_map]
      cases e : ms[i]? with
      | none => rw [e] at h; cases h
      | some m' =>
        rw [e] at h
        cases h
        obtain ⟨x, e1, e2⟩ := r.get e
        exact ⟨x, by rw [e1]; rfl, e2⟩
    · rw [List.getElem?_append_right (by simpa using hi)] at h
      have := List.mem_of_getElem? h
      simp at this
/-- the reading of a def: np parameters, n names, its body -/
def defW (np n : Nat) (body : MS) : MW := fun ms S R => ms.length = np ∧ body { nx := fun _ S' => R .non S', rt := R } (startM n ms) S
section
variable {P : Program} {w : World} {K : PySem.W.Frag} {mg : Str → Option Value} {base : Heap} {Z : List Addr} {x qual : Str} {params : Arguments} {body : List Stmt} {scope : Scope} {f : Addr} {fd : FuncData}
theorem fn_sp {N ps : List Str} {k : Nat} {mb : MS} {dvs : List V} {kws : List (Str × V)} (F : FunD K x qual params body scope dvs kws f fd) (Sc : FnScope N ps scope)
    (hb : ∀ (cdv : Value) (A : Around) (outer : List PySem.Env) (s : Shared) (H : Hp) (E : XK), Room k (A.deeper (envOfC qual scope s.heap.objs.size f cdv)) → EB (cxOf CX0 P w K mg base N qual scope f cdv A outer s H E).nox Z body mb) :
    FnOk P w K mg base CX0 (k + 1) f fd ps (spM K Z ps.length (defW ps.length N.length mb)) := by
  refine F.ok Sc (fun vs H Q E h => h.1) fun cdv A outer s H vs Q E hr h => ?_
  obtain ⟨hl, ms, S, R, rm, hS, ⟨hn, hm⟩, hQ⟩ := h
  refine ⟨_, PSs.nox (hb cdv A outer s H E hr).pss, startM N.length ms, S, _, start_rel rm, hS, hm, fun σ' H' ⟨ρ', S', t, e', s', q⟩ => hQ _ _ ⟨.non, S', t, by unfold RM; rfl, s', q⟩, fun v H' q => hQ _ _ q, fun σ' H' ⟨ρ', S', t, e', s', q⟩ => False.elim q, fun σ' H' ⟨ρ', S', t, e', s', q⟩ => False.elim q⟩
theorem cal_mk {N ps : List Str} {k : Nat} {mb : MS} (F : FunD K x qual params body scope [] [] f fd) (Sc : FnScope N ps scope) (bnd : Binds K fd ps [])
    (hb : ∀ (cdv : Value) (A : Around) (outer : List PySem.Env) (s : Shared) (H : Hp) (E : XK), Room k (A.deeper (envOfC qual scope s.heap.objs.size f cdv)) → EB (cxOf CX0 P w K mg base N qual scope f cdv A outer s H E).nox Z body mb) :
    Cal P w K mg base Z f ps (k + 1) (defW ps.length N.length mb) :=
  ⟨⟨fd, fn_sp F Sc hb, F.kp, bnd⟩, fun ms S R h => h.1⟩
end
end Mv

set_option Elab.async false
set_option linter.all false
set_option maxRecDepth 100000
set_option maxHeartbeats 4000000
namespace Mv
open PySem PySem.Spec PyProof.Rows L2
theorem hu1 {A : Around} {k : Nat} (hr : Room k A) : A.units + 1 < cLine := by have := hr.un; omega
theorem hu64 {A : Around} {k : Nat} (hr : Room k A) : A.units + 64 < cLine := by have := hr.un; omega
theorem hu65 {A : Around} {k : Nat} (hr : Room k A) : A.units + 65 < cLine := by have := hr.un; omega
section
variable {X : Cx} {Z : List Addr} {pos : Pos} {x : Str}
theorem glk (h : X.env.kindOf x = some .globalImplicit) : Gl X x := h
theorem evl (i : Nat) (hN : X.N[i]? = some x := by kernel_rfl) (hv : X.env.scope.names.lookup x = some .local := by kernel_rfl) (hd : (x == ("__debug__" : Str)) = false := by kernel_rfl) (hcd : (x == ("__classdict__" : Str)) = false := by kernel_rfl) : EE X Z (.Name x pos) (mVar i) :=
  ee_var (pe_var hN (.inl hv) hd hcd)
theorem evc (i : Nat) (hN : X.N[i]? = some x := by kernel_rfl) (hv : X.env.scope.names.lookup x = some .cell := by kernel_rfl) (hd : (x == ("__debug__" : Str)) = false := by kernel_rfl) (hcd : (x == ("__classdict__" : Str)) = false := by kernel_rfl) : EE X Z (.Name x pos) (mVar i) :=
  ee_var (pe_var hN (.inr (.inl hv)) hd hcd)
/-- a module's int -/
theorem ee_gint {i : Int} (hg : Gl X x) (hm : ∃ t, X.mg x = some (.int i t)) (hd : (x == ("__debug__" : Str)) = false := by kernel_rfl) : EE X Z (.Name x pos) (mC (.int i)) := by
  obtain ⟨t, hm⟩ := hm
  exact ee_c (pe_glob (v := .int i) hg hm ⟨t, rfl⟩ hd) fun _ => by unfold RM; rfl
/-- a module's tuple -/
theorem ee_gtup {l : List MV} {a : Addr} {xs : List V} (hg : Gl X x) (hm : X.mg x = some (.ref a)) (sq : ∀ H, SqT X.K H a xs) (r : ∀ H, RMs X.K H l xs) (hd : (x == ("__debug__" : Str)) = false := by kernel_rfl) : EE X Z (.Name x pos) (mC (.tup l)) :=
  ee_c (pe_glob (v := .ref a) hg hm rfl hd) fun H => by unfold RM; exact ⟨a, xs, rfl, sq H, r H⟩
end
/-! ### the end -/
def sto0 : Sto := fun _ => none
theorem rms_ints {K : PySem.W.Frag} {H : Hp} : ∀ ns : List Int, RMs K H (ns.map MV.int) (ns.map V.int)
  | [] => RMs.nil
  | n :: ns => RMs.cons (by unfold RM; rfl) (rms_ints ns)
theorem rm_script {K : PySem.W.Frag} {H : Hp} {a : Addr} {ns : List Int} (h : SqL K H a (ns.map V.int)) (ho : Only H) : RM K H (.frz (ns.map MV.int)) (.ref a) := by
  unfold RM
  refine ⟨a, _, rfl, ?_, rms_ints ns⟩
  rcases h with (h | h) | h
  · rcases ho a with e | ⟨o, xs, e⟩ <;> (rw [h] at e; cases e)
  · exact .inl h
  · exact .inr h
theorem rs0 {K : PySem.W.Frag} {H : Hp} : RS K [] sto0 H := ⟨fun b o e => (by cases e), fun P hP => (by cases hP)⟩
end Mv

set_option Elab.async false
set_option linter.all false
set_option maxRecDepth 100000
set_option maxHeartbeats 4000000
/-! Stepping through readings: each combinator at its arguments, the continuations by name (so that a rewriting goes on at the head alone). -/
namespace Pf
open PySem PySem.Spec PyProof.Rows L2 Mv
abbrev KB := Bool → Sto → Prop
abbrev KA := List MV → Sto → Prop
/-! expressions -/
def kOpt (o : Option (Option MV)) (R : MK) (S : Sto) : Prop := match o with
  | some (some v) => R v S
  | _ => False
theorem kOpt_some {v R S} : kOpt (some (some v)) R S = R v S := rfl
def lkO : Option MO → Option (List MV)
  | some (.lst l) => some l
  | some (.rl l) => some l
  | _ => none
theorem look_ap {S a} : lookL S a = lkO (S a) := rfl
theorem lkO_l {l} : lkO (some (.lst l)) = some l := rfl
theorem lkO_r {l} : lkO (some (.rl l)) = some l := rfl
theorem var_ap {i ρ S R} : mVar i ρ S R = kOpt ρ[i]? R S := rfl
theorem c_ap {v ρ S R} : mC v ρ S R = R v S := rfl
def kOp1 (f : M2) (mb : ME) (ρ : Mv.Env) (R : MK) : MK := fun x S => mb ρ S fun y S2 => f x y S2 R
def kOp2 (f : M2) (x : MV) (R : MK) : MK := fun y S => f x y S R
theorem op_ap {f ma mb ρ S R} : mOp f ma mb ρ S R = ma ρ S (kOp1 f mb ρ R) := rfl
theorem op1_ap {f mb ρ R x S} : kOp1 f mb ρ R x S = mb ρ S (kOp2 f x R) := rfl
theorem op2_ap {f x R y S} : kOp2 f x R y S = f x y S R := rfl
def kB (R : KB) : MK := asB R
theorem tst_ap {m ρ S R} : mTst m ρ S R = m ρ S (kB R) := rfl
theorem kB_ap {R b S} : kB R (.bl b) S = R b S := rfl
theorem asB_ap {R b S} : asB R (.bl b) S = R b S := rfl
def kTo (o : Option Bool) (R : KB) (S : Sto) : Prop := match o with
  | some b => R b S
  | none => False
theorem kTo_some {b R S} : kTo (some b) R S = R b S := rfl
def kTru (R : KB) : MK := fun v S => kTo (truB S v) R S
theorem tru_ap {m ρ S R} : mTru m ρ S R = m ρ S (kTru R) := rfl
theorem kTru_ap {R v S} : kTru R v S = kTo (truB S v) R S := rfl
theorem truB_bl {S b} : truB S (.bl b) = some b := rfl
theorem truB_non {S} : truB S .non = some false := rfl
theorem truB_int {S i} : truB S (.int i) = some (i != 0) := rfl
theorem truB_tup {S l} : truB S (.tup l) = some (!l.isEmpty) := rfl
def kAndB (mb : ME) (ρ : Mv.Env) (R : MK) (x : MV) : KB := fun b S => match b with
  | true => mb ρ S R
  | false => R x S
def kAndV (mb : ME) (ρ : Mv.Env) (R : MK) : MK := fun x S => kTo (truB S x) (kAndB mb ρ R x) S
theorem andV_ap {ma mb ρ S R} : mAndV ma mb ρ S R = ma ρ S (kAndV mb ρ R) := by
  unfold mAndV
  congr 1
  funext x S1
  unfold kAndV
  cases truB S1 x with
  | none => rfl
  | some b => cases b <;> rfl
theorem kAndV_ap {mb ρ R x S} : kAndV mb ρ R x S = kTo (truB S x) (kAndB mb ρ R x) S := rfl
theorem kAndB_t {mb ρ R x S} : kAndB mb ρ R x true S = mb ρ S R := rfl
theorem kAndB_f {mb ρ R x S} : kAndB mb ρ R x false S = R x S := rfl
def kOrB (mb : ME) (ρ : Mv.Env) (R : MK) (x : MV) : KB := fun b S => match b with
  | true => R x S
  | false => mb ρ S R
def kOrV (mb : ME) (ρ : Mv.Env) (R : MK) : MK := fun x S => kTo (truB S x) (kOrB mb ρ R x) S
theorem orV_ap {ma mb ρ S R} : mOrV ma mb ρ S R = ma ρ S (kOrV mb ρ R) := by
  unfold mOrV
  congr 1
  funext x S1
  unfold kOrV
  cases truB S1 x with
  | none => rfl
  | some b => cases b <;> rfl
theorem kOrV_ap {mb ρ R x S} : kOrV mb ρ R x S = kTo (truB S x) (kOrB mb ρ R x) S := rfl
theorem kOrB_t {mb ρ R x S} : kOrB mb ρ R x true S = R x S := rfl
theorem kOrB_f {mb ρ R x S} : kOrB mb ρ R x false S = mb ρ S R := rfl
def kNotV (R : MK) : MK := fun x S => kTo (truB S x) (fun b S => R (.bl (!b)) S) S
def kNotB (R : MK) : KB := fun b S => R (.bl (!b)) S
theorem notV_ap {ma ρ S R} : mNotV ma ρ S R = ma ρ S (kNotV R) := by
  unfold mNotV
  congr 1
theorem kNotV_ap {R x S} : kNotV R x S = kTo (truB S x) (kNotB R) S := rfl
theorem kNotB_ap {R b S} : kNotB R b S = R (.bl (!b)) S := rfl
def kAnd (u : MT) (ρ : Mv.Env) (R : KB) : KB := fun b S => match b with
  | true => u ρ S R
  | false => R false S
theorem and_ap {t u ρ S R} : mAnd t u ρ S R = t ρ S (kAnd u ρ R) := rfl
theorem kAnd_t {u ρ R S} : kAnd u ρ R true S = u ρ S R := rfl
theorem kAnd_f {u ρ R S} : kAnd u ρ R false S = R false S := rfl
def kOr (u : MT) (ρ : Mv.Env) (R : KB) : KB := fun b S => match b with
  | true => R true S
  | false => u ρ S R
theorem or_ap {t u ρ S R} : mOr t u ρ S R = t ρ S (kOr u ρ R) := rfl
theorem kOr_t {u ρ R S} : kOr u ρ R true S = R true S := rfl
theorem kOr_f {u ρ R S} : kOr u ρ R false S = u ρ S R := rfl
def kNot (R : KB) : KB := fun b S => R (!b) S
theorem not_ap {t ρ S R} : mNot t ρ S R = t ρ S (kNot R) := rfl
theorem kNot_ap {R b S} : kNot R b S = R (!b) S := rfl
def kIf (a b : ME) (ρ : Mv.Env) (R : MK) : KB := fun c S => match c with
  | true => a ρ S R
  | false => b ρ S R
theorem if_ap {t a b ρ S R} : mIf t a b ρ S R = t ρ S (kIf a b ρ R) := rfl
theorem kIf_t {a b ρ R S} : kIf a b ρ R true S = a ρ S R := rfl
theorem kIf_f {a b ρ R S} : kIf a b ρ R false S = b ρ S R := rfl
def kUn (f : MV → Sto → MK → Prop) (R : MK) : MK := fun x S => f x S R
theorem un_ap {f ma ρ S R} : mUn f ma ρ S R = ma ρ S (kUn f R) := rfl
theorem kUn_ap {f R x S} : kUn f R x S = f x S R := rfl
theorem neg_ap {i S R} : negV (.int i) S R = R (.int (-i)) S := rfl
def kCh1 (f g : M2) (mb mc : ME) (ρ : Mv.Env) (R : MK) : MK := fun x S1 => mb ρ S1 fun y S2 => f x y S2 (asB fun b S3 => match b with
  | true => mc ρ S3 fun z S4 => g y z S4 R
  | false => R (.bl false) S3)
def kCh2 (f g : M2) (mc : ME) (ρ : Mv.Env) (R : MK) (x : MV) : MK := fun y S2 => f x y S2 (asB fun b S3 => match b with
  | true => mc ρ S3 fun z S4 => g y z S4 R
  | false => R (.bl false) S3)
def kCh3 (g : M2) (mc : ME) (ρ : Mv.Env) (R : MK) (y : MV) : KB := fun b S3 => match b with
  | true => mc ρ S3 fun z S4 => g y z S4 R
  | false => R (.bl false) S3
theorem chain_ap {f g ma mb mc ρ S R} : mChain f g ma mb mc ρ S R = ma ρ S (kCh1 f g mb mc ρ R) := rfl
theorem kCh1_ap {f g mb mc ρ R x S} : kCh1 f g mb mc ρ R x S = mb ρ S (kCh2 f g mc ρ R x) := rfl
theorem kCh2_ap {f g mc ρ R x y S} : kCh2 f g mc ρ R x y S = f x y S (kB (kCh3 g mc ρ R y)) := rfl
theorem kCh3_t {g mc ρ R y S} : kCh3 g mc ρ R y true S = mc ρ S (kOp2 g y R) := rfl
theorem kCh3_f {g mc ρ R y S} : kCh3 g mc ρ R y false S = R (.bl false) S := rfl
/-! arguments -/
theorem maNil_ap {ρ S R} : maNil ρ S R = R [] S := rfl
def kArg (r : MA) (ρ : Mv.Env) (R : KA) : MK := fun x S1 => r ρ S1 fun xs S2 => R (x :: xs) S2
def kArg2 (x : MV) (R : KA) : KA := fun xs S => R (x :: xs) S
theorem maCons_ap {m r ρ S R} : maCons m r ρ S R = m ρ S (kArg r ρ R) := rfl
theorem kArg_ap {r ρ R x S} : kArg r ρ R x S = r ρ S (kArg2 x R) := rfl
theorem kArg2_ap {x R xs S} : kArg2 x R xs S = R (x :: xs) S := rfl
def kTup (R : MK) : KA := fun l S1 => l.length ≤ sizeLine ∧ R (.tup l) S1
theorem tup_ap {ms ρ S R} : mTup ms ρ S R = ms ρ S (kTup R) := rfl
theorem kTup_ap {R l S} (h : l.length ≤ 100) : kTup R l S = R (.tup l) S := by
  have : l.length ≤ sizeLine := Nat.le_trans h (by decide)
  unfold kTup
  exact propext ⟨fun q => q.2, fun q => ⟨this, q⟩⟩
def kLst (R : MK) : KA := fun l S1 => l.length ≤ sizeLine ∧ newL l S1 R
theorem lst_ap {ms ρ S R} : mLst ms ρ S R = ms ρ S (kLst R) := rfl
theorem kLst_ap {R l S} (h : l.length ≤ 100) : kLst R l S = newL l S R := by
  have : l.length ≤ sizeLine := Nat.le_trans h (by decide)
  unfold kLst
  exact propext ⟨fun q => q.2, fun q => ⟨this, q⟩⟩
/-! calls -/
def kCall (W : MW) (R : MK) : KA := fun vs S1 => W vs S1 R
theorem call_ap {W ms ρ S R} : mCall W ms ρ S R = ms ρ S (kCall W R) := rfl
theorem kCall_ap {W R vs S} : kCall W R vs S = W vs S R := rfl
def kCB (f : MF) (R : MK) : KA := fun vs S1 => f vs S1 R
theorem cb_ap {f ms ρ S R} : mCB f ms ρ S R = ms ρ S (kCB f R) := rfl
theorem kCB_ap {f R vs S} : kCB f R vs S = f vs S R := rfl
def kIsi (T : String) (R : MK) : MK := fun x S1 => match tyN S1 x with
  | some n => R (.bl (tyB T n)) S1
  | none => False
def kIsi2 (o : Option String) (T : String) (R : MK) (S : Sto) : Prop := match o with
  | some n => R (.bl (tyB T n)) S
  | none => False
theorem isi_ap {T m ρ S R} : mIsi T m ρ S R = m ρ S (kIsi T R) := rfl
theorem kIsi_ap {T R x S} : kIsi T R x S = kIsi2 (tyN S x) T R S := rfl
theorem kIsi2_some {n T R S} : kIsi2 (some n) T R S = R (.bl (tyB T n)) S := rfl
theorem tyN_int {S i} : tyN S (.int i) = some "int" := rfl
theorem tyN_bl {S i} : tyN S (.bl i) = some "bool" := rfl
theorem tyN_non {S} : tyN S .non = some "NoneType" := rfl
theorem tyN_str {S i} : tyN S (.str i) = some "str" := rfl
theorem tyN_tup {S l} : tyN S (.tup l) = some "tuple" := rfl
theorem tyB_ii : tyB "int" "int" = true := by decide
theorem tyB_ib : tyB "int" "bool" = true := by decide
theorem tyB_bi : tyB "bool" "int" = false := by decide
theorem tyB_bb : tyB "bool" "bool" = true := by decide
theorem tyB_tt : tyB "tuple" "tuple" = true := by decide
def kBM (f : MB) (ms : MA) (ρ : Mv.Env) (R : MK) : MK := fun x S1 => isL S1 x ∧ ms ρ S1 fun vs S2 => f x vs S2 R
def kBM2 (f : MB) (x : MV) (R : MK) : KA := fun vs S => f x vs S R
theorem bm_ap {f mo ms ρ S R} : mBM f mo ms ρ S R = mo ρ S (kBM f ms ρ R) := rfl
theorem kBM_ap {f ms ρ R x S} : kBM f ms ρ R x S = (isL S x ∧ ms ρ S (kBM2 f x R)) := rfl
theorem kBM2_ap {f x R vs S} : kBM2 f x R vs S = f x vs S R := rfl
/-! statements -/
theorem msNil_ap {D ρ S} : msNil D ρ S = D.nx ρ S := rfl
theorem seq_ap {a b D ρ S} : msSeq a b D ρ S = a ⟨b D, D.rt, D.bk, D.ct⟩ ρ S := rfl
theorem nx_mk {a b c d} : MD.nx ⟨a, b, c, d⟩ = a := rfl
theorem rt_mk {a b c d} : MD.rt ⟨a, b, c, d⟩ = b := rfl
theorem bk_mk {a b c d} : MD.bk ⟨a, b, c, d⟩ = c := rfl
theorem ct_mk {a b c d} : MD.ct ⟨a, b, c, d⟩ = d := rfl
theorem ret_ap {m D ρ S} : msRet m D ρ S = m ρ S D.rt := rfl
theorem retN_ap {D ρ S} : msRetN D ρ S = D.rt .non S := rfl
theorem brk_ap {D ρ S} : msBrk D ρ S = D.bk ρ S := rfl
theorem cont_ap {D ρ S} : msCont D ρ S = D.ct ρ S := rfl
def kSet (i : Nat) (ρ : Mv.Env) (k : Mv.Env → Sto → Prop) : MK := fun v S => k (ρ.set i (some v)) S
theorem set_ap {i m D ρ S} : msSet i m D ρ S = m ρ S (kSet i ρ D.nx) := rfl
theorem kSet_ap {i ρ k v S} : kSet i ρ k v S = k (ρ.set i (some v)) S := rfl
def kDrop (ρ : Mv.Env) (k : Mv.Env → Sto → Prop) : MK := fun _ S => k ρ S
theorem expr_ap {m D ρ S} : msExpr m D ρ S = m ρ S (kDrop ρ D.nx) := rfl
theorem kDrop_ap {ρ k v S} : kDrop ρ k v S = k ρ S := rfl
def kIfS (a b : MS) (D : MD) (ρ : Mv.Env) : KB := fun c S => match c with
  | true => a D ρ S
  | false => b D ρ S
theorem ifS_ap {t a b D ρ S} : msIf t a b D ρ S = t ρ S (kIfS a b D ρ) := rfl
theorem kIfS_t {a b D ρ S} : kIfS a b D ρ true S = a D ρ S := rfl
theorem kIfS_f {a b D ρ S} : kIfS a b D ρ false S = b D ρ S := rfl
def kSub1 (mo mi : ME) (ρ : Mv.Env) (k : Mv.Env → Sto → Prop) : MK := fun v S1 => mo ρ S1 fun o S2 => mi ρ S2 fun i S3 => subPut o i v S3 fun S4 => k ρ S4
def kSub2 (mi : ME) (ρ : Mv.Env) (k : Mv.Env → Sto → Prop) (v : MV) : MK := fun o S2 => mi ρ S2 fun i S3 => subPut o i v S3 fun S4 => k ρ S4
def kSub3 (ρ : Mv.Env) (k : Mv.Env → Sto → Prop) (v o : MV) : MK := fun i S3 => subPut o i v S3 fun S4 => k ρ S4
theorem sub_ap {mo mi mv D ρ S} : msSub mo mi mv D ρ S = mv ρ S (kSub1 mo mi ρ D.nx) := rfl
theorem kSub1_ap {mo mi ρ k v S} : kSub1 mo mi ρ k v S = mo ρ S (kSub2 mi ρ k v) := rfl
theorem kSub2_ap {mi ρ k v o S} : kSub2 mi ρ k v o S = mi ρ S (kSub3 ρ k v o) := rfl
theorem kSub3_ap {ρ k v o i S} : kSub3 ρ k v o i S = subPut o i v S (k ρ) := rfl
theorem defW_ap {np n body ms S R} (h : ms.length = np) : defW np n body ms S R = body ⟨fun _ S' => R .non S', R, fun _ _ => False, fun _ _ => False⟩ (startM n ms) S := by
  unfold defW
  exact propext ⟨fun q => q.2, fun q => ⟨h, q⟩⟩
/-! values -/
theorem add_ii {i j S R} : addV (.int i) (.int j) S R = R (.int (i + j)) S := rfl
theorem add_tt {l k S R} (h : l.length + k.length ≤ 100) : addV (.tup l) (.tup k) S R = R (.tup (l ++ k)) S := by
  have : l.length + k.length ≤ sizeLine := Nat.le_trans h (by decide)
  show (_ ∧ _) = _
  exact propext ⟨fun q => q.2, fun q => ⟨this, q⟩⟩
theorem sub_ii {i j S R} : subV (.int i) (.int j) S R = R (.int (i - j)) S := rfl
theorem mul_ii {i j S R} : mulV (.int i) (.int j) S R = (CMul i j ∧ R (.int (i * j)) S) := rfl
theorem mul_lt {i j S R} (h : -(2 ^ 64) < i) (h2 : i < 2 ^ 64) : mulV (.int i) (.int j) S R = R (.int (i * j)) S := by
  show (_ ∧ _) = _
  exact propext ⟨fun q => q.2, fun q => ⟨.inl ⟨h, h2⟩, q⟩⟩
theorem mul_rt {i j S R} (h : -(2 ^ 64) < j) (h2 : j < 2 ^ 64) : mulV (.int i) (.int j) S R = R (.int (i * j)) S := by
  show (_ ∧ _) = _
  exact propext ⟨fun q => q.2, fun q => ⟨.inr ⟨h, h2⟩, q⟩⟩
theorem mod_ii {i j S R} (h : 0 < j) : modV (.int i) (.int j) S R = R (.int (i % j)) S := by
  show (_ ∧ _) = _
  exact propext ⟨fun q => q.2, fun q => ⟨h, q⟩⟩
theorem fdiv_ii {i j S R} (h : 0 < j) (h2 : j < 1073741824) : fdivV (.int i) (.int j) S R = R (.int (i / j)) S := by
  show (_ ∧ _) = _
  exact propext ⟨fun q => q.2, fun q => ⟨⟨h, h2⟩, q⟩⟩
theorem lt_ii {i j S R} : ltV (.int i) (.int j) S R = R (.bl (decide (i < j))) S := rfl
theorem le_ii {i j S R} : leV (.int i) (.int j) S R = R (.bl (decide (i ≤ j))) S := rfl
theorem gt_ii {i j S R} : gtV (.int i) (.int j) S R = R (.bl (decide (j < i))) S := rfl
theorem ge_ii {i j S R} : geV (.int i) (.int j) S R = R (.bl (decide (j ≤ i))) S := rfl
def kEq (f : Bool → Bool) (d e : Option PyData) (R : MK) (S : Sto) : Prop := match d, e with
  | some d, some e => R (.bl (f (PyData.eqv d e))) S
  | _, _ => False
def bId (b : Bool) : Bool := b
theorem bId_ap {b} : bId b = b := rfl
theorem eq_ap {x y S R} : eqV' x y S R = kEq bId (dat S x) (dat S y) R S := rfl
theorem ne_ap {x y S R} : neV' x y S R = kEq not (dat S x) (dat S y) R S := rfl
theorem kEq_some {f d e R S} : kEq f (some d) (some e) R S = R (.bl (f (PyData.eqv d e))) S := rfl
theorem dat_int {S i} : dat S (.int i) = some (.int i) := rfl
theorem dat_bl {S i} : dat S (.bl i) = some (.bool i) := rfl
theorem dat_non {S} : dat S .non = some .none := rfl
theorem dat_str {S s} (h : PyData.strOk (so s) = true) : dat S (.str s) = some (.str (so s)) := by
  show (if _ then _ else _) = _
  rw [if_pos h]
theorem dat_tup {S l} (h : fits l 59 = true) : dat S (.tup l) = some (.tuple (pds l)) := by
  show (if _ then _ else _) = _
  rw [if_pos h]
theorem eqv_ii {i j : Int} : PyData.eqv (.int i) (.int j) = decide (i = j) := by
  show (i == j) = _
  by_cases h : i = j <;> simp [h]
theorem eqv_ss {s t : String} : PyData.eqv (.str (so s)) (.str (so t)) = decide (s = t) := by
  show (so s == so t) = _
  rw [so_beq]
  by_cases h : s = t <;> simp [h]
theorem eqv_bb {i j : Bool} : PyData.eqv (.bool i) (.bool j) = (i == j) := rfl
def kO (o : Option MV) (R : MK) (S : Sto) : Prop := match o with
  | some v => R v S
  | none => False
theorem kO_some {v R S} : kO (some v) R S = R v S := rfl
theorem ix_t {l i S R} : ixV (.tup l) (.int i) S R = kO (atI l i) R S := by
  show (match atI l i with | some v => R v S | none => False) = _
  unfold kO; cases atI l i <;> rfl
def kL (o : Option (List MV)) (f : List MV → Prop) : Prop := match o with
  | some l => f l
  | none => False
theorem kL_some {l f} : kL (some l) f = f l := rfl
theorem at_0 {x : MV} {l : List MV} : atI (x :: l) 0 = some x := atI_nat (j := 0) rfl
theorem at_1 {x y : MV} {l : List MV} : atI (x :: y :: l) 1 = some y := atI_nat (j := 1) rfl
theorem at_2 {x y z : MV} {l : List MV} : atI (x :: y :: z :: l) 2 = some z := atI_nat (j := 2) rfl
theorem at_3 {x y z u : MV} {l : List MV} : atI (x :: y :: z :: u :: l) 3 = some u := atI_nat (j := 3) rfl
theorem at_4 {x y z u v : MV} {l : List MV} : atI (x :: y :: z :: u :: v :: l) 4 = some v := atI_nat (j := 4) rfl
theorem at_5 {x y z u v w : MV} {l : List MV} : atI (x :: y :: z :: u :: v :: w :: l) 5 = some w := atI_nat (j := 5) rfl
theorem at_nat {l : List MV} {j : Nat} {v : MV} (h : l[j]? = some v) : atI l (j : Int) = some v := atI_nat h
theorem len_t {l S R} : lenV [.tup l] S R = R (.int l.length) S := rfl
theorem list_t {l S R} : listV [.tup l] S R = newL l S R := rfl
theorem list_f {l S R} : listV [.frz l] S R = newL l S R := rfl
theorem tuple_t {l S R} : tupleV [.tup l] S R = R (.tup l) S := rfl
theorem int_i {i S R} : intV [.int i] S R = R (.int i) S := rfl
theorem int_b {b S R} : intV [.bl b] S R = R (.int (if b then 1 else 0)) S := rfl
/-! lists of fixed length, the store -/
theorem l_set0 {α : Type} {a v : α} {l : List α} : (a :: l).set 0 v = v :: l := rfl
theorem l_setS {α : Type} {a v : α} {l : List α} {n : Nat} : (a :: l).set (n + 1) v = a :: l.set n v := rfl
theorem l_get0 {α : Type} {a : α} {l : List α} : (a :: l)[0]? = some a := rfl
theorem l_getS {α : Type} {a : α} {l : List α} {n : Nat} : (a :: l)[n + 1]? = l[n]? := by simp
theorem l_len0 {α : Type} : ([] : List α).length = 0 := rfl
theorem l_lenS {α : Type} {a : α} {l : List α} : (a :: l).length = l.length + 1 := rfl
theorem l_app0 {α : Type} {l : List α} : [] ++ l = l := rfl
theorem l_appS {α : Type} {a : α} {l k : List α} : (a :: l) ++ k = a :: (l ++ k) := rfl
theorem l_map0 {α β : Type} {f : α → β} : [].map f = [] := rfl
theorem l_mapS {α β : Type} {f : α → β} {a : α} {l : List α} : (a :: l).map f = f a :: l.map f := rfl
theorem l_len_map {α β : Type} {f : α → β} {l : List α} : (l.map f).length = l.length := List.length_map _
theorem l_rep0 {α : Type} {a : α} : List.replicate 0 a = [] := rfl
theorem l_repS {α : Type} {a : α} {n : Nat} : List.replicate (n + 1) a = a :: List.replicate n a := rfl
theorem start_ap {n ms} : startM n ms = ms.map some ++ List.replicate (n - ms.length) none := rfl
theorem wipe_nil {ρ} : wipeM ρ [] = ρ := rfl
theorem wipe_cons {ρ v vs} : wipeM ρ (v :: vs) = (wipeM ρ vs).set v none := rfl
theorem supd_same {S a o} : supd S a o a = some o := by unfold supd; rw [if_pos rfl]
theorem supd_ne {S a o b} (h : b ≠ a) : supd S a o b = S b := by unfold supd; rw [if_neg h]
theorem supd_supd {S a o o'} : supd (supd S a o) a o' = supd S a o' := by
  funext b
  unfold supd
  by_cases h : b = a <;> simp [h]
theorem o_map_some {α β : Type} {f : α → β} {a : α} : (some a).map f = some (f a) := rfl
theorem ixN_nat {n j : Nat} (h : j < n) : ixN n (j : Int) = some j := by
  unfold ixN
  rw [if_pos (by omega), if_pos (by omega)]
  simp
theorem ixN_0 {n : Nat} : ixN (n + 1) 0 = some 0 := ixN_nat (n := n + 1) (j := 0) (by omega)
theorem ixN_1 {n : Nat} : ixN (n + 2) 1 = some 1 := ixN_nat (n := n + 2) (j := 1) (by omega)
theorem ixN_2 {n : Nat} : ixN (n + 3) 2 = some 2 := ixN_nat (n := n + 3) (j := 2) (by omega)
theorem ixN_3 {n : Nat} : ixN (n + 4) 3 = some 3 := ixN_nat (n := n + 4) (j := 3) (by omega)
theorem look_l {S : Sto} {a l} (h : S a = some (.lst l)) : lookL S a = some l := by unfold lookL; rw [h]
/-! loops -/
def kFor (pt : Pat) (body : MS) (D : MD) (ρ : Mv.Env) : Items → Sto → Prop := fun I S => forL I.keep pt body D I.vs ρ S
theorem for_ap {mi pt body D ρ S} : msFor mi pt body D ρ S = mi ρ S (kFor pt body D ρ) := rfl
theorem kFor_ap {pt body D ρ vs k S} : kFor pt body D ρ ⟨vs, k⟩ S = forL k pt body D vs ρ S := rfl
def kIter (R : Items → Sto → Prop) : MK := fun x S1 => match x with
  | .tup l => R ⟨l, []⟩ S1
  | .ref a => (match lookL S1 a with
    | some l => R ⟨l, [(a, l)]⟩ S1
    | none => False)
  | _ => False
theorem iter_ap {m ρ S R} : mIter m ρ S R = m ρ S (kIter R) := rfl
theorem kIter_t {R l S} : kIter R (.tup l) S = R ⟨l, []⟩ S := rfl
def kRng1 (R : Items → Sto → Prop) : KA := fun vs S1 => match vs with
  | [.int j] => (-(2 ^ 62) ≤ j ∧ j < 2 ^ 62) ∧ R ⟨rngM 0 j.toNat, []⟩ S1
  | _ => False
theorem rng1_ap {ms ρ S R} : mRng1 ms ρ S R = ms ρ S (kRng1 R) := rfl
theorem kRng1_ap {R S} {j : Int} (h0 : 0 ≤ j) (h1 : j < 2 ^ 62) : kRng1 R [.int j] S = R ⟨rngM 0 j.toNat, []⟩ S := by
  show (_ ∧ _) = _
  exact propext ⟨fun q => q.2, fun q => ⟨⟨by omega, h1⟩, q⟩⟩
def kRng2 (R : Items → Sto → Prop) : KA := fun vs S1 => match vs with
  | [.int i, .int j] => (-(2 ^ 62) ≤ i ∧ i < 2 ^ 62 ∧ -(2 ^ 62) ≤ j ∧ j < 2 ^ 62) ∧ R ⟨rngM i (j - i).toNat, []⟩ S1
  | _ => False
theorem rng2_ap {ms ρ S R} : mRng2 ms ρ S R = ms ρ S (kRng2 R) := rfl
theorem kRng2_ap {R S} {i j : Int} (h0 : -(2 ^ 62) ≤ i) (h1 : i < 2 ^ 62) (h2 : -(2 ^ 62) ≤ j) (h3 : j < 2 ^ 62) : kRng2 R [.int i, .int j] S = R ⟨rngM i (j - i).toNat, []⟩ S := by
  show (_ ∧ _) = _
  exact propext ⟨fun q => q.2, fun q => ⟨⟨h0, h1, h2, h3⟩, q⟩⟩
def kRev (R : Items → Sto → Prop) : MK := fun x S1 => match x with
  | .tup l => R ⟨l.reverse, []⟩ S1
  | .ref a => (match lookL S1 a with
    | some l => R ⟨l.reverse, [(a, l)]⟩ S1
    | none => False)
  | _ => False
theorem rev_ap {m ρ S R} : mReversed m ρ S R = m ρ S (kRev R) := rfl
theorem kRev_t {R l S} : kRev R (.tup l) S = R ⟨l.reverse, []⟩ S := rfl
def kNew (R : MK) : KA := fun l S => newL l S R
theorem kNew_ap {R l S} : kNew R l S = newL l S R := rfl
def kLc (pt : Pat) (tt : MT) (te : ME) (ρ : Mv.Env) (R : MK) : Items → Sto → Prop := fun I S => lcL I.keep pt tt te ρ (kNew R) I.vs [] S
theorem lc_ap {mi pt tt te vs ρ S R} : mLc mi pt tt te vs ρ S R = mi ρ S (kLc pt tt te (wipeM ρ vs) R) := rfl
theorem kLc_ap {pt tt te ρ R vs k S} : kLc pt tt te ρ R ⟨vs, k⟩ S = lcL k pt tt te ρ (kNew R) vs [] S := rfl
theorem yes_ap {ρ S R} : mYes ρ S R = R true S := rfl
theorem bind_nm {i v S ρ k} : bindP (.nm i) v S ρ k = k (ρ.set i (some v)) := by unfold bindP; rfl
theorem bind_tp {ps l S ρ k} : bindP (.tp ps) (.tup l) S ρ k = Mv.bindL ps l S ρ k := by unfold bindP; rfl
theorem bindL_nil {S ρ k} : Mv.bindL [] [] S ρ k = k ρ := by
  unfold Mv.bindL
  exact propext ⟨fun q => q.2, fun q => ⟨rfl, q⟩⟩
def kBL (ps : List Pat) (r : List MV) (S : Sto) (k : Mv.Env → Prop) : Mv.Env → Prop := fun ρ' => Mv.bindL ps r S ρ' k
theorem bindL_cons {p ps v r S ρ k} : Mv.bindL (p :: ps) (v :: r) S ρ k = bindP p v S ρ (kBL ps r S k) := by
  conv => lhs; unfold Mv.bindL
  rfl
theorem kBL_ap {ps r S k ρ} : kBL ps r S k ρ = Mv.bindL ps r S ρ k := rfl
def kPat (p : Pat) (ρ : Mv.Env) (k : Mv.Env → Sto → Prop) : MK := fun v S => bindP p v S ρ fun ρ' => k ρ' S
theorem pat_ap {p m D ρ S} : msPat p m D ρ S = m ρ S (kPat p ρ D.nx) := rfl
theorem kPat_ap {p ρ k v S} : kPat p ρ k v S = bindP p v S ρ fun ρ' => k ρ' S := rfl
def kAug1 (i : Nat) (f : M2) (x : MV) (ρ : Mv.Env) (k : Mv.Env → Sto → Prop) : MK := fun y S => f x y S fun z S2 => k (ρ.set i (some z)) S2
def kAugO (o : Option (Option MV)) (i : Nat) (f : M2) (m : ME) (ρ : Mv.Env) (k : Mv.Env → Sto → Prop) (S : Sto) : Prop := match o with
  | some (some x) => m ρ S (kAug1 i f x ρ k)
  | _ => False
theorem aug_ap {i f m D ρ S} : msAug i f m D ρ S = kAugO ρ[i]? i f m ρ D.nx S := rfl
theorem kAugO_ap {x i f m ρ k S} : kAugO (some (some x)) i f m ρ k S = m ρ S (kAug1 i f x ρ k) := rfl
theorem kAug1_ap {i f x ρ k y S} : kAug1 i f x ρ k y S = f x y S (kSet i ρ k) := rfl
theorem iadd_ii {i j S R} : iaddV (.int i) (.int j) S R = R (.int (i + j)) S := rfl
theorem keep_nil {S} : keepOk [] S := fun p h => by cases h
theorem keep_one {S : Sto} {a l} (h : lookL S a = some l) : keepOk [(a, l)] S := fun p hp => by
  cases hp with
  | head => exact h
  | tail _ h => cases h
/-- a loop's rule -/
theorem for_rule {k : List (Addr × List MV)} {pt : Pat} {body : MS} {D : MD} (I : Nat → Mv.Env → Sto → Prop) {vs : List MV} (hk : ∀ i ρ S, I i ρ S → keepOk k S)
    (step : ∀ i v ρ S (D' : MD), vs[i]? = some v → I i ρ S → (∀ ρ' S', I (i + 1) ρ' S' → D'.nx ρ' S') → (∀ ρ' S', I (i + 1) ρ' S' → D'.ct ρ' S') → D'.rt = D.rt → D'.bk = D.nx → bindP pt v S ρ fun ρ' => body D' ρ' S)
    (done : ∀ ρ S, I vs.length ρ S → D.nx ρ S) {ρ : Mv.Env} {S : Sto} (h0 : I 0 ρ S) : forL k pt body D vs ρ S := by
  suffices h : ∀ (n i : Nat) (ρ : Mv.Env) (S : Sto), n = vs.length - i → i ≤ vs.length → I i ρ S → forL k pt body D (vs.drop i) ρ S from by
    simpa using h _ 0 ρ S rfl (Nat.zero_le _) h0
  intro n
  induction n with
  | zero =>
    intro i ρ S hn hi h
    have e : i = vs.length := by omega
    subst e
    rw [List.drop_length]
    unfold forL
    exact ⟨hk _ _ _ h, done _ _ h⟩
  | succ n ih =>
    intro i ρ S hn hi h
    have hl : i < vs.length := by omega
    rw [List.drop_eq_getElem_cons hl]
    unfold forL
    exact ⟨hk _ _ _ h, step i _ ρ S { D with nx := forL k pt body D (vs.drop (i + 1)), ct := forL k pt body D (vs.drop (i + 1)), bk := D.nx } (by simp [hl]) h (fun ρ' S' h' => ih (i + 1) ρ' S' (by omega) (by omega) h') (fun ρ' S' h' => ih (i + 1) ρ' S' (by omega) (by omega) h') rfl rfl⟩
/-- a comprehension's rule -/
theorem lc_rule {k : List (Addr × List MV)} {pt : Pat} {tt : MT} {te : ME} {ρ : Mv.Env} {Q : List MV → Sto → Prop} (I : Nat → List MV → Sto → Prop) {vs : List MV} (hk : ∀ i acc S, I i acc S → keepOk k S) (hn : vs.length < sizeLine) (hl : ∀ i acc S, I i acc S → acc.length ≤ i)
    (step : ∀ i v acc S, vs[i]? = some v → I i acc S → ∀ (R : MK) (N : Sto → Prop), (∀ y S', I (i + 1) (acc ++ [y]) S' → R y S') → (∀ S', I (i + 1) acc S' → N S') → bindP pt v S ρ fun ρ' => tt ρ' S fun b S1 => match b with
      | true => te ρ' S1 R
      | false => N S1)
    (done : ∀ acc S, I vs.length acc S → Q acc S) {acc : List MV} {S : Sto} (h0 : I 0 acc S) : lcL k pt tt te ρ Q vs acc S := by
  suffices h : ∀ (n i : Nat) (acc : List MV) (S : Sto), n = vs.length - i → i ≤ vs.length → I i acc S → lcL k pt tt te ρ Q (vs.drop i) acc S from by
    simpa using h _ 0 acc S rfl (Nat.zero_le _) h0
  intro n
  induction n with
  | zero =>
    intro i acc S hn hi h
    have e : i = vs.length := by omega
    subst e
    rw [List.drop_length]
    unfold lcL
    exact ⟨hk _ _ _ h, done _ _ h⟩
  | succ n ih =>
    intro i acc S hn' hi h
    have hli : i < vs.length := by omega
    rw [List.drop_eq_getElem_cons hli]
    unfold lcL
    refine ⟨hk _ _ _ h, step i _ acc S (by simp [hli]) h (fun y S2 => acc.length < sizeLine ∧ lcL k pt tt te ρ Q (vs.drop (i + 1)) (acc ++ [y]) S2) (fun S1 => lcL k pt tt te ρ Q (vs.drop (i + 1)) acc S1) (fun y S' h' => ⟨?_, ih (i + 1) _ S' (by omega) (by omega) h'⟩) (fun S' h' => ih (i + 1) acc S' (by omega) (by omega) h')⟩
    have := hl _ _ _ h
    omega
theorem rng_get {lo : Int} {n i : Nat} {v : MV} (h : (rngM lo n)[i]? = some v) : i < n ∧ v = .int (lo + (i : Int)) := by
  have hi : i < n := by
    have := (List.getElem?_eq_some_iff.mp h).1
    simpa [rngM] using this
  refine ⟨hi, ?_⟩
  have : (rngM lo n)[i]? = some (.int (lo + (i : Int))) := by simp [rngM, hi]
  rw [this] at h
  exact (Option.some.inj h).symm
theorem rng_len {lo : Int} {n : Nat} : (rngM lo n).length = n := by simp [rngM]

def kIsL (o : Option (List MV)) : Prop := match o with
  | some _ => True
  | none => False
theorem isL_r {S a} : isL S (.ref a) = kIsL (lookL S a) := by
  unfold isL kIsL
  cases h : lookL S a <;> simp [h]
theorem kIsL_some {l} : kIsL (some l) = True := rfl
def kIx (o : Option (List MV)) (i : Int) (R : MK) (S : Sto) : Prop := match o with
  | some l => kO (atI l i) R S
  | none => False
theorem ix_r {a i S R} : ixV (.ref a) (.int i) S R = kIx (lookL S a) i R S := by
  show (match lookL S a with | some l => (match atI l i with | some v => R v S | none => False) | none => False) = _
  unfold kIx kO
  cases lookL S a <;> rfl
theorem kIx_some {l i R S} : kIx (some l) i R S = kO (atI l i) R S := rfl
def kLen (o : Option (List MV)) (R : MK) (S : Sto) : Prop := match o with
  | some l => R (.int l.length) S
  | none => False
theorem len_r {a S R} : lenV [.ref a] S R = kLen (lookL S a) R S := rfl
theorem kLen_some {l R S} : kLen (some l) R S = R (.int l.length) S := rfl
def kList (o : Option (List MV)) (R : MK) (S : Sto) : Prop := match o with
  | some l => newL l S R
  | none => False
theorem list_r {a S R} : listV [.ref a] S R = kList (lookL S a) R S := rfl
theorem kList_some {l R S} : kList (some l) R S = newL l S R := rfl
def kTuple (o : Option (List MV)) (R : MK) (S : Sto) : Prop := match o with
  | some l => R (.tup l) S
  | none => False
theorem tuple_r {a S R} : tupleV [.ref a] S R = kTuple (lookL S a) R S := rfl
theorem kTuple_some {l R S} : kTuple (some l) R S = R (.tup l) S := rfl
def kPut (o : Option MO) (a : Addr) (i : Int) (v : MV) (S : Sto) (k : Sto → Prop) : Prop := match o with
  | some (.lst l) => (match ixN l.length i with
    | some j => k (supd S a (.lst (l.set j v)))
    | none => False)
  | _ => False
def kPutO (o : Option Nat) (a : Addr) (l : List MV) (v : MV) (S : Sto) (k : Sto → Prop) : Prop := match o with
  | some j => k (supd S a (.lst (l.set j v)))
  | none => False
theorem put_r {a i v S k} : subPut (.ref a) (.int i) v S k = kPut (S a) a i v S k := by
  unfold subPut kPut
  dsimp only
  cases S a with
  | none => rfl
  | some o => cases o <;> rfl
theorem kPut_l {l a i v S k} : kPut (some (.lst l)) a i v S k = kPutO (ixN l.length i) a l v S k := rfl
theorem kPutO_some {j a l v S k} : kPutO (some j) a l v S k = k (supd S a (.lst (l.set j v))) := rfl
def kApp (o : Option MO) (a : Addr) (v : MV) (S : Sto) (R : MK) : Prop := match o with
  | some (.lst l) => l.length < sizeLine ∧ R .non (supd S a (.lst (l ++ [v])))
  | _ => False
theorem append_r {a v S R} : appendV (.ref a) [v] S R = kApp (S a) a v S R := by
  unfold appendV kApp
  rfl
theorem kApp_l {l a v S R} (h : l.length < 1000000) : kApp (some (.lst l)) a v S R = R .non (supd S a (.lst (l ++ [v]))) := by
  have : l.length < sizeLine := Nat.lt_of_lt_of_le h (by decide)
  show (_ ∧ _) = _
  exact propext ⟨fun q => q.2, fun q => ⟨this, q⟩⟩
def kPop0 (o : Option MO) (a : Addr) (S : Sto) (R : MK) : Prop := match o with
  | some (.lst (v :: l)) => R v (supd S a (.lst l))
  | _ => False
theorem pop0_r {a S R} : popV (.ref a) [.int 0] S R = kPop0 (S a) a S R := by
  unfold popV kPop0
  rfl
theorem kPop0_l {v l a S R} : kPop0 (some (.lst (v :: l))) a S R = R v (supd S a (.lst l)) := rfl
def kIterO (o : Option (List MV)) (a : Addr) (f : List MV → List MV) (R : Items → Sto → Prop) (S : Sto) : Prop := match o with
  | some l => R ⟨f l, [(a, l)]⟩ S
  | none => False
theorem kIter_r {R a S} : kIter R (.ref a) S = kIterO (lookL S a) a id R S := rfl
theorem kRev_r {R a S} : kRev R (.ref a) S = kIterO (lookL S a) a List.reverse R S := rfl
theorem kIterO_some {l a f R S} : kIterO (some l) a f R S = R ⟨f l, [(a, l)]⟩ S := rfl
theorem id_ap {l : List MV} : id l = l := rfl
def kDatL (o : Option (List MV)) : Option PyData := match o with
  | some l => if fits l 59 then some (.list (pds l)) else none
  | none => none
theorem dat_r {S a} : dat S (.ref a) = kDatL (lookL S a) := by
  show datL S a = _
  unfold datL kDatL
  cases lookL S a <;> rfl
theorem kDatL_some {l} (h : fits l 59 = true) : kDatL (some l) = some (.list (pds l)) := by
  show (if _ then _ else _) = _
  rw [if_pos h]
def kBindO (o : Option (List MV)) (ps : List Pat) (S : Sto) (ρ : Mv.Env) (k : Mv.Env → Prop) : Prop := match o with
  | some l => Mv.bindL ps l S ρ k
  | none => False
theorem bind_tpr {ps a ρ k S} : bindP (.tp ps) (.ref a) S ρ k = kBindO (lookL S a) ps S ρ k := by
  conv => lhs; unfold bindP
  rfl
theorem kBindO_some {l ps S ρ k} : kBindO (some l) ps S ρ k = Mv.bindL ps l S ρ k := rfl
theorem eqvL_self {l : List MV} (h : fits l 59 = true) : PyData.eqv (.list (pds l)) (.list (pds l)) = true := PySem.SeqAt.eqv_refl _ (by
  simp only [PyData.canLay0]
  exact (fits_lay l 59 h).1)
theorem eqvT_self {l : List MV} (h : fits l 59 = true) : PyData.eqv (.tuple (pds l)) (.tuple (pds l)) = true := PySem.SeqAt.eqv_refl _ (by
  simp only [PyData.canLay0]
  exact (fits_lay l 59 h).1)
theorem fits_ints : ∀ (l : List Int) (n : Nat), fits (l.map MV.int) n = true
  | [], n => by unfold fits; rfl
  | a :: l, n => by
    rw [List.map_cons]
    unfold fits
    rw [fits_ints l n]
    simp [fit]
end Pf

set_option Elab.async false
set_option linter.all false
set_option maxRecDepth 100000
set_option maxHeartbeats 4000000
/-! Stepping, part two: dicts with text keys, identity, fields, slices, calls of methods and makers. -/
namespace Pg
open PySem PySem.Spec PyProof.Rows L2 Mv Pf
def kDisp (ks : List String) (R : MK) : KA := fun vs S1 => newD (mergeD [] (ks.zip vs)) S1 R
theorem disp_ap {ks ms ρ S R} : mDisp ks ms ρ S R = ms ρ S (kDisp ks R) := rfl
theorem any_ne {l : List (String × MV)} {k : String} (h : k ∉ l.map (·.1)) : (l.any fun kv => kv.1 == k) = false := by
  rw [List.any_eq_false]
  intro x hx e
  exact h (List.mem_map.mpr ⟨x, hx, eq_of_beq e⟩)
theorem merge_dis : ∀ (l acc : List (String × MV)), ((acc ++ l).map (·.1)).Nodup → mergeD acc l = acc ++ l
  | [], acc, _ => by simp [mergeD]
  | (k, v) :: l, acc, h => by
    have e : putD acc k v = acc ++ [(k, v)] := by
      unfold putD
      rw [any_ne, if_neg (by simp)]
      intro hk
      rw [List.map_append, List.nodup_append] at h
      exact h.2.2 k hk k (by simp) rfl
    have : mergeD acc ((k, v) :: l) = mergeD (acc ++ [(k, v)]) l := by
      unfold mergeD
      rw [List.foldl_cons, e]
    rw [this, merge_dis l (acc ++ [(k, v)]) (by simpa using h), List.append_assoc]
    rfl
theorem kDisp_ap {ks R vs S} (h : ks.Nodup) (hl : ks.length = vs.length) : kDisp ks R vs S = newD (ks.zip vs) S R := by
  unfold kDisp
  rw [merge_dis _ [] (by rw [List.nil_append, List.map_fst_zip (by omega)]; exact h)]
  rfl
theorem dictN_ap {ρ S R} : mDictN ρ S R = newD [] S R := rfl
theorem zip_nil {α β : Type} {l : List β} : ([] : List α).zip l = [] := rfl
theorem zip_cons {α β : Type} {a : α} {b : β} {l : List α} {k : List β} : (a :: l).zip (b :: k) = (a, b) :: l.zip k := rfl
def kDg (o : Option MO) (s : String) (R : MK) (S : Sto) : Prop := match o with
  | some (.dct kvs) => kO (kvs.lookup s) R S
  | _ => False
theorem dget_ap {a s S R} : dgetV (.ref a) (.str s) S R = kDg (S a) s R S := by
  unfold dgetV kDg kO
  try dsimp only
  all_goals
    cases S a with
    | none => rfl
    | some o => cases o <;> rfl
theorem kDg_d {kvs s R S} : kDg (some (.dct kvs)) s R S = kO (kvs.lookup s) R S := rfl
theorem look_if {s k : String} {v : MV} {l : List (String × MV)} : ((k, v) :: l).lookup s = if s = k then some v else l.lookup s := by
  by_cases h : s = k
  · subst h; simp
  · rw [List.lookup_cons, if_neg h]
    have : (s == k) = false := by simpa using h
    rw [this]
theorem is_bb {a b S R} : isV (.bl a) (.bl b) S R = R (.bl (decide (a = b))) S := rfl
theorem is_nn {S R} : isV .non .non S R = R (.bl true) S := rfl
theorem is_in {i S R} : isV (.int i) .non S R = R (.bl false) S := rfl
theorem is_sn {i S R} : isV (.str i) .non S R = R (.bl false) S := rfl
theorem is_tn {i S R} : isV (.tup i) .non S R = R (.bl false) S := rfl
theorem is_rn {i S R} : isV (.ref i) .non S R = R (.bl false) S := rfl
theorem isnt_bb {a b S R} : isnotV (.bl a) (.bl b) S R = R (.bl (!decide (a = b))) S := rfl
theorem isnt_nn {S R} : isnotV .non .non S R = R (.bl false) S := rfl
theorem isnt_in {i S R} : isnotV (.int i) .non S R = R (.bl true) S := rfl
theorem isnt_sn {i S R} : isnotV (.str i) .non S R = R (.bl true) S := rfl
theorem isnt_tn {i S R} : isnotV (.tup i) .non S R = R (.bl true) S := rfl
theorem isnt_rn {i S R} : isnotV (.ref i) .non S R = R (.bl true) S := rfl
def kFld (T : String → String → Bool) (f : String) (R : MK) : MK := fun x S1 => match x with
  | .ref a => (match S1 a with
    | some (.ins c fs) => T c f = true ∧ (match fs.lookup f with
      | some v => R v S1
      | none => False)
    | _ => False)
  | _ => False
def kFldO (o : Option MO) (T : String → String → Bool) (f : String) (R : MK) (S : Sto) : Prop := match o with
  | some (.ins c fs) => T c f = true ∧ kO (fs.lookup f) R S
  | _ => False
theorem fld_ap {T m f ρ S R} : mFld T m f ρ S R = m ρ S (kFld T f R) := rfl
theorem kFld_ap {T f R a S} : kFld T f R (.ref a) S = kFldO (S a) T f R S := by
  unfold kFld kFldO kO
  try dsimp only
  all_goals
    cases S a with
    | none => rfl
    | some o => cases o <;> rfl
theorem kFldO_i {c fs T f R S} : kFldO (some (.ins c fs)) T f R S = (T c f = true ∧ kO (fs.lookup f) R S) := rfl
def kMeth (c m : String) (W : MW) (ms : MA) (ρ : Mv.Env) (R : MK) : MK := fun x S1 => match x with
  | .ref a => (match S1 a with
    | some (.ins c' fs) => c' = c ∧ fs.lookup m = none ∧ ms ρ S1 fun vs S2 => W (.ref a :: vs) S2 R
    | _ => False)
  | _ => False
def kMethA (W : MW) (a : Addr) (R : MK) : KA := fun vs S2 => W (.ref a :: vs) S2 R
def kMethO (o : Option MO) (c m : String) (W : MW) (a : Addr) (ms : MA) (ρ : Mv.Env) (R : MK) (S : Sto) : Prop := match o with
  | some (.ins c' fs) => c' = c ∧ fs.lookup m = none ∧ ms ρ S (kMethA W a R)
  | _ => False
theorem meth_ap {c m W mo ms ρ S R} : mMeth c m W mo ms ρ S R = mo ρ S (kMeth c m W ms ρ R) := rfl
theorem kMeth_ap {c m W ms ρ R a S} : kMeth c m W ms ρ R (.ref a) S = kMethO (S a) c m W a ms ρ R S := rfl
theorem kMethO_i {c fs m W a ms ρ R S} : kMethO (some (.ins c fs)) c m W a ms ρ R S = (fs.lookup m = none ∧ ms ρ S (kMethA W a R)) := by
  show (_ ∧ _) = _
  exact propext ⟨fun q => q.2, fun q => ⟨rfl, q⟩⟩
theorem kMethA_ap {W a R vs S} : kMethA W a R vs S = W (.ref a :: vs) S R := rfl
def kMk (c : String) (W : MW) (R : MK) : KA := fun vs S1 => ∀ p, S1 p = none → W (.ref p :: vs) (supd S1 p (.ins c [])) fun v S2 => v = .non ∧ R (.ref p) S2
theorem make_ap {c W ms ρ S R} : mMake c W ms ρ S R = ms ρ S (kMk c W R) := rfl
/-! slices -/
def kPart (R : Option Int → Sto → Prop) : MK := fun x S1 => match x with
  | .int i => R (some i) S1
  | _ => False
def kSl1 (lo hi : mPart) (ρ : Mv.Env) (R : MK) : MK := fun x S1 => lo ρ S1 fun l S2 => hi ρ S2 fun u S3 => slV x l u S3 R
def kSl2 (x : MV) (hi : mPart) (ρ : Mv.Env) (R : MK) : Option Int → Sto → Prop := fun l S2 => hi ρ S2 fun u S3 => slV x l u S3 R
def kSl3 (x : MV) (l : Option Int) (R : MK) : Option Int → Sto → Prop := fun u S3 => slV x l u S3 R
theorem sl_ap {m lo hi ρ S R} : mSl m lo hi ρ S R = m ρ S (kSl1 lo hi ρ R) := rfl
theorem kSl1_ap {lo hi ρ R x S} : kSl1 lo hi ρ R x S = lo ρ S (kSl2 x hi ρ R) := rfl
theorem kSl2_ap {x hi ρ R l S} : kSl2 x hi ρ R l S = hi ρ S (kSl3 x l R) := rfl
theorem kSl3_ap {x l R u S} : kSl3 x l R u S = slV x l u S R := rfl
theorem pNo_ap {ρ S R} : pNo ρ S R = R none S := rfl
theorem pYes_ap {m ρ S R} : pYes m ρ S R = m ρ S (kPart R) := rfl
theorem kPart_ap {i R S} : kPart R (.int i) S = R (some i) S := rfl
def kRvL (R : MK) : MK := fun x S1 => match x with
  | .ref a => (match lookL S1 a with
    | some l => newL l.reverse S1 R
    | none => False)
  | _ => False
def kRvO (o : Option (List MV)) (R : MK) (S : Sto) : Prop := match o with
  | some l => newL l.reverse S R
  | none => False
theorem revL_ap {m ρ S R} : mRev m ρ S R = m ρ S (kRvL R) := rfl
theorem kRvL_ap {R a S} : kRvL R (.ref a) S = kRvO (lookL S a) R S := rfl
theorem kRvO_some {l R S} : kRvO (some l) R S = newL l.reverse S R := rfl
end Pg

set_option Elab.async false
set_option linter.all false
set_option maxRecDepth 100000
set_option maxHeartbeats 300000
namespace Rw
open PySem PySem.Spec PyProof.Rows L2 Mv
def atL : List (String × List String) := []
def atT (c f : String) : Bool := match atL.lookup c with
  | some l => l.contains f
  | none => false
def B__law_next : MS := (msSeq (msIf (mTst (mOp ltV (mOp ixV (mVar 0) (mC (.int 1))) (mVar 1))) (msIf (mTst (mOp gtV (mCB lenV (maCons (mOp ixV (mVar 0) (mC (.int 0))) maNil)) (mC (.int 0)))) (msSeq (msSet 3 (mBM popV (mOp ixV (mVar 0) (mC (.int 0))) (maCons (mC (.int 0)) maNil)))
  (msSeq (msSub (mVar 0) (mC (.int 1)) (mIf (mTst (mOp geV (mVar 3) (mC (.int 0)))) (mOp mulV (mC (.int 2)) (mVar 3)) (mOp subV (mOp mulV (mUn negV (mC (.int 2))) (mVar 3)) (mC (.int 1)))))
  (msSub (mVar 0) (mC (.int 2)) (mOp modV (mCB intV (maCons (mOp addV (mOp mulV (mOp ixV (mVar 0) (mC (.int 2))) (mC (.int 69621))) (mOp ixV (mVar 0) (mC (.int 1)))) maNil)) (mC (.int 2147483647)))))) (msSeq (msSub (mVar 0) (mC (.int 2)) (mOp modV (mCB intV (maCons (mOp addV (mOp mulV (mOp ixV (mVar 0) (mC (.int 2))) (mC (.int 48271))) (mC (.int 11))) maNil)) (mC (.int 2147483647))))
  (msSub (mVar 0) (mC (.int 1)) (mOp modV (mCB intV (maCons (mOp mulV (mOp ixV (mVar 0) (mC (.int 2))) (mOp ixV (mVar 0) (mC (.int 2)))) maNil)) (mC (.int 1000003)))))) msNil)
  (msSeq (msSet 2 (mOp modV (mCB intV (maCons (mOp ixV (mVar 0) (mC (.int 1))) maNil)) (mVar 1)))
  (msSeq (msSub (mVar 0) (mC (.int 1)) (mOp fdivV (mOp ixV (mVar 0) (mC (.int 1))) (mVar 1)))
  (msRet (mVar 2)))))
def W__law_next : MW := defW 2 4 B__law_next
def B__law_any : MS := (msSeq (msSet 3 (mCall W__law_next (maCons (mVar 0) (maCons (mC (.int 5)) maNil))))
  (msSeq (msIf (mTst (mOp eqV' (mVar 3) (mC (.int 0)))) (msRet (mTup (maCons (mC (.str "arg")) maNil))) msNil)
  (msSeq (msIf (mTst (mOp eqV' (mVar 3) (mC (.int 1)))) (msRet (mTup (maCons (mC (.str "got")) maNil))) msNil)
  (msSeq (msIf (mTst (mOp eqV' (mVar 3) (mC (.int 2)))) (msRet (mTup (maCons (mC (.str "field")) (maCons (mCall W__law_next (maCons (mVar 0) (maCons (mCB lenV (maCons (mVar 1) maNil)) maNil))) maNil)))) msNil)
  (msSeq (msIf (mAnd (mTst (mOp eqV' (mVar 3) (mC (.int 3)))) (mTst (mOp gtV (mCB lenV (maCons (mVar 2) maNil)) (mC (.int 0))))) (msRet (mTup (maCons (mC (.str "switch")) (maCons (mCall W__law_next (maCons (mVar 0) (maCons (mCB lenV (maCons (mVar 2) maNil)) maNil))) maNil)))) msNil)
  (msRet (mTup (maCons (mC (.str "value")) (maCons (mCall W__law_next (maCons (mVar 0) (maCons (mC (.int 4)) maNil))) maNil)))))))))
def W__law_any : MW := defW 3 4 B__law_any
def B__law_value : MS := (msSeq (msIf (mTst (mOp eqV' (mOp ixV (mVar 0) (mC (.int 0))) (mC (.str "value")))) (msRet (mOp ixV (mVar 0) (mC (.int 1)))) msNil)
  (msSeq (msIf (mTst (mOp eqV' (mOp ixV (mVar 0) (mC (.int 0))) (mC (.str "field")))) (msRet (mOp ixV (mVar 1) (mOp ixV (mVar 0) (mC (.int 1))))) msNil)
  (msSeq (msIf (mTst (mOp eqV' (mOp ixV (mVar 0) (mC (.int 0))) (mC (.str "switch")))) (msRet (mOp ixV (mVar 2) (mOp ixV (mVar 0) (mC (.int 1))))) msNil)
  (msRet (mIf (mTst (mOp eqV' (mOp ixV (mVar 0) (mC (.int 0))) (mC (.str "arg")))) (mVar 3) (mVar 4))))))
def W__law_value : MW := defW 5 5 B__law_value
def B__law_holds : MS := (msSeq (msIf (mTst (mOp isV (mVar 0) (mC .non))) (msRet (mC (.bl true))) msNil)
  (msSeq (msSet 5 (mCall W__law_value (maCons (mOp ixV (mVar 0) (mC (.int 0))) (maCons (mVar 1) (maCons (mVar 2) (maCons (mVar 3) (maCons (mVar 4) maNil)))))))
  (msSeq (msSet 6 (mCall W__law_value (maCons (mOp ixV (mVar 0) (mC (.int 2))) (maCons (mVar 1) (maCons (mVar 2) (maCons (mVar 3) (maCons (mVar 4) maNil)))))))
  (msRet (mOp dgetV (mDisp ["==", "!=", "<"] (maCons (mOp eqV' (mVar 5) (mVar 6)) (maCons (mNotV (mOp eqV' (mVar 5) (mVar 6))) (maCons (mOp ltV (mVar 5) (mVar 6)) maNil)))) (mOp ixV (mVar 0) (mC (.int 1))))))))
def W__law_holds : MW := defW 5 7 B__law_holds
def B_value_of : MS := (msSeq (msSet 5 (mOp ixV (mVar 0) (mC (.int 0))))
  (msSeq (msIf (mTst (mOp eqV' (mVar 5) (mC (.str "value")))) (msRet (mOp ixV (mVar 0) (mC (.int 1)))) msNil)
  (msSeq (msIf (mTst (mOp eqV' (mVar 5) (mC (.str "arg")))) (msRet (mVar 3)) msNil)
  (msSeq (msIf (mTst (mOp eqV' (mVar 5) (mC (.str "got")))) (msRet (mVar 4)) msNil)
  (msSeq (msIf (mTst (mOp eqV' (mVar 5) (mC (.str "field")))) (msRet (mOp ixV (mVar 1) (mOp ixV (mVar 0) (mC (.int 1))))) msNil)
  (msRet (mOp ixV (mVar 2) (mOp ixV (mVar 0) (mC (.int 1))))))))))
def W_value_of : MW := defW 5 6 B_value_of
def B_holds : MS := (msSeq (msIf (mTst (mOp isV (mVar 0) (mC .non))) (msRet (mC (.bl true))) msNil)
  (msSeq (msSet 5 (mCall W_value_of (maCons (mOp ixV (mVar 0) (mC (.int 0))) (maCons (mVar 1) (maCons (mVar 2) (maCons (mVar 3) (maCons (mVar 4) maNil)))))))
  (msSeq (msSet 6 (mCall W_value_of (maCons (mOp ixV (mVar 0) (mC (.int 2))) (maCons (mVar 1) (maCons (mVar 2) (maCons (mVar 3) (maCons (mVar 4) maNil)))))))
  (msSeq (msIf (mTst (mOp eqV' (mOp ixV (mVar 0) (mC (.int 1))) (mC (.str "==")))) (msRet (mOp eqV' (mVar 5) (mVar 6))) msNil)
  (msSeq (msIf (mTst (mOp eqV' (mOp ixV (mVar 0) (mC (.int 1))) (mC (.str "!=")))) (msRet (mOp neV' (mVar 5) (mVar 6))) msNil)
  (msRet (mOp ltV (mVar 5) (mVar 6))))))))
def W_holds : MW := defW 5 7 B_holds
def B_law : MS := (msSeq (msSet 1 (mLst (maCons (mCB listV (maCons (mVar 0) maNil)) (maCons (mC (.int 0)) (maCons (mC (.int 1)) maNil)))))
  (msSeq (msFor (mRng1 (maCons (mOp addV (mC (.int 1)) (mCall W__law_next (maCons (mVar 1) (maCons (mC (.int 20)) maNil)))) maNil)) (.nm 2) (msSeq (msSet 3 (mLc (mRng1 (maCons (mOp addV (mC (.int 1)) (mCall W__law_next (maCons (mVar 1) (maCons (mC (.int 3)) maNil)))) maNil)) (.nm 12) mYes (mCall W__law_next (maCons (mVar 1) (maCons (mC (.int 4)) maNil))) [12]))
  (msSeq (msSet 4 (mCB tupleV (maCons (mLc (mRng1 (maCons (mCall W__law_next (maCons (mVar 1) (maCons (mC (.int 3)) maNil))) maNil)) (.nm 12) mYes (mCall W__law_next (maCons (mVar 1) (maCons (mC (.int 2)) maNil))) [12]) maNil)))
  (msSeq (msSet 5 (mCall W__law_next (maCons (mVar 1) (maCons (mC (.int 4)) maNil))))
  (msSeq (msSet 6 (mOp subV (mCall W__law_next (maCons (mVar 1) (maCons (mC (.int 5)) maNil))) (mC (.int 1))))
  (msSeq (msSet 7 (mCall W__law_any (maCons (mVar 1) (maCons (mVar 3) (maCons (mVar 4) maNil)))))
  (msSeq (msSet 8 (mCall W__law_any (maCons (mVar 1) (maCons (mVar 3) (maCons (mVar 4) maNil)))))
  (msSeq (msIf (mTst (mOp eqV' (mCall W__law_next (maCons (mVar 1) (maCons (mC (.int 3)) maNil))) (mC (.int 0)))) (msSet 8 (mVar 7)) msNil)
  (msSeq (msFor (mIter (mLst (maCons (mC (.str "==")) (maCons (mC (.str "!=")) (maCons (mC (.str "<")) maNil))))) (.nm 9) (msSeq (msSet 10 (mCB listV (maCons (mVar 3) maNil)))
  (msSeq (msSet 11 (mCall W_holds (maCons (mTup (maCons (mVar 7) (maCons (mVar 9) (maCons (mVar 8) maNil)))) (maCons (mVar 10) (maCons (mVar 4) (maCons (mVar 5) (maCons (mVar 6) maNil)))))))
  (msSeq (msIf (mOr (mNot (mTru (mIsi "bool" (mVar 11)))) (mTst (mOp neV' (mVar 11) (mCall W__law_holds (maCons (mTup (maCons (mVar 7) (maCons (mVar 9) (maCons (mVar 8) maNil)))) (maCons (mVar 3) (maCons (mVar 4) (maCons (mVar 5) (maCons (mVar 6) maNil))))))))) (msRet (mC (.bl false))) msNil)
  (msIf (mTst (mOp neV' (mVar 10) (mVar 3))) (msRet (mC (.bl false))) msNil)))))
  (msIf (mTst (mOp isnotV (mCall W_holds (maCons (mC .non) (maCons (mVar 3) (maCons (mVar 4) (maCons (mVar 5) (maCons (mVar 6) maNil)))))) (mC (.bl true)))) (msRet (mC (.bl false))) msNil))))))))))
  (msRet (mC (.bl true)))))
def W_law : MW := defW 1 13 B_law
end Rw

set_option Elab.async false
set_option linter.all false
set_option maxRecDepth 100000
set_option maxHeartbeats 4000000
namespace Nx
open PySem PySem.Spec PyProof.Rows L2 Mv Pf
/-! The drawing state: two objects over the rest. -/
structure GS where
  ns : List Int
  a : Int
  b : Int
def GS.ok (q : GS) : Prop := 0 ≤ q.a ∧ 0 ≤ q.b ∧ q.b < 2147483647
theorem GS.ok0 {ns : List Int} : GS.ok ⟨ns, 0, 1⟩ := by
  refine ⟨?_, ?_, ?_⟩ <;> dsimp only <;> omega
def G (st l : Addr) (S : Sto) (q : GS) : Sto := fun x => if x = st then some (.lst [.ref l, .int q.a, .int q.b]) else if x = l then some (.lst (q.ns.map .int)) else S x
variable {st l : Addr} {S : Sto} {q : GS}
theorem G_st : G st l S q st = some (.lst [.ref l, .int q.a, .int q.b]) := by unfold G; rw [if_pos rfl]
theorem G_l (h : l ≠ st) : G st l S q l = some (.lst (q.ns.map .int)) := by unfold G; rw [if_neg h, if_pos rfl]
theorem G_ne {p : Addr} (h1 : p ≠ st) (h2 : p ≠ l) : G st l S q p = S p := by unfold G; rw [if_neg h1, if_neg h2]
theorem G_free {p : Addr} (h : G st l S q p = none) (hl : l ≠ st) : p ≠ st ∧ p ≠ l ∧ S p = none := by
  have h1 : p ≠ st := fun e => by subst e; rw [G_st] at h; cases h
  have h2 : p ≠ l := fun e => by subst e; rw [G_l hl] at h; cases h
  exact ⟨h1, h2, by rw [G_ne h1 h2] at h; exact h⟩
theorem G_put {p : Addr} {o : MO} (h1 : p ≠ st) (h2 : p ≠ l) : supd (G st l S q) p o = G st l (supd S p o) q := by
  funext x
  unfold supd G
  by_cases e : x = p
  · subst e; simp [h1, h2]
  · simp [e]
theorem G_setst {a b : Int} : supd (G st l S q) st (.lst [.ref l, .int a, .int b]) = G st l S ⟨q.ns, a, b⟩ := by
  funext x
  unfold supd G
  by_cases e : x = st <;> simp [e]
theorem G_setl {ns : List Int} (h : l ≠ st) : supd (G st l S q) l (.lst (ns.map .int)) = G st l S ⟨ns, q.a, q.b⟩ := by
  funext x
  unfold supd G
  by_cases e : x = l
  · subst e; simp [h]
  · simp [e]
theorem G_start {ns : List Int} {p r : Addr} (h : p ≠ r) (a b : Int) : supd (supd S p (.lst (ns.map .int))) r (.lst [.ref p, .int a, .int b]) = G r p S ⟨ns, a, b⟩ := by
  funext x
  unfold supd G
  by_cases e : x = r <;> simp [e]
theorem nx_spec {many : Int} {R : MK} (hl : l ≠ st) (hq : q.ok) (hm : 0 < many) (hm2 : many < 1073741824) (h : ∀ (v : Int) (q' : GS), q'.ok → 0 ≤ v → v < many → R (.int v) (G st l S q')) : Rw.W__law_next [.ref st, .int many] (G st l S q) R := by
  have fin : ∀ (ns : List Int) (a b : Int), 0 ≤ a → 0 ≤ b → b < 2147483647 → R (.int (a % many)) (G st l S ⟨ns, a / many, b⟩) := fun ns a b h0 h1 h2 =>
    h _ _ ⟨Int.ediv_nonneg h0 (Int.le_of_lt hm), h1, h2⟩ (Int.emod_nonneg _ (by omega)) (Int.emod_lt_of_pos _ hm)
  obtain ⟨ns, a, b⟩ := q
  obtain ⟨h0, h1, h2⟩ := hq
  dsimp only at h0 h1 h2
  unfold Rw.W__law_next Rw.B__law_next
  have e0 : (List.map MV.int ns).length = ns.length := List.length_map _
  simp (implicitDefEqProofs := false) (disch := first | assumption | omega | (simp only [Pf.l_lenS, Pf.l_len0] <;> omega)) only [Pf.kOpt_some, Pf.look_ap, Pf.lkO_l, Pf.lkO_r, Pf.var_ap, Pf.c_ap, Pf.op_ap, Pf.op1_ap, Pf.op2_ap, Pf.tst_ap, Pf.kB_ap, Pf.asB_ap, Pf.kTo_some, Pf.tru_ap, Pf.kTru_ap, Pf.truB_bl, Pf.truB_non, Pf.truB_int, Pf.truB_tup, Pf.andV_ap, Pf.kAndV_ap, Pf.kAndB_t, Pf.kAndB_f, Pf.orV_ap, Pf.kOrV_ap, Pf.kOrB_t, Pf.kOrB_f, Pf.notV_ap, Pf.kNotV_ap, Pf.kNotB_ap, Pf.and_ap, Pf.kAnd_t, Pf.kAnd_f, Pf.or_ap, Pf.kOr_t, Pf.kOr_f, Pf.not_ap, Pf.kNot_ap, Pf.if_ap, Pf.kIf_t, Pf.kIf_f, Pf.un_ap, Pf.kUn_ap, Pf.neg_ap, Pf.chain_ap, Pf.kCh1_ap, Pf.kCh2_ap, Pf.kCh3_t, Pf.kCh3_f, Pf.maNil_ap, Pf.maCons_ap, Pf.kArg_ap, Pf.kArg2_ap, Pf.tup_ap, Pf.kTup_ap, Pf.lst_ap, Pf.kLst_ap, Pf.call_ap, Pf.kCall_ap, Pf.cb_ap, Pf.kCB_ap, Pf.isi_ap, Pf.kIsi_ap, Pf.kIsi2_some, Pf.tyN_int, Pf.tyN_bl, Pf.tyN_non, Pf.tyN_str, Pf.tyN_tup, Pf.tyB_ii, Pf.tyB_ib, Pf.tyB_bi, Pf.tyB_bb, Pf.tyB_tt, Pf.bm_ap, Pf.kBM_ap, Pf.kBM2_ap, Pf.msNil_ap, Pf.seq_ap, Pf.nx_mk, Pf.rt_mk, Pf.bk_mk, Pf.ct_mk, Pf.ret_ap, Pf.retN_ap, Pf.brk_ap, Pf.cont_ap, Pf.set_ap, Pf.kSet_ap, Pf.expr_ap, Pf.kDrop_ap, Pf.ifS_ap, Pf.kIfS_t, Pf.kIfS_f, Pf.sub_ap, Pf.kSub1_ap, Pf.kSub2_ap, Pf.kSub3_ap, Pf.defW_ap, Pf.add_ii, Pf.add_tt, Pf.sub_ii, Pf.mul_lt, Pf.mul_rt, Pf.mod_ii, Pf.fdiv_ii, Pf.lt_ii, Pf.le_ii, Pf.gt_ii, Pf.ge_ii, Pf.bId_ap, Pf.eq_ap, Pf.ne_ap, Pf.kEq_some, Pf.dat_int, Pf.dat_bl, Pf.dat_non, Pf.dat_str, Pf.dat_tup, Pf.eqv_ii, Pf.eqv_ss, Pf.eqv_bb, Pf.kO_some, Pf.ix_t, Pf.kL_some, Pf.at_0, Pf.at_1, Pf.at_2, Pf.at_3, Pf.at_4, Pf.at_5, Pf.len_t, Pf.list_t, Pf.list_f, Pf.tuple_t, Pf.int_i, Pf.int_b, Pf.l_set0, Pf.l_setS, Pf.l_get0, Pf.l_getS, Pf.l_len0, Pf.l_lenS, Pf.l_app0, Pf.l_appS, Pf.l_map0, Pf.l_mapS, Pf.l_len_map, Pf.l_rep0, Pf.l_repS, Pf.start_ap, Pf.wipe_nil, Pf.wipe_cons, Pf.supd_same, Pf.supd_ne, Pf.supd_supd, Pf.o_map_some, Pf.ixN_0, Pf.ixN_1, Pf.ixN_2, Pf.ixN_3, Pf.for_ap, Pf.kFor_ap, Pf.iter_ap, Pf.kIter_t, Pf.rng1_ap, Pf.kRng1_ap, Pf.rng2_ap, Pf.kRng2_ap, Pf.rev_ap, Pf.kRev_t, Pf.kNew_ap, Pf.lc_ap, Pf.kLc_ap, Pf.yes_ap, Pf.bind_nm, Pf.bind_tp, Pf.bindL_nil, Pf.bindL_cons, Pf.kBL_ap, Pf.pat_ap, Pf.kPat_ap, Pf.aug_ap, Pf.kAugO_ap, Pf.kAug1_ap, Pf.iadd_ii, Pf.rng_len, Pf.isL_r, Pf.kIsL_some, Pf.ix_r, Pf.kIx_some, Pf.len_r, Pf.kLen_some, Pf.list_r, Pf.kList_some, Pf.tuple_r, Pf.kTuple_some, Pf.put_r, Pf.kPut_l, Pf.kPutO_some, Pf.append_r, Pf.kApp_l, Pf.pop0_r, Pf.kPop0_l, Pf.kIter_r, Pf.kRev_r, Pf.kIterO_some, Pf.id_ap, Pf.dat_r, Pf.kDatL_some, Pf.bind_tpr, Pf.kBindO_some, Pg.disp_ap, Pg.dictN_ap, Pg.zip_nil, Pg.zip_cons, Pg.dget_ap, Pg.kDg_d, Pg.look_if, Pg.is_bb, Pg.is_nn, Pg.is_in, Pg.is_sn, Pg.is_tn, Pg.is_rn, Pg.isnt_bb, Pg.isnt_nn, Pg.isnt_in, Pg.isnt_sn, Pg.isnt_tn, Pg.isnt_rn, Pg.fld_ap, Pg.kFld_ap, Pg.kFldO_i, Pg.meth_ap, Pg.kMeth_ap, Pg.kMethO_i, Pg.kMethA_ap, Pg.make_ap, Pg.sl_ap, Pg.kSl1_ap, Pg.kSl2_ap, Pg.kSl3_ap, Pg.pNo_ap, Pg.pYes_ap, Pg.kPart_ap, Pg.revL_ap, Pg.kRvL_ap, Pg.kRvO_some, String.reduceEq, Int.reduceEq, if_true, if_false, Nat.reduceEqDiff, decide_not, beq_self_eq_true, true_and, and_true, decide_true, decide_false, Int.reduceLT, Int.reduceLE, Int.reduceNeg, Int.reduceAdd, Int.reduceSub, Int.reduceMul, Int.reducePow, Nat.reduceAdd, Nat.reduceSub, Nat.reduceLT, Nat.reduceLeDiff, Int.reduceToNat, Bool.not_true, Bool.not_false, G_st, G_l hl, G_setst]
  by_cases ha : a < many
  · cases ns with
    | nil =>
      have y0 := Int.emod_nonneg (b * 48271 + 11) (b := 2147483647) (by decide)
      have y1 := Int.emod_lt_of_pos (b * 48271 + 11) (b := 2147483647) (by decide)
      have y2 := Int.emod_nonneg ((b * 48271 + 11) % 2147483647 * ((b * 48271 + 11) % 2147483647)) (b := 1000003) (by decide)
      simp (implicitDefEqProofs := false) (disch := first | assumption | omega | (simp only [Pf.l_lenS, Pf.l_len0] <;> omega)) only [Pf.kOpt_some, Pf.look_ap, Pf.lkO_l, Pf.lkO_r, Pf.var_ap, Pf.c_ap, Pf.op_ap, Pf.op1_ap, Pf.op2_ap, Pf.tst_ap, Pf.kB_ap, Pf.asB_ap, Pf.kTo_some, Pf.tru_ap, Pf.kTru_ap, Pf.truB_bl, Pf.truB_non, Pf.truB_int, Pf.truB_tup, Pf.andV_ap, Pf.kAndV_ap, Pf.kAndB_t, Pf.kAndB_f, Pf.orV_ap, Pf.kOrV_ap, Pf.kOrB_t, Pf.kOrB_f, Pf.notV_ap, Pf.kNotV_ap, Pf.kNotB_ap, Pf.and_ap, Pf.kAnd_t, Pf.kAnd_f, Pf.or_ap, Pf.kOr_t, Pf.kOr_f, Pf.not_ap, Pf.kNot_ap, Pf.if_ap, Pf.kIf_t, Pf.kIf_f, Pf.un_ap, Pf.kUn_ap, Pf.neg_ap, Pf.chain_ap, Pf.kCh1_ap, Pf.kCh2_ap, Pf.kCh3_t, Pf.kCh3_f, Pf.maNil_ap, Pf.maCons_ap, Pf.kArg_ap, Pf.kArg2_ap, Pf.tup_ap, Pf.kTup_ap, Pf.lst_ap, Pf.kLst_ap, Pf.call_ap, Pf.kCall_ap, Pf.cb_ap, Pf.kCB_ap, Pf.isi_ap, Pf.kIsi_ap, Pf.kIsi2_some, Pf.tyN_int, Pf.tyN_bl, Pf.tyN_non, Pf.tyN_str, Pf.tyN_tup, Pf.tyB_ii, Pf.tyB_ib, Pf.tyB_bi, Pf.tyB_bb, Pf.tyB_tt, Pf.bm_ap, Pf.kBM_ap, Pf.kBM2_ap, Pf.msNil_ap, Pf.seq_ap, Pf.nx_mk, Pf.rt_mk, Pf.bk_mk, Pf.ct_mk, Pf.ret_ap, Pf.retN_ap, Pf.brk_ap, Pf.cont_ap, Pf.set_ap, Pf.kSet_ap, Pf.expr_ap, Pf.kDrop_ap, Pf.ifS_ap, Pf.kIfS_t, Pf.kIfS_f, Pf.sub_ap, Pf.kSub1_ap, Pf.kSub2_ap, Pf.kSub3_ap, Pf.defW_ap, Pf.add_ii, Pf.add_tt, Pf.sub_ii, Pf.mul_lt, Pf.mul_rt, Pf.mod_ii, Pf.fdiv_ii, Pf.lt_ii, Pf.le_ii, Pf.gt_ii, Pf.ge_ii, Pf.bId_ap, Pf.eq_ap, Pf.ne_ap, Pf.kEq_some, Pf.dat_int, Pf.dat_bl, Pf.dat_non, Pf.dat_str, Pf.dat_tup, Pf.eqv_ii, Pf.eqv_ss, Pf.eqv_bb, Pf.kO_some, Pf.ix_t, Pf.kL_some, Pf.at_0, Pf.at_1, Pf.at_2, Pf.at_3, Pf.at_4, Pf.at_5, Pf.len_t, Pf.list_t, Pf.list_f, Pf.tuple_t, Pf.int_i, Pf.int_b, Pf.l_set0, Pf.l_setS, Pf.l_get0, Pf.l_getS, Pf.l_len0, Pf.l_lenS, Pf.l_app0, Pf.l_appS, Pf.l_map0, Pf.l_mapS, Pf.l_len_map, Pf.l_rep0, Pf.l_repS, Pf.start_ap, Pf.wipe_nil, Pf.wipe_cons, Pf.supd_same, Pf.supd_ne, Pf.supd_supd, Pf.o_map_some, Pf.ixN_0, Pf.ixN_1, Pf.ixN_2, Pf.ixN_3, Pf.for_ap, Pf.kFor_ap, Pf.iter_ap, Pf.kIter_t, Pf.rng1_ap, Pf.kRng1_ap, Pf.rng2_ap, Pf.kRng2_ap, Pf.rev_ap, Pf.kRev_t, Pf.kNew_ap, Pf.lc_ap, Pf.kLc_ap, Pf.yes_ap, Pf.bind_nm, Pf.bind_tp, Pf.bindL_nil, Pf.bindL_cons, Pf.kBL_ap, Pf.pat_ap, Pf.kPat_ap, Pf.aug_ap, Pf.kAugO_ap, Pf.kAug1_ap, Pf.iadd_ii, Pf.rng_len, Pf.isL_r, Pf.kIsL_some, Pf.ix_r, Pf.kIx_some, Pf.len_r, Pf.kLen_some, Pf.list_r, Pf.kList_some, Pf.tuple_r, Pf.kTuple_some, Pf.put_r, Pf.kPut_l, Pf.kPutO_some, Pf.append_r, Pf.kApp_l, Pf.pop0_r, Pf.kPop0_l, Pf.kIter_r, Pf.kRev_r, Pf.kIterO_some, Pf.id_ap, Pf.dat_r, Pf.kDatL_some, Pf.bind_tpr, Pf.kBindO_some, Pg.disp_ap, Pg.dictN_ap, Pg.zip_nil, Pg.zip_cons, Pg.dget_ap, Pg.kDg_d, Pg.look_if, Pg.is_bb, Pg.is_nn, Pg.is_in, Pg.is_sn, Pg.is_tn, Pg.is_rn, Pg.isnt_bb, Pg.isnt_nn, Pg.isnt_in, Pg.isnt_sn, Pg.isnt_tn, Pg.isnt_rn, Pg.fld_ap, Pg.kFld_ap, Pg.kFldO_i, Pg.meth_ap, Pg.kMeth_ap, Pg.kMethO_i, Pg.kMethA_ap, Pg.make_ap, Pg.sl_ap, Pg.kSl1_ap, Pg.kSl2_ap, Pg.kSl3_ap, Pg.pNo_ap, Pg.pYes_ap, Pg.kPart_ap, Pg.revL_ap, Pg.kRvL_ap, Pg.kRvO_some, String.reduceEq, Int.reduceEq, if_true, if_false, Nat.reduceEqDiff, decide_not, beq_self_eq_true, true_and, and_true, decide_true, decide_false, Int.reduceLT, Int.reduceLE, Int.reduceNeg, Int.reduceAdd, Int.reduceSub, Int.reduceMul, Int.reducePow, Nat.reduceAdd, Nat.reduceSub, Nat.reduceLT, Nat.reduceLeDiff, Int.reduceToNat, Bool.not_true, Bool.not_false, ha, G_st, G_l hl, G_setst, Int.natCast_zero, Int.lt_irrefl]
      exact fin _ _ _ y2 y0 y1
    | cons n ns =>
      have e1 : (0 : Int) < (ns.length + 1 : Nat) := by omega
      simp (implicitDefEqProofs := false) (disch := first | assumption | omega | (simp only [Pf.l_lenS, Pf.l_len0] <;> omega)) only [Pf.kOpt_some, Pf.look_ap, Pf.lkO_l, Pf.lkO_r, Pf.var_ap, Pf.c_ap, Pf.op_ap, Pf.op1_ap, Pf.op2_ap, Pf.tst_ap, Pf.kB_ap, Pf.asB_ap, Pf.kTo_some, Pf.tru_ap, Pf.kTru_ap, Pf.truB_bl, Pf.truB_non, Pf.truB_int, Pf.truB_tup, Pf.andV_ap, Pf.kAndV_ap, Pf.kAndB_t, Pf.kAndB_f, Pf.orV_ap, Pf.kOrV_ap, Pf.kOrB_t, Pf.kOrB_f, Pf.notV_ap, Pf.kNotV_ap, Pf.kNotB_ap, Pf.and_ap, Pf.kAnd_t, Pf.kAnd_f, Pf.or_ap, Pf.kOr_t, Pf.kOr_f, Pf.not_ap, Pf.kNot_ap, Pf.if_ap, Pf.kIf_t, Pf.kIf_f, Pf.un_ap, Pf.kUn_ap, Pf.neg_ap, Pf.chain_ap, Pf.kCh1_ap, Pf.kCh2_ap, Pf.kCh3_t, Pf.kCh3_f, Pf.maNil_ap, Pf.maCons_ap, Pf.kArg_ap, Pf.kArg2_ap, Pf.tup_ap, Pf.kTup_ap, Pf.lst_ap, Pf.kLst_ap, Pf.call_ap, Pf.kCall_ap, Pf.cb_ap, Pf.kCB_ap, Pf.isi_ap, Pf.kIsi_ap, Pf.kIsi2_some, Pf.tyN_int, Pf.tyN_bl, Pf.tyN_non, Pf.tyN_str, Pf.tyN_tup, Pf.tyB_ii, Pf.tyB_ib, Pf.tyB_bi, Pf.tyB_bb, Pf.tyB_tt, Pf.bm_ap, Pf.kBM_ap, Pf.kBM2_ap, Pf.msNil_ap, Pf.seq_ap, Pf.nx_mk, Pf.rt_mk, Pf.bk_mk, Pf.ct_mk, Pf.ret_ap, Pf.retN_ap, Pf.brk_ap, Pf.cont_ap, Pf.set_ap, Pf.kSet_ap, Pf.expr_ap, Pf.kDrop_ap, Pf.ifS_ap, Pf.kIfS_t, Pf.kIfS_f, Pf.sub_ap, Pf.kSub1_ap, Pf.kSub2_ap, Pf.kSub3_ap, Pf.defW_ap, Pf.add_ii, Pf.add_tt, Pf.sub_ii, Pf.mul_lt, Pf.mul_rt, Pf.mod_ii, Pf.fdiv_ii, Pf.lt_ii, Pf.le_ii, Pf.gt_ii, Pf.ge_ii, Pf.bId_ap, Pf.eq_ap, Pf.ne_ap, Pf.kEq_some, Pf.dat_int, Pf.dat_bl, Pf.dat_non, Pf.dat_str, Pf.dat_tup, Pf.eqv_ii, Pf.eqv_ss, Pf.eqv_bb, Pf.kO_some, Pf.ix_t, Pf.kL_some, Pf.at_0, Pf.at_1, Pf.at_2, Pf.at_3, Pf.at_4, Pf.at_5, Pf.len_t, Pf.list_t, Pf.list_f, Pf.tuple_t, Pf.int_i, Pf.int_b, Pf.l_set0, Pf.l_setS, Pf.l_get0, Pf.l_getS, Pf.l_len0, Pf.l_lenS, Pf.l_app0, Pf.l_appS, Pf.l_map0, Pf.l_mapS, Pf.l_len_map, Pf.l_rep0, Pf.l_repS, Pf.start_ap, Pf.wipe_nil, Pf.wipe_cons, Pf.supd_same, Pf.supd_ne, Pf.supd_supd, Pf.o_map_some, Pf.ixN_0, Pf.ixN_1, Pf.ixN_2, Pf.ixN_3, Pf.for_ap, Pf.kFor_ap, Pf.iter_ap, Pf.kIter_t, Pf.rng1_ap, Pf.kRng1_ap, Pf.rng2_ap, Pf.kRng2_ap, Pf.rev_ap, Pf.kRev_t, Pf.kNew_ap, Pf.lc_ap, Pf.kLc_ap, Pf.yes_ap, Pf.bind_nm, Pf.bind_tp, Pf.bindL_nil, Pf.bindL_cons, Pf.kBL_ap, Pf.pat_ap, Pf.kPat_ap, Pf.aug_ap, Pf.kAugO_ap, Pf.kAug1_ap, Pf.iadd_ii, Pf.rng_len, Pf.isL_r, Pf.kIsL_some, Pf.ix_r, Pf.kIx_some, Pf.len_r, Pf.kLen_some, Pf.list_r, Pf.kList_some, Pf.tuple_r, Pf.kTuple_some, Pf.put_r, Pf.kPut_l, Pf.kPutO_some, Pf.append_r, Pf.kApp_l, Pf.pop0_r, Pf.kPop0_l, Pf.kIter_r, Pf.kRev_r, Pf.kIterO_some, Pf.id_ap, Pf.dat_r, Pf.kDatL_some, Pf.bind_tpr, Pf.kBindO_some, Pg.disp_ap, Pg.dictN_ap, Pg.zip_nil, Pg.zip_cons, Pg.dget_ap, Pg.kDg_d, Pg.look_if, Pg.is_bb, Pg.is_nn, Pg.is_in, Pg.is_sn, Pg.is_tn, Pg.is_rn, Pg.isnt_bb, Pg.isnt_nn, Pg.isnt_in, Pg.isnt_sn, Pg.isnt_tn, Pg.isnt_rn, Pg.fld_ap, Pg.kFld_ap, Pg.kFldO_i, Pg.meth_ap, Pg.kMeth_ap, Pg.kMethO_i, Pg.kMethA_ap, Pg.make_ap, Pg.sl_ap, Pg.kSl1_ap, Pg.kSl2_ap, Pg.kSl3_ap, Pg.pNo_ap, Pg.pYes_ap, Pg.kPart_ap, Pg.revL_ap, Pg.kRvL_ap, Pg.kRvO_some, String.reduceEq, Int.reduceEq, if_true, if_false, Nat.reduceEqDiff, decide_not, beq_self_eq_true, true_and, and_true, decide_true, decide_false, Int.reduceLT, Int.reduceLE, Int.reduceNeg, Int.reduceAdd, Int.reduceSub, Int.reduceMul, Int.reducePow, Nat.reduceAdd, Nat.reduceSub, Nat.reduceLT, Nat.reduceLeDiff, Int.reduceToNat, Bool.not_true, Bool.not_false, ha, G_st, G_l hl, G_setst, G_setl hl, e1]
      have y0 := fun x : Int => Int.emod_nonneg (b * 69621 + x) (b := 2147483647) (by decide)
      have y1 := fun x : Int => Int.emod_lt_of_pos (b * 69621 + x) (b := 2147483647) (by decide)
      by_cases hn : 0 ≤ n
      · simp (implicitDefEqProofs := false) (disch := first | assumption | omega | (simp only [Pf.l_lenS, Pf.l_len0] <;> omega)) only [Pf.kOpt_some, Pf.look_ap, Pf.lkO_l, Pf.lkO_r, Pf.var_ap, Pf.c_ap, Pf.op_ap, Pf.op1_ap, Pf.op2_ap, Pf.tst_ap, Pf.kB_ap, Pf.asB_ap, Pf.kTo_some, Pf.tru_ap, Pf.kTru_ap, Pf.truB_bl, Pf.truB_non, Pf.truB_int, Pf.truB_tup, Pf.andV_ap, Pf.kAndV_ap, Pf.kAndB_t, Pf.kAndB_f, Pf.orV_ap, Pf.kOrV_ap, Pf.kOrB_t, Pf.kOrB_f, Pf.notV_ap, Pf.kNotV_ap, Pf.kNotB_ap, Pf.and_ap, Pf.kAnd_t, Pf.kAnd_f, Pf.or_ap, Pf.kOr_t, Pf.kOr_f, Pf.not_ap, Pf.kNot_ap, Pf.if_ap, Pf.kIf_t, Pf.kIf_f, Pf.un_ap, Pf.kUn_ap, Pf.neg_ap, Pf.chain_ap, Pf.kCh1_ap, Pf.kCh2_ap, Pf.kCh3_t, Pf.kCh3_f, Pf.maNil_ap, Pf.maCons_ap, Pf.kArg_ap, Pf.kArg2_ap, Pf.tup_ap, Pf.kTup_ap, Pf.lst_ap, Pf.kLst_ap, Pf.call_ap, Pf.kCall_ap, Pf.cb_ap, Pf.kCB_ap, Pf.isi_ap, Pf.kIsi_ap, Pf.kIsi2_some, Pf.tyN_int, Pf.tyN_bl, Pf.tyN_non, Pf.tyN_str, Pf.tyN_tup, Pf.tyB_ii, Pf.tyB_ib, Pf.tyB_bi, Pf.tyB_bb, Pf.tyB_tt, Pf.bm_ap, Pf.kBM_ap, Pf.kBM2_ap, Pf.msNil_ap, Pf.seq_ap, Pf.nx_mk, Pf.rt_mk, Pf.bk_mk, Pf.ct_mk, Pf.ret_ap, Pf.retN_ap, Pf.brk_ap, Pf.cont_ap, Pf.set_ap, Pf.kSet_ap, Pf.expr_ap, Pf.kDrop_ap, Pf.ifS_ap, Pf.kIfS_t, Pf.kIfS_f, Pf.sub_ap, Pf.kSub1_ap, Pf.kSub2_ap, Pf.kSub3_ap, Pf.defW_ap, Pf.add_ii, Pf.add_tt, Pf.sub_ii, Pf.mul_lt, Pf.mul_rt, Pf.mod_ii, Pf.fdiv_ii, Pf.lt_ii, Pf.le_ii, Pf.gt_ii, Pf.ge_ii, Pf.bId_ap, Pf.eq_ap, Pf.ne_ap, Pf.kEq_some, Pf.dat_int, Pf.dat_bl, Pf.dat_non, Pf.dat_str, Pf.dat_tup, Pf.eqv_ii, Pf.eqv_ss, Pf.eqv_bb, Pf.kO_some, Pf.ix_t, Pf.kL_some, Pf.at_0, Pf.at_1, Pf.at_2, Pf.at_3, Pf.at_4, Pf.at_5, Pf.len_t, Pf.list_t, Pf.list_f, Pf.tuple_t, Pf.int_i, Pf.int_b, Pf.l_set0, Pf.l_setS, Pf.l_get0, Pf.l_getS, Pf.l_len0, Pf.l_lenS, Pf.l_app0, Pf.l_appS, Pf.l_map0, Pf.l_mapS, Pf.l_len_map, Pf.l_rep0, Pf.l_repS, Pf.start_ap, Pf.wipe_nil, Pf.wipe_cons, Pf.supd_same, Pf.supd_ne, Pf.supd_supd, Pf.o_map_some, Pf.ixN_0, Pf.ixN_1, Pf.ixN_2, Pf.ixN_3, Pf.for_ap, Pf.kFor_ap, Pf.iter_ap, Pf.kIter_t, Pf.rng1_ap, Pf.kRng1_ap, Pf.rng2_ap, Pf.kRng2_ap, Pf.rev_ap, Pf.kRev_t, Pf.kNew_ap, Pf.lc_ap, Pf.kLc_ap, Pf.yes_ap, Pf.bind_nm, Pf.bind_tp, Pf.bindL_nil, Pf.bindL_cons, Pf.kBL_ap, Pf.pat_ap, Pf.kPat_ap, Pf.aug_ap, Pf.kAugO_ap, Pf.kAug1_ap, Pf.iadd_ii, Pf.rng_len, Pf.isL_r, Pf.kIsL_some, Pf.ix_r, Pf.kIx_some, Pf.len_r, Pf.kLen_some, Pf.list_r, Pf.kList_some, Pf.tuple_r, Pf.kTuple_some, Pf.put_r, Pf.kPut_l, Pf.kPutO_some, Pf.append_r, Pf.kApp_l, Pf.pop0_r, Pf.kPop0_l, Pf.kIter_r, Pf.kRev_r, Pf.kIterO_some, Pf.id_ap, Pf.dat_r, Pf.kDatL_some, Pf.bind_tpr, Pf.kBindO_some, Pg.disp_ap, Pg.dictN_ap, Pg.zip_nil, Pg.zip_cons, Pg.dget_ap, Pg.kDg_d, Pg.look_if, Pg.is_bb, Pg.is_nn, Pg.is_in, Pg.is_sn, Pg.is_tn, Pg.is_rn, Pg.isnt_bb, Pg.isnt_nn, Pg.isnt_in, Pg.isnt_sn, Pg.isnt_tn, Pg.isnt_rn, Pg.fld_ap, Pg.kFld_ap, Pg.kFldO_i, Pg.meth_ap, Pg.kMeth_ap, Pg.kMethO_i, Pg.kMethA_ap, Pg.make_ap, Pg.sl_ap, Pg.kSl1_ap, Pg.kSl2_ap, Pg.kSl3_ap, Pg.pNo_ap, Pg.pYes_ap, Pg.kPart_ap, Pg.revL_ap, Pg.kRvL_ap, Pg.kRvO_some, String.reduceEq, Int.reduceEq, if_true, if_false, Nat.reduceEqDiff, decide_not, beq_self_eq_true, true_and, and_true, decide_true, decide_false, Int.reduceLT, Int.reduceLE, Int.reduceNeg, Int.reduceAdd, Int.reduceSub, Int.reduceMul, Int.reducePow, Nat.reduceAdd, Nat.reduceSub, Nat.reduceLT, Nat.reduceLeDiff, Int.reduceToNat, Bool.not_true, Bool.not_false, hn, G_st, G_l hl, G_setst, G_setl hl]
        exact fin _ _ _ (by omega) (y0 _) (y1 _)
      · simp (implicitDefEqProofs := false) (disch := first | assumption | omega | (simp only [Pf.l_lenS, Pf.l_len0] <;> omega)) only [Pf.kOpt_some, Pf.look_ap, Pf.lkO_l, Pf.lkO_r, Pf.var_ap, Pf.c_ap, Pf.op_ap, Pf.op1_ap, Pf.op2_ap, Pf.tst_ap, Pf.kB_ap, Pf.asB_ap, Pf.kTo_some, Pf.tru_ap, Pf.kTru_ap, Pf.truB_bl, Pf.truB_non, Pf.truB_int, Pf.truB_tup, Pf.andV_ap, Pf.kAndV_ap, Pf.kAndB_t, Pf.kAndB_f, Pf.orV_ap, Pf.kOrV_ap, Pf.kOrB_t, Pf.kOrB_f, Pf.notV_ap, Pf.kNotV_ap, Pf.kNotB_ap, Pf.and_ap, Pf.kAnd_t, Pf.kAnd_f, Pf.or_ap, Pf.kOr_t, Pf.kOr_f, Pf.not_ap, Pf.kNot_ap, Pf.if_ap, Pf.kIf_t, Pf.kIf_f, Pf.un_ap, Pf.kUn_ap, Pf.neg_ap, Pf.chain_ap, Pf.kCh1_ap, Pf.kCh2_ap, Pf.kCh3_t, Pf.kCh3_f, Pf.maNil_ap, Pf.maCons_ap, Pf.kArg_ap, Pf.kArg2_ap, Pf.tup_ap, Pf.kTup_ap, Pf.lst_ap, Pf.kLst_ap, Pf.call_ap, Pf.kCall_ap, Pf.cb_ap, Pf.kCB_ap, Pf.isi_ap, Pf.kIsi_ap, Pf.kIsi2_some, Pf.tyN_int, Pf.tyN_bl, Pf.tyN_non, Pf.tyN_str, Pf.tyN_tup, Pf.tyB_ii, Pf.tyB_ib, Pf.tyB_bi, Pf.tyB_bb, Pf.tyB_tt, Pf.bm_ap, Pf.kBM_ap, Pf.kBM2_ap, Pf.msNil_ap, Pf.seq_ap, Pf.nx_mk, Pf.rt_mk, Pf.bk_mk, Pf.ct_mk, Pf.ret_ap, Pf.retN_ap, Pf.brk_ap, Pf.cont_ap, Pf.set_ap, Pf.kSet_ap, Pf.expr_ap, Pf.kDrop_ap, Pf.ifS_ap, Pf.kIfS_t, Pf.kIfS_f, Pf.sub_ap, Pf.kSub1_ap, Pf.kSub2_ap, Pf.kSub3_ap, Pf.defW_ap, Pf.add_ii, Pf.add_tt, Pf.sub_ii, Pf.mul_lt, Pf.mul_rt, Pf.mod_ii, Pf.fdiv_ii, Pf.lt_ii, Pf.le_ii, Pf.gt_ii, Pf.ge_ii, Pf.bId_ap, Pf.eq_ap, Pf.ne_ap, Pf.kEq_some, Pf.dat_int, Pf.dat_bl, Pf.dat_non, Pf.dat_str, Pf.dat_tup, Pf.eqv_ii, Pf.eqv_ss, Pf.eqv_bb, Pf.kO_some, Pf.ix_t, Pf.kL_some, Pf.at_0, Pf.at_1, Pf.at_2, Pf.at_3, Pf.at_4, Pf.at_5, Pf.len_t, Pf.list_t, Pf.list_f, Pf.tuple_t, Pf.int_i, Pf.int_b, Pf.l_set0, Pf.l_setS, Pf.l_get0, Pf.l_getS, Pf.l_len0, Pf.l_lenS, Pf.l_app0, Pf.l_appS, Pf.l_map0, Pf.l_mapS, Pf.l_len_map, Pf.l_rep0, Pf.l_repS, Pf.start_ap, Pf.wipe_nil, Pf.wipe_cons, Pf.supd_same, Pf.supd_ne, Pf.supd_supd, Pf.o_map_some, Pf.ixN_0, Pf.ixN_1, Pf.ixN_2, Pf.ixN_3, Pf.for_ap, Pf.kFor_ap, Pf.iter_ap, Pf.kIter_t, Pf.rng1_ap, Pf.kRng1_ap, Pf.rng2_ap, Pf.kRng2_ap, Pf.rev_ap, Pf.kRev_t, Pf.kNew_ap, Pf.lc_ap, Pf.kLc_ap, Pf.yes_ap, Pf.bind_nm, Pf.bind_tp, Pf.bindL_nil, Pf.bindL_cons, Pf.kBL_ap, Pf.pat_ap, Pf.kPat_ap, Pf.aug_ap, Pf.kAugO_ap, Pf.kAug1_ap, Pf.iadd_ii, Pf.rng_len, Pf.isL_r, Pf.kIsL_some, Pf.ix_r, Pf.kIx_some, Pf.len_r, Pf.kLen_some, Pf.list_r, Pf.kList_some, Pf.tuple_r, Pf.kTuple_some, Pf.put_r, Pf.kPut_l, Pf.kPutO_some, Pf.append_r, Pf.kApp_l, Pf.pop0_r, Pf.kPop0_l, Pf.kIter_r, Pf.kRev_r, Pf.kIterO_some, Pf.id_ap, Pf.dat_r, Pf.kDatL_some, Pf.bind_tpr, Pf.kBindO_some, Pg.disp_ap, Pg.dictN_ap, Pg.zip_nil, Pg.zip_cons, Pg.dget_ap, Pg.kDg_d, Pg.look_if, Pg.is_bb, Pg.is_nn, Pg.is_in, Pg.is_sn, Pg.is_tn, Pg.is_rn, Pg.isnt_bb, Pg.isnt_nn, Pg.isnt_in, Pg.isnt_sn, Pg.isnt_tn, Pg.isnt_rn, Pg.fld_ap, Pg.kFld_ap, Pg.kFldO_i, Pg.meth_ap, Pg.kMeth_ap, Pg.kMethO_i, Pg.kMethA_ap, Pg.make_ap, Pg.sl_ap, Pg.kSl1_ap, Pg.kSl2_ap, Pg.kSl3_ap, Pg.pNo_ap, Pg.pYes_ap, Pg.kPart_ap, Pg.revL_ap, Pg.kRvL_ap, Pg.kRvO_some, String.reduceEq, Int.reduceEq, if_true, if_false, Nat.reduceEqDiff, decide_not, beq_self_eq_true, true_and, and_true, decide_true, decide_false, Int.reduceLT, Int.reduceLE, Int.reduceNeg, Int.reduceAdd, Int.reduceSub, Int.reduceMul, Int.reducePow, Nat.reduceAdd, Nat.reduceSub, Nat.reduceLT, Nat.reduceLeDiff, Int.reduceToNat, Bool.not_true, Bool.not_false, hn, G_st, G_l hl, G_setst, G_setl hl]
        exact fin _ _ _ (by omega) (y0 _) (y1 _)
  · simp (implicitDefEqProofs := false) (disch := first | assumption | omega | (simp only [Pf.l_lenS, Pf.l_len0] <;> omega)) only [Pf.kOpt_some, Pf.look_ap, Pf.lkO_l, Pf.lkO_r, Pf.var_ap, Pf.c_ap, Pf.op_ap, Pf.op1_ap, Pf.op2_ap, Pf.tst_ap, Pf.kB_ap, Pf.asB_ap, Pf.kTo_some, Pf.tru_ap, Pf.kTru_ap, Pf.truB_bl, Pf.truB_non, Pf.truB_int, Pf.truB_tup, Pf.andV_ap, Pf.kAndV_ap, Pf.kAndB_t, Pf.kAndB_f, Pf.orV_ap, Pf.kOrV_ap, Pf.kOrB_t, Pf.kOrB_f, Pf.notV_ap, Pf.kNotV_ap, Pf.kNotB_ap, Pf.and_ap, Pf.kAnd_t, Pf.kAnd_f, Pf.or_ap, Pf.kOr_t, Pf.kOr_f, Pf.not_ap, Pf.kNot_ap, Pf.if_ap, Pf.kIf_t, Pf.kIf_f, Pf.un_ap, Pf.kUn_ap, Pf.neg_ap, Pf.chain_ap, Pf.kCh1_ap, Pf.kCh2_ap, Pf.kCh3_t, Pf.kCh3_f, Pf.maNil_ap, Pf.maCons_ap, Pf.kArg_ap, Pf.kArg2_ap, Pf.tup_ap, Pf.kTup_ap, Pf.lst_ap, Pf.kLst_ap, Pf.call_ap, Pf.kCall_ap, Pf.cb_ap, Pf.kCB_ap, Pf.isi_ap, Pf.kIsi_ap, Pf.kIsi2_some, Pf.tyN_int, Pf.tyN_bl, Pf.tyN_non, Pf.tyN_str, Pf.tyN_tup, Pf.tyB_ii, Pf.tyB_ib, Pf.tyB_bi, Pf.tyB_bb, Pf.tyB_tt, Pf.bm_ap, Pf.kBM_ap, Pf.kBM2_ap, Pf.msNil_ap, Pf.seq_ap, Pf.nx_mk, Pf.rt_mk, Pf.bk_mk, Pf.ct_mk, Pf.ret_ap, Pf.retN_ap, Pf.brk_ap, Pf.cont_ap, Pf.set_ap, Pf.kSet_ap, Pf.expr_ap, Pf.kDrop_ap, Pf.ifS_ap, Pf.kIfS_t, Pf.kIfS_f, Pf.sub_ap, Pf.kSub1_ap, Pf.kSub2_ap, Pf.kSub3_ap, Pf.defW_ap, Pf.add_ii, Pf.add_tt, Pf.sub_ii, Pf.mul_lt, Pf.mul_rt, Pf.mod_ii, Pf.fdiv_ii, Pf.lt_ii, Pf.le_ii, Pf.gt_ii, Pf.ge_ii, Pf.bId_ap, Pf.eq_ap, Pf.ne_ap, Pf.kEq_some, Pf.dat_int, Pf.dat_bl, Pf.dat_non, Pf.dat_str, Pf.dat_tup, Pf.eqv_ii, Pf.eqv_ss, Pf.eqv_bb, Pf.kO_some, Pf.ix_t, Pf.kL_some, Pf.at_0, Pf.at_1, Pf.at_2, Pf.at_3, Pf.at_4, Pf.at_5, Pf.len_t, Pf.list_t, Pf.list_f, Pf.tuple_t, Pf.int_i, Pf.int_b, Pf.l_set0, Pf.l_setS, Pf.l_get0, Pf.l_getS, Pf.l_len0, Pf.l_lenS, Pf.l_app0, Pf.l_appS, Pf.l_map0, Pf.l_mapS, Pf.l_len_map, Pf.l_rep0, Pf.l_repS, Pf.start_ap, Pf.wipe_nil, Pf.wipe_cons, Pf.supd_same, Pf.supd_ne, Pf.supd_supd, Pf.o_map_some, Pf.ixN_0, Pf.ixN_1, Pf.ixN_2, Pf.ixN_3, Pf.for_ap, Pf.kFor_ap, Pf.iter_ap, Pf.kIter_t, Pf.rng1_ap, Pf.kRng1_ap, Pf.rng2_ap, Pf.kRng2_ap, Pf.rev_ap, Pf.kRev_t, Pf.kNew_ap, Pf.lc_ap, Pf.kLc_ap, Pf.yes_ap, Pf.bind_nm, Pf.bind_tp, Pf.bindL_nil, Pf.bindL_cons, Pf.kBL_ap, Pf.pat_ap, Pf.kPat_ap, Pf.aug_ap, Pf.kAugO_ap, Pf.kAug1_ap, Pf.iadd_ii, Pf.rng_len, Pf.isL_r, Pf.kIsL_some, Pf.ix_r, Pf.kIx_some, Pf.len_r, Pf.kLen_some, Pf.list_r, Pf.kList_some, Pf.tuple_r, Pf.kTuple_some, Pf.put_r, Pf.kPut_l, Pf.kPutO_some, Pf.append_r, Pf.kApp_l, Pf.pop0_r, Pf.kPop0_l, Pf.kIter_r, Pf.kRev_r, Pf.kIterO_some, Pf.id_ap, Pf.dat_r, Pf.kDatL_some, Pf.bind_tpr, Pf.kBindO_some, Pg.disp_ap, Pg.dictN_ap, Pg.zip_nil, Pg.zip_cons, Pg.dget_ap, Pg.kDg_d, Pg.look_if, Pg.is_bb, Pg.is_nn, Pg.is_in, Pg.is_sn, Pg.is_tn, Pg.is_rn, Pg.isnt_bb, Pg.isnt_nn, Pg.isnt_in, Pg.isnt_sn, Pg.isnt_tn, Pg.isnt_rn, Pg.fld_ap, Pg.kFld_ap, Pg.kFldO_i, Pg.meth_ap, Pg.kMeth_ap, Pg.kMethO_i, Pg.kMethA_ap, Pg.make_ap, Pg.sl_ap, Pg.kSl1_ap, Pg.kSl2_ap, Pg.kSl3_ap, Pg.pNo_ap, Pg.pYes_ap, Pg.kPart_ap, Pg.revL_ap, Pg.kRvL_ap, Pg.kRvO_some, String.reduceEq, Int.reduceEq, if_true, if_false, Nat.reduceEqDiff, decide_not, beq_self_eq_true, true_and, and_true, decide_true, decide_false, Int.reduceLT, Int.reduceLE, Int.reduceNeg, Int.reduceAdd, Int.reduceSub, Int.reduceMul, Int.reducePow, Nat.reduceAdd, Nat.reduceSub, Nat.reduceLT, Nat.reduceLeDiff, Int.reduceToNat, Bool.not_true, Bool.not_false, ha, G_st, G_l hl, G_setst]
    exact fin _ _ _ h0 h1 h2
/-- a new list, away from the drawing state -/
theorem new_spec {k : List MV} {R : MK} (hl : l ≠ st) (h : ∀ p S', p ≠ st → p ≠ l → S p = none → S' p = some (.lst k) → (∀ a o, S a = some o → S' a = some o ∧ a ≠ p) → R (.ref p) (G st l S' q)) : newL k (G st l S q) R := by
  intro p hp
  obtain ⟨h1, h2, h3⟩ := G_free hp hl
  rw [G_put h1 h2]
  refine h p _ h1 h2 h3 Mv.supd_same fun a o e => ?_
  have : a ≠ p := fun e' => by subst e'; rw [h3] at e; cases e
  exact ⟨by rw [Mv.supd_ne this]; exact e, this⟩
theorem draws_spec {te : ME} {ρ : Mv.Env} {j cnt : Nat} {many : Int} {Q : List MV → Sto → Prop} (hl : l ≠ st) (hq : q.ok) (hm : 0 < many) (hm2 : many < 1073741824) (hc : cnt < 1000)
    (hte : ∀ (v : MV) (S : Sto) (R : MK), te (ρ.set j (some v)) S R = Rw.W__law_next [.ref st, .int many] S R)
    (h : ∀ (vs : List Int) (q' : GS), q'.ok → vs.length = cnt → (∀ v ∈ vs, 0 ≤ v ∧ v < many) → Q (vs.map .int) (G st l S q')) : lcL [] (.nm j) mYes te ρ Q (rngM 0 cnt) [] (G st l S q) := by
  refine lc_rule (I := fun i acc S' => ∃ (vs : List Int) (q' : GS), acc = vs.map .int ∧ S' = G st l S q' ∧ q'.ok ∧ vs.length = i ∧ ∀ v ∈ vs, 0 ≤ v ∧ v < many) (fun _ _ _ _ => keep_nil) ?_ ?_ ?_ ?_ ⟨[], q, rfl, rfl, hq, rfl, fun v h => by cases h⟩
  · rw [rng_len]
    exact Nat.lt_of_lt_of_le hc (by decide)
  · rintro i acc S' ⟨vs, q', rfl, rfl, _, e, _⟩
    simp [e]
  · rintro i v acc S' hv ⟨vs, q', rfl, rfl, hq', e, hb⟩ R N hR _
    rw [Pf.bind_nm, Pf.yes_ap]
    dsimp only
    rw [hte]
    refine nx_spec hl hq' hm hm2 fun w q2 hq2 h1 h2 => hR _ _ ⟨vs ++ [w], q2, by simp, rfl, hq2, by simp [e], fun x hx => ?_⟩
    rcases List.mem_append.mp hx with hx | hx
    · exact hb x hx
    · cases List.mem_singleton.mp hx
      exact ⟨h1, h2⟩
  · rintro acc S' ⟨vs, q', rfl, rfl, hq', e, hb⟩
    exact h vs q' hq' (by rw [e, rng_len]) hb
end Nx

set_option Elab.async false
set_option linter.all false
set_option maxRecDepth 100000
set_option maxHeartbeats 4000000
namespace P07
open PySem PySem.Spec PyProof.Rows L2 Mv Pf Nx
/-! values of expressions -/
inductive Ex (fs ss : List Int) (arg got : Int) : MV → Int → Prop
  | value (v : Int) : Ex fs ss arg got (.tup [.str "value", .int v]) v
  | arg : Ex fs ss arg got (.tup [.str "arg"]) arg
  | got : Ex fs ss arg got (.tup [.str "got"]) got
  | field (i : Nat) (v : Int) (h : fs[i]? = some v) : Ex fs ss arg got (.tup [.str "field", .int (i : Int)]) v
  | switch (i : Nat) (v : Int) (h : ss[i]? = some v) : Ex fs ss arg got (.tup [.str "switch", .int (i : Int)]) v
theorem at_ints {l : List Int} {i : Nat} {v : Int} (h : l[i]? = some v) : atI (l.map MV.int) (i : Int) = some (.int v) := atI_nat (by simp [h])
theorem k1 : PyData.strOk (so "value") = true := by decide +kernel
theorem k2 : PyData.strOk (so "arg") = true := by decide +kernel
theorem k3 : PyData.strOk (so "got") = true := by decide +kernel
theorem k4 : PyData.strOk (so "field") = true := by decide +kernel
theorem k5 : PyData.strOk (so "switch") = true := by decide +kernel
theorem k6 : PyData.strOk (so "==") = true := by decide +kernel
theorem k7 : PyData.strOk (so "!=") = true := by decide +kernel
theorem k8 : PyData.strOk (so "<") = true := by decide +kernel
/-- the value of an expression, for fields in a list or a tuple -/
theorem value_spec {fs ss : List Int} {arg got w : Int} {e f : MV} {S : Sto} {R : MK} (r : Ex fs ss arg got e w) (hf : f = .tup (fs.map .int) ∨ ∃ a, f = .ref a ∧ S a = some (.lst (fs.map .int))) (h : R (.int w) S) :
    Rw.W_value_of [e, f, .tup (ss.map .int), .int arg, .int got] S R := by
  unfold Rw.W_value_of Rw.B_value_of
  cases r with
  | value v =>
    simp (implicitDefEqProofs := false) (disch := first | assumption | omega | (simp only [Pf.l_lenS, Pf.l_len0] <;> omega)) only [Pf.kOpt_some, Pf.look_ap, Pf.lkO_l, Pf.lkO_r, Pf.var_ap, Pf.c_ap, Pf.op_ap, Pf.op1_ap, Pf.op2_ap, Pf.tst_ap, Pf.kB_ap, Pf.asB_ap, Pf.kTo_some, Pf.tru_ap, Pf.kTru_ap, Pf.truB_bl, Pf.truB_non, Pf.truB_int, Pf.truB_tup, Pf.andV_ap, Pf.kAndV_ap, Pf.kAndB_t, Pf.kAndB_f, Pf.orV_ap, Pf.kOrV_ap, Pf.kOrB_t, Pf.kOrB_f, Pf.notV_ap, Pf.kNotV_ap, Pf.kNotB_ap, Pf.and_ap, Pf.kAnd_t, Pf.kAnd_f, Pf.or_ap, Pf.kOr_t, Pf.kOr_f, Pf.not_ap, Pf.kNot_ap, Pf.if_ap, Pf.kIf_t, Pf.kIf_f, Pf.un_ap, Pf.kUn_ap, Pf.neg_ap, Pf.chain_ap, Pf.kCh1_ap, Pf.kCh2_ap, Pf.kCh3_t, Pf.kCh3_f, Pf.maNil_ap, Pf.maCons_ap, Pf.kArg_ap, Pf.kArg2_ap, Pf.tup_ap, Pf.kTup_ap, Pf.lst_ap, Pf.kLst_ap, Pf.call_ap, Pf.kCall_ap, Pf.cb_ap, Pf.kCB_ap, Pf.isi_ap, Pf.kIsi_ap, Pf.kIsi2_some, Pf.tyN_int, Pf.tyN_bl, Pf.tyN_non, Pf.tyN_str, Pf.tyN_tup, Pf.tyB_ii, Pf.tyB_ib, Pf.tyB_bi, Pf.tyB_bb, Pf.tyB_tt, Pf.bm_ap, Pf.kBM_ap, Pf.kBM2_ap, Pf.msNil_ap, Pf.seq_ap, Pf.nx_mk, Pf.rt_mk, Pf.bk_mk, Pf.ct_mk, Pf.ret_ap, Pf.retN_ap, Pf.brk_ap, Pf.cont_ap, Pf.set_ap, Pf.kSet_ap, Pf.expr_ap, Pf.kDrop_ap, Pf.ifS_ap, Pf.kIfS_t, Pf.kIfS_f, Pf.sub_ap, Pf.kSub1_ap, Pf.kSub2_ap, Pf.kSub3_ap, Pf.defW_ap, Pf.add_ii, Pf.add_tt, Pf.sub_ii, Pf.mul_lt, Pf.mul_rt, Pf.mod_ii, Pf.fdiv_ii, Pf.lt_ii, Pf.le_ii, Pf.gt_ii, Pf.ge_ii, Pf.bId_ap, Pf.eq_ap, Pf.ne_ap, Pf.kEq_some, Pf.dat_int, Pf.dat_bl, Pf.dat_non, Pf.dat_str, Pf.dat_tup, Pf.eqv_ii, Pf.eqv_ss, Pf.eqv_bb, Pf.kO_some, Pf.ix_t, Pf.kL_some, Pf.at_0, Pf.at_1, Pf.at_2, Pf.at_3, Pf.at_4, Pf.at_5, Pf.len_t, Pf.list_t, Pf.list_f, Pf.tuple_t, Pf.int_i, Pf.int_b, Pf.l_set0, Pf.l_setS, Pf.l_get0, Pf.l_getS, Pf.l_len0, Pf.l_lenS, Pf.l_app0, Pf.l_appS, Pf.l_map0, Pf.l_mapS, Pf.l_len_map, Pf.l_rep0, Pf.l_repS, Pf.start_ap, Pf.wipe_nil, Pf.wipe_cons, Pf.supd_same, Pf.supd_ne, Pf.supd_supd, Pf.o_map_some, Pf.ixN_0, Pf.ixN_1, Pf.ixN_2, Pf.ixN_3, Pf.for_ap, Pf.kFor_ap, Pf.iter_ap, Pf.kIter_t, Pf.rng1_ap, Pf.kRng1_ap, Pf.rng2_ap, Pf.kRng2_ap, Pf.rev_ap, Pf.kRev_t, Pf.kNew_ap, Pf.lc_ap, Pf.kLc_ap, Pf.yes_ap, Pf.bind_nm, Pf.bind_tp, Pf.bindL_nil, Pf.bindL_cons, Pf.kBL_ap, Pf.pat_ap, Pf.kPat_ap, Pf.aug_ap, Pf.kAugO_ap, Pf.kAug1_ap, Pf.iadd_ii, Pf.rng_len, Pf.isL_r, Pf.kIsL_some, Pf.ix_r, Pf.kIx_some, Pf.len_r, Pf.kLen_some, Pf.list_r, Pf.kList_some, Pf.tuple_r, Pf.kTuple_some, Pf.put_r, Pf.kPut_l, Pf.kPutO_some, Pf.append_r, Pf.kApp_l, Pf.pop0_r, Pf.kPop0_l, Pf.kIter_r, Pf.kRev_r, Pf.kIterO_some, Pf.id_ap, Pf.dat_r, Pf.kDatL_some, Pf.bind_tpr, Pf.kBindO_some, Pg.disp_ap, Pg.dictN_ap, Pg.zip_nil, Pg.zip_cons, Pg.dget_ap, Pg.kDg_d, Pg.look_if, Pg.is_bb, Pg.is_nn, Pg.is_in, Pg.is_sn, Pg.is_tn, Pg.is_rn, Pg.isnt_bb, Pg.isnt_nn, Pg.isnt_in, Pg.isnt_sn, Pg.isnt_tn, Pg.isnt_rn, Pg.fld_ap, Pg.kFld_ap, Pg.kFldO_i, Pg.meth_ap, Pg.kMeth_ap, Pg.kMethO_i, Pg.kMethA_ap, Pg.make_ap, Pg.sl_ap, Pg.kSl1_ap, Pg.kSl2_ap, Pg.kSl3_ap, Pg.pNo_ap, Pg.pYes_ap, Pg.kPart_ap, Pg.revL_ap, Pg.kRvL_ap, Pg.kRvO_some, String.reduceEq, Int.reduceEq, if_true, if_false, Nat.reduceEqDiff, decide_not, beq_self_eq_true, true_and, and_true, decide_true, decide_false, Int.reduceLT, Int.reduceLE, Int.reduceNeg, Int.reduceAdd, Int.reduceSub, Int.reduceMul, Int.reducePow, Nat.reduceAdd, Nat.reduceSub, Nat.reduceLT, Nat.reduceLeDiff, Int.reduceToNat, Bool.not_true, Bool.not_false, dat_str k1]
    exact h
  | arg => 
    simp (implicitDefEqProofs := false) (disch := first | assumption | omega | (simp only [Pf.l_lenS, Pf.l_len0] <;> omega)) only [Pf.kOpt_some, Pf.look_ap, Pf.lkO_l, Pf.lkO_r, Pf.var_ap, Pf.c_ap, Pf.op_ap, Pf.op1_ap, Pf.op2_ap, Pf.tst_ap, Pf.kB_ap, Pf.asB_ap, Pf.kTo_some, Pf.tru_ap, Pf.kTru_ap, Pf.truB_bl, Pf.truB_non, Pf.truB_int, Pf.truB_tup, Pf.andV_ap, Pf.kAndV_ap, Pf.kAndB_t, Pf.kAndB_f, Pf.orV_ap, Pf.kOrV_ap, Pf.kOrB_t, Pf.kOrB_f, Pf.notV_ap, Pf.kNotV_ap, Pf.kNotB_ap, Pf.and_ap, Pf.kAnd_t, Pf.kAnd_f, Pf.or_ap, Pf.kOr_t, Pf.kOr_f, Pf.not_ap, Pf.kNot_ap, Pf.if_ap, Pf.kIf_t, Pf.kIf_f, Pf.un_ap, Pf.kUn_ap, Pf.neg_ap, Pf.chain_ap, Pf.kCh1_ap, Pf.kCh2_ap, Pf.kCh3_t, Pf.kCh3_f, Pf.maNil_ap, Pf.maCons_ap, Pf.kArg_ap, Pf.kArg2_ap, Pf.tup_ap, Pf.kTup_ap, Pf.lst_ap, Pf.kLst_ap, Pf.call_ap, Pf.kCall_ap, Pf.cb_ap, Pf.kCB_ap, Pf.isi_ap, Pf.kIsi_ap, Pf.kIsi2_some, Pf.tyN_int, Pf.tyN_bl, Pf.tyN_non, Pf.tyN_str, Pf.tyN_tup, Pf.tyB_ii, Pf.tyB_ib, Pf.tyB_bi, Pf.tyB_bb, Pf.tyB_tt, Pf.bm_ap, Pf.kBM_ap, Pf.kBM2_ap, Pf.msNil_ap, Pf.seq_ap, Pf.nx_mk, Pf.rt_mk, Pf.bk_mk, Pf.ct_mk, Pf.ret_ap, Pf.retN_ap, Pf.brk_ap, Pf.cont_ap, Pf.set_ap, Pf.kSet_ap, Pf.expr_ap, Pf.kDrop_ap, Pf.ifS_ap, Pf.kIfS_t, Pf.kIfS_f, Pf.sub_ap, Pf.kSub1_ap, Pf.kSub2_ap, Pf.kSub3_ap, Pf.defW_ap, Pf.add_ii, Pf.add_tt, Pf.sub_ii, Pf.mul_lt, Pf.mul_rt, Pf.mod_ii, Pf.fdiv_ii, Pf.lt_ii, Pf.le_ii, Pf.gt_ii, Pf.ge_ii, Pf.bId_ap, Pf.eq_ap, Pf.ne_ap, Pf.kEq_some, Pf.dat_int, Pf.dat_bl, Pf.dat_non, Pf.dat_str, Pf.dat_tup, Pf.eqv_ii, Pf.eqv_ss, Pf.eqv_bb, Pf.kO_some, Pf.ix_t, Pf.kL_some, Pf.at_0, Pf.at_1, Pf.at_2, Pf.at_3, Pf.at_4, Pf.at_5, Pf.len_t, Pf.list_t, Pf.list_f, Pf.tuple_t, Pf.int_i, Pf.int_b, Pf.l_set0, Pf.l_setS, Pf.l_get0, Pf.l_getS, Pf.l_len0, Pf.l_lenS, Pf.l_app0, Pf.l_appS, Pf.l_map0, Pf.l_mapS, Pf.l_len_map, Pf.l_rep0, Pf.l_repS, Pf.start_ap, Pf.wipe_nil, Pf.wipe_cons, Pf.supd_same, Pf.supd_ne, Pf.supd_supd, Pf.o_map_some, Pf.ixN_0, Pf.ixN_1, Pf.ixN_2, Pf.ixN_3, Pf.for_ap, Pf.kFor_ap, Pf.iter_ap, Pf.kIter_t, Pf.rng1_ap, Pf.kRng1_ap, Pf.rng2_ap, Pf.kRng2_ap, Pf.rev_ap, Pf.kRev_t, Pf.kNew_ap, Pf.lc_ap, Pf.kLc_ap, Pf.yes_ap, Pf.bind_nm, Pf.bind_tp, Pf.bindL_nil, Pf.bindL_cons, Pf.kBL_ap, Pf.pat_ap, Pf.kPat_ap, Pf.aug_ap, Pf.kAugO_ap, Pf.kAug1_ap, Pf.iadd_ii, Pf.rng_len, Pf.isL_r, Pf.kIsL_some, Pf.ix_r, Pf.kIx_some, Pf.len_r, Pf.kLen_some, Pf.list_r, Pf.kList_some, Pf.tuple_r, Pf.kTuple_some, Pf.put_r, Pf.kPut_l, Pf.kPutO_some, Pf.append_r, Pf.kApp_l, Pf.pop0_r, Pf.kPop0_l, Pf.kIter_r, Pf.kRev_r, Pf.kIterO_some, Pf.id_ap, Pf.dat_r, Pf.kDatL_some, Pf.bind_tpr, Pf.kBindO_some, Pg.disp_ap, Pg.dictN_ap, Pg.zip_nil, Pg.zip_cons, Pg.dget_ap, Pg.kDg_d, Pg.look_if, Pg.is_bb, Pg.is_nn, Pg.is_in, Pg.is_sn, Pg.is_tn, Pg.is_rn, Pg.isnt_bb, Pg.isnt_nn, Pg.isnt_in, Pg.isnt_sn, Pg.isnt_tn, Pg.isnt_rn, Pg.fld_ap, Pg.kFld_ap, Pg.kFldO_i, Pg.meth_ap, Pg.kMeth_ap, Pg.kMethO_i, Pg.kMethA_ap, Pg.make_ap, Pg.sl_ap, Pg.kSl1_ap, Pg.kSl2_ap, Pg.kSl3_ap, Pg.pNo_ap, Pg.pYes_ap, Pg.kPart_ap, Pg.revL_ap, Pg.kRvL_ap, Pg.kRvO_some, String.reduceEq, Int.reduceEq, if_true, if_false, Nat.reduceEqDiff, decide_not, beq_self_eq_true, true_and, and_true, decide_true, decide_false, Int.reduceLT, Int.reduceLE, Int.reduceNeg, Int.reduceAdd, Int.reduceSub, Int.reduceMul, Int.reducePow, Nat.reduceAdd, Nat.reduceSub, Nat.reduceLT, Nat.reduceLeDiff, Int.reduceToNat, Bool.not_true, Bool.not_false, dat_str k1, dat_str k2]
    exact h
  | got =>
    simp (implicitDefEqProofs := false) (disch := first | assumption | omega | (simp only [Pf.l_lenS, Pf.l_len0] <;> omega)) only [Pf.kOpt_some, Pf.look_ap, Pf.lkO_l, Pf.lkO_r, Pf.var_ap, Pf.c_ap, Pf.op_ap, Pf.op1_ap, Pf.op2_ap, Pf.tst_ap, Pf.kB_ap, Pf.asB_ap, Pf.kTo_some, Pf.tru_ap, Pf.kTru_ap, Pf.truB_bl, Pf.truB_non, Pf.truB_int, Pf.truB_tup, Pf.andV_ap, Pf.kAndV_ap, Pf.kAndB_t, Pf.kAndB_f, Pf.orV_ap, Pf.kOrV_ap, Pf.kOrB_t, Pf.kOrB_f, Pf.notV_ap, Pf.kNotV_ap, Pf.kNotB_ap, Pf.and_ap, Pf.kAnd_t, Pf.kAnd_f, Pf.or_ap, Pf.kOr_t, Pf.kOr_f, Pf.not_ap, Pf.kNot_ap, Pf.if_ap, Pf.kIf_t, Pf.kIf_f, Pf.un_ap, Pf.kUn_ap, Pf.neg_ap, Pf.chain_ap, Pf.kCh1_ap, Pf.kCh2_ap, Pf.kCh3_t, Pf.kCh3_f, Pf.maNil_ap, Pf.maCons_ap, Pf.kArg_ap, Pf.kArg2_ap, Pf.tup_ap, Pf.kTup_ap, Pf.lst_ap, Pf.kLst_ap, Pf.call_ap, Pf.kCall_ap, Pf.cb_ap, Pf.kCB_ap, Pf.isi_ap, Pf.kIsi_ap, Pf.kIsi2_some, Pf.tyN_int, Pf.tyN_bl, Pf.tyN_non, Pf.tyN_str, Pf.tyN_tup, Pf.tyB_ii, Pf.tyB_ib, Pf.tyB_bi, Pf.tyB_bb, Pf.tyB_tt, Pf.bm_ap, Pf.kBM_ap, Pf.kBM2_ap, Pf.msNil_ap, Pf.seq_ap, Pf.nx_mk, Pf.rt_mk, Pf.bk_mk, Pf.ct_mk, Pf.ret_ap, Pf.retN_ap, Pf.brk_ap, Pf.cont_ap, Pf.set_ap, Pf.kSet_ap, Pf.expr_ap, Pf.kDrop_ap, Pf.ifS_ap, Pf.kIfS_t, Pf.kIfS_f, Pf.sub_ap, Pf.kSub1_ap, Pf.kSub2_ap, Pf.kSub3_ap, Pf.defW_ap, Pf.add_ii, Pf.add_tt, Pf.sub_ii, Pf.mul_lt, Pf.mul_rt, Pf.mod_ii, Pf.fdiv_ii, Pf.lt_ii, Pf.le_ii, Pf.gt_ii, Pf.ge_ii, Pf.bId_ap, Pf.eq_ap, Pf.ne_ap, Pf.kEq_some, Pf.dat_int, Pf.dat_bl, Pf.dat_non, Pf.dat_str, Pf.dat_tup, Pf.eqv_ii, Pf.eqv_ss, Pf.eqv_bb, Pf.kO_some, Pf.ix_t, Pf.kL_some, Pf.at_0, Pf.at_1, Pf.at_2, Pf.at_3, Pf.at_4, Pf.at_5, Pf.len_t, Pf.list_t, Pf.list_f, Pf.tuple_t, Pf.int_i, Pf.int_b, Pf.l_set0, Pf.l_setS, Pf.l_get0, Pf.l_getS, Pf.l_len0, Pf.l_lenS, Pf.l_app0, Pf.l_appS, Pf.l_map0, Pf.l_mapS, Pf.l_len_map, Pf.l_rep0, Pf.l_repS, Pf.start_ap, Pf.wipe_nil, Pf.wipe_cons, Pf.supd_same, Pf.supd_ne, Pf.supd_supd, Pf.o_map_some, Pf.ixN_0, Pf.ixN_1, Pf.ixN_2, Pf.ixN_3, Pf.for_ap, Pf.kFor_ap, Pf.iter_ap, Pf.kIter_t, Pf.rng1_ap, Pf.kRng1_ap, Pf.rng2_ap, Pf.kRng2_ap, Pf.rev_ap, Pf.kRev_t, Pf.kNew_ap, Pf.lc_ap, Pf.kLc_ap, Pf.yes_ap, Pf.bind_nm, Pf.bind_tp, Pf.bindL_nil, Pf.bindL_cons, Pf.kBL_ap, Pf.pat_ap, Pf.kPat_ap, Pf.aug_ap, Pf.kAugO_ap, Pf.kAug1_ap, Pf.iadd_ii, Pf.rng_len, Pf.isL_r, Pf.kIsL_some, Pf.ix_r, Pf.kIx_some, Pf.len_r, Pf.kLen_some, Pf.list_r, Pf.kList_some, Pf.tuple_r, Pf.kTuple_some, Pf.put_r, Pf.kPut_l, Pf.kPutO_some, Pf.append_r, Pf.kApp_l, Pf.pop0_r, Pf.kPop0_l, Pf.kIter_r, Pf.kRev_r, Pf.kIterO_some, Pf.id_ap, Pf.dat_r, Pf.kDatL_some, Pf.bind_tpr, Pf.kBindO_some, Pg.disp_ap, Pg.dictN_ap, Pg.zip_nil, Pg.zip_cons, Pg.dget_ap, Pg.kDg_d, Pg.look_if, Pg.is_bb, Pg.is_nn, Pg.is_in, Pg.is_sn, Pg.is_tn, Pg.is_rn, Pg.isnt_bb, Pg.isnt_nn, Pg.isnt_in, Pg.isnt_sn, Pg.isnt_tn, Pg.isnt_rn, Pg.fld_ap, Pg.kFld_ap, Pg.kFldO_i, Pg.meth_ap, Pg.kMeth_ap, Pg.kMethO_i, Pg.kMethA_ap, Pg.make_ap, Pg.sl_ap, Pg.kSl1_ap, Pg.kSl2_ap, Pg.kSl3_ap, Pg.pNo_ap, Pg.pYes_ap, Pg.kPart_ap, Pg.revL_ap, Pg.kRvL_ap, Pg.kRvO_some, String.reduceEq, Int.reduceEq, if_true, if_false, Nat.reduceEqDiff, decide_not, beq_self_eq_true, true_and, and_true, decide_true, decide_false, Int.reduceLT, Int.reduceLE, Int.reduceNeg, Int.reduceAdd, Int.reduceSub, Int.reduceMul, Int.reducePow, Nat.reduceAdd, Nat.reduceSub, Nat.reduceLT, Nat.reduceLeDiff, Int.reduceToNat, Bool.not_true, Bool.not_false, dat_str k1, dat_str k2, dat_str k3]
    exact h
  | field i v hv =>
    rcases hf with rfl | ⟨a, rfl, ha⟩
    · simp (implicitDefEqProofs := false) (disch := first | assumption | omega | (simp only [Pf.l_lenS, Pf.l_len0] <;> omega)) only [Pf.kOpt_some, Pf.look_ap, Pf.lkO_l, Pf.lkO_r, Pf.var_ap, Pf.c_ap, Pf.op_ap, Pf.op1_ap, Pf.op2_ap, Pf.tst_ap, Pf.kB_ap, Pf.asB_ap, Pf.kTo_some, Pf.tru_ap, Pf.kTru_ap, Pf.truB_bl, Pf.truB_non, Pf.truB_int, Pf.truB_tup, Pf.andV_ap, Pf.kAndV_ap, Pf.kAndB_t, Pf.kAndB_f, Pf.orV_ap, Pf.kOrV_ap, Pf.kOrB_t, Pf.kOrB_f, Pf.notV_ap, Pf.kNotV_ap, Pf.kNotB_ap, Pf.and_ap, Pf.kAnd_t, Pf.kAnd_f, Pf.or_ap, Pf.kOr_t, Pf.kOr_f, Pf.not_ap, Pf.kNot_ap, Pf.if_ap, Pf.kIf_t, Pf.kIf_f, Pf.un_ap, Pf.kUn_ap, Pf.neg_ap, Pf.chain_ap, Pf.kCh1_ap, Pf.kCh2_ap, Pf.kCh3_t, Pf.kCh3_f, Pf.maNil_ap, Pf.maCons_ap, Pf.kArg_ap, Pf.kArg2_ap, Pf.tup_ap, Pf.kTup_ap, Pf.lst_ap, Pf.kLst_ap, Pf.call_ap, Pf.kCall_ap, Pf.cb_ap, Pf.kCB_ap, Pf.isi_ap, Pf.kIsi_ap, Pf.kIsi2_some, Pf.tyN_int, Pf.tyN_bl, Pf.tyN_non, Pf.tyN_str, Pf.tyN_tup, Pf.tyB_ii, Pf.tyB_ib, Pf.tyB_bi, Pf.tyB_bb, Pf.tyB_tt, Pf.bm_ap, Pf.kBM_ap, Pf.kBM2_ap, Pf.msNil_ap, Pf.seq_ap, Pf.nx_mk, Pf.rt_mk, Pf.bk_mk, Pf.ct_mk, Pf.ret_ap, Pf.retN_ap, Pf.brk_ap, Pf.cont_ap, Pf.set_ap, Pf.kSet_ap, Pf.expr_ap, Pf.kDrop_ap, Pf.ifS_ap, Pf.kIfS_t, Pf.kIfS_f, Pf.sub_ap, Pf.kSub1_ap, Pf.kSub2_ap, Pf.kSub3_ap, Pf.defW_ap, Pf.add_ii, Pf.add_tt, Pf.sub_ii, Pf.mul_lt, Pf.mul_rt, Pf.mod_ii, Pf.fdiv_ii, Pf.lt_ii, Pf.le_ii, Pf.gt_ii, Pf.ge_ii, Pf.bId_ap, Pf.eq_ap, Pf.ne_ap, Pf.kEq_some, Pf.dat_int, Pf.dat_bl, Pf.dat_non, Pf.dat_str, Pf.dat_tup, Pf.eqv_ii, Pf.eqv_ss, Pf.eqv_bb, Pf.kO_some, Pf.ix_t, Pf.kL_some, Pf.at_0, Pf.at_1, Pf.at_2, Pf.at_3, Pf.at_4, Pf.at_5, Pf.len_t, Pf.list_t, Pf.list_f, Pf.tuple_t, Pf.int_i, Pf.int_b, Pf.l_set0, Pf.l_setS, Pf.l_get0, Pf.l_getS, Pf.l_len0, Pf.l_lenS, Pf.l_app0, Pf.l_appS, Pf.l_map0, Pf.l_mapS, Pf.l_len_map, Pf.l_rep0, Pf.l_repS, Pf.start_ap, Pf.wipe_nil, Pf.wipe_cons, Pf.supd_same, Pf.supd_ne, Pf.supd_supd, Pf.o_map_some, Pf.ixN_0, Pf.ixN_1, Pf.ixN_2, Pf.ixN_3, Pf.for_ap, Pf.kFor_ap, Pf.iter_ap, Pf.kIter_t, Pf.rng1_ap, Pf.kRng1_ap, Pf.rng2_ap, Pf.kRng2_ap, Pf.rev_ap, Pf.kRev_t, Pf.kNew_ap, Pf.lc_ap, Pf.kLc_ap, Pf.yes_ap, Pf.bind_nm, Pf.bind_tp, Pf.bindL_nil, Pf.bindL_cons, Pf.kBL_ap, Pf.pat_ap, Pf.kPat_ap, Pf.aug_ap, Pf.kAugO_ap, Pf.kAug1_ap, Pf.iadd_ii, Pf.rng_len, Pf.isL_r, Pf.kIsL_some, Pf.ix_r, Pf.kIx_some, Pf.len_r, Pf.kLen_some, Pf.list_r, Pf.kList_some, Pf.tuple_r, Pf.kTuple_some, Pf.put_r, Pf.kPut_l, Pf.kPutO_some, Pf.append_r, Pf.kApp_l, Pf.pop0_r, Pf.kPop0_l, Pf.kIter_r, Pf.kRev_r, Pf.kIterO_some, Pf.id_ap, Pf.dat_r, Pf.kDatL_some, Pf.bind_tpr, Pf.kBindO_some, Pg.disp_ap, Pg.dictN_ap, Pg.zip_nil, Pg.zip_cons, Pg.dget_ap, Pg.kDg_d, Pg.look_if, Pg.is_bb, Pg.is_nn, Pg.is_in, Pg.is_sn, Pg.is_tn, Pg.is_rn, Pg.isnt_bb, Pg.isnt_nn, Pg.isnt_in, Pg.isnt_sn, Pg.isnt_tn, Pg.isnt_rn, Pg.fld_ap, Pg.kFld_ap, Pg.kFldO_i, Pg.meth_ap, Pg.kMeth_ap, Pg.kMethO_i, Pg.kMethA_ap, Pg.make_ap, Pg.sl_ap, Pg.kSl1_ap, Pg.kSl2_ap, Pg.kSl3_ap, Pg.pNo_ap, Pg.pYes_ap, Pg.kPart_ap, Pg.revL_ap, Pg.kRvL_ap, Pg.kRvO_some, String.reduceEq, Int.reduceEq, if_true, if_false, Nat.reduceEqDiff, decide_not, beq_self_eq_true, true_and, and_true, decide_true, decide_false, Int.reduceLT, Int.reduceLE, Int.reduceNeg, Int.reduceAdd, Int.reduceSub, Int.reduceMul, Int.reducePow, Nat.reduceAdd, Nat.reduceSub, Nat.reduceLT, Nat.reduceLeDiff, Int.reduceToNat, Bool.not_true, Bool.not_false, at_ints hv, dat_str k1, dat_str k2, dat_str k3, dat_str k4]
      exact h
    · simp (implicitDefEqProofs := false) (disch := first | assumption | omega | (simp only [Pf.l_lenS, Pf.l_len0] <;> omega)) only [Pf.kOpt_some, Pf.look_ap, Pf.lkO_l, Pf.lkO_r, Pf.var_ap, Pf.c_ap, Pf.op_ap, Pf.op1_ap, Pf.op2_ap, Pf.tst_ap, Pf.kB_ap, Pf.asB_ap, Pf.kTo_some, Pf.tru_ap, Pf.kTru_ap, Pf.truB_bl, Pf.truB_non, Pf.truB_int, Pf.truB_tup, Pf.andV_ap, Pf.kAndV_ap, Pf.kAndB_t, Pf.kAndB_f, Pf.orV_ap, Pf.kOrV_ap, Pf.kOrB_t, Pf.kOrB_f, Pf.notV_ap, Pf.kNotV_ap, Pf.kNotB_ap, Pf.and_ap, Pf.kAnd_t, Pf.kAnd_f, Pf.or_ap, Pf.kOr_t, Pf.kOr_f, Pf.not_ap, Pf.kNot_ap, Pf.if_ap, Pf.kIf_t, Pf.kIf_f, Pf.un_ap, Pf.kUn_ap, Pf.neg_ap, Pf.chain_ap, Pf.kCh1_ap, Pf.kCh2_ap, Pf.kCh3_t, Pf.kCh3_f, Pf.maNil_ap, Pf.maCons_ap, Pf.kArg_ap, Pf.kArg2_ap, Pf.tup_ap, Pf.kTup_ap, Pf.lst_ap, Pf.kLst_ap, Pf.call_ap, Pf.kCall_ap, Pf.cb_ap, Pf.kCB_ap, Pf.isi_ap, Pf.kIsi_ap, Pf.kIsi2_some, Pf.tyN_int, Pf.tyN_bl, Pf.tyN_non, Pf.tyN_str, Pf.tyN_tup, Pf.tyB_ii, Pf.tyB_ib, Pf.tyB_bi, Pf.tyB_bb, Pf.tyB_tt, Pf.bm_ap, Pf.kBM_ap, Pf.kBM2_ap, Pf.msNil_ap, Pf.seq_ap, Pf.nx_mk, Pf.rt_mk, Pf.bk_mk, Pf.ct_mk, Pf.ret_ap, Pf.retN_ap, Pf.brk_ap, Pf.cont_ap, Pf.set_ap, Pf.kSet_ap, Pf.expr_ap, Pf.kDrop_ap, Pf.ifS_ap, Pf.kIfS_t, Pf.kIfS_f, Pf.sub_ap, Pf.kSub1_ap, Pf.kSub2_ap, Pf.kSub3_ap, Pf.defW_ap, Pf.add_ii, Pf.add_tt, Pf.sub_ii, Pf.mul_lt, Pf.mul_rt, Pf.mod_ii, Pf.fdiv_ii, Pf.lt_ii, Pf.le_ii, Pf.gt_ii, Pf.ge_ii, Pf.bId_ap, Pf.eq_ap, Pf.ne_ap, Pf.kEq_some, Pf.dat_int, Pf.dat_bl, Pf.dat_non, Pf.dat_str, Pf.dat_tup, Pf.eqv_ii, Pf.eqv_ss, Pf.eqv_bb, Pf.kO_some, Pf.ix_t, Pf.kL_some, Pf.at_0, Pf.at_1, Pf.at_2, Pf.at_3, Pf.at_4, Pf.at_5, Pf.len_t, Pf.list_t, Pf.list_f, Pf.tuple_t, Pf.int_i, Pf.int_b, Pf.l_set0, Pf.l_setS, Pf.l_get0, Pf.l_getS, Pf.l_len0, Pf.l_lenS, Pf.l_app0, Pf.l_appS, Pf.l_map0, Pf.l_mapS, Pf.l_len_map, Pf.l_rep0, Pf.l_repS, Pf.start_ap, Pf.wipe_nil, Pf.wipe_cons, Pf.supd_same, Pf.supd_ne, Pf.supd_supd, Pf.o_map_some, Pf.ixN_0, Pf.ixN_1, Pf.ixN_2, Pf.ixN_3, Pf.for_ap, Pf.kFor_ap, Pf.iter_ap, Pf.kIter_t, Pf.rng1_ap, Pf.kRng1_ap, Pf.rng2_ap, Pf.kRng2_ap, Pf.rev_ap, Pf.kRev_t, Pf.kNew_ap, Pf.lc_ap, Pf.kLc_ap, Pf.yes_ap, Pf.bind_nm, Pf.bind_tp, Pf.bindL_nil, Pf.bindL_cons, Pf.kBL_ap, Pf.pat_ap, Pf.kPat_ap, Pf.aug_ap, Pf.kAugO_ap, Pf.kAug1_ap, Pf.iadd_ii, Pf.rng_len, Pf.isL_r, Pf.kIsL_some, Pf.ix_r, Pf.kIx_some, Pf.len_r, Pf.kLen_some, Pf.list_r, Pf.kList_some, Pf.tuple_r, Pf.kTuple_some, Pf.put_r, Pf.kPut_l, Pf.kPutO_some, Pf.append_r, Pf.kApp_l, Pf.pop0_r, Pf.kPop0_l, Pf.kIter_r, Pf.kRev_r, Pf.kIterO_some, Pf.id_ap, Pf.dat_r, Pf.kDatL_some, Pf.bind_tpr, Pf.kBindO_some, Pg.disp_ap, Pg.dictN_ap, Pg.zip_nil, Pg.zip_cons, Pg.dget_ap, Pg.kDg_d, Pg.look_if, Pg.is_bb, Pg.is_nn, Pg.is_in, Pg.is_sn, Pg.is_tn, Pg.is_rn, Pg.isnt_bb, Pg.isnt_nn, Pg.isnt_in, Pg.isnt_sn, Pg.isnt_tn, Pg.isnt_rn, Pg.fld_ap, Pg.kFld_ap, Pg.kFldO_i, Pg.meth_ap, Pg.kMeth_ap, Pg.kMethO_i, Pg.kMethA_ap, Pg.make_ap, Pg.sl_ap, Pg.kSl1_ap, Pg.kSl2_ap, Pg.kSl3_ap, Pg.pNo_ap, Pg.pYes_ap, Pg.kPart_ap, Pg.revL_ap, Pg.kRvL_ap, Pg.kRvO_some, String.reduceEq, Int.reduceEq, if_true, if_false, Nat.reduceEqDiff, decide_not, beq_self_eq_true, true_and, and_true, decide_true, decide_false, Int.reduceLT, Int.reduceLE, Int.reduceNeg, Int.reduceAdd, Int.reduceSub, Int.reduceMul, Int.reducePow, Nat.reduceAdd, Nat.reduceSub, Nat.reduceLT, Nat.reduceLeDiff, Int.reduceToNat, Bool.not_true, Bool.not_false, at_ints hv, ha, dat_str k1, dat_str k2, dat_str k3, dat_str k4]
      exact h
  | switch i v hv =>
    simp (implicitDefEqProofs := false) (disch := first | assumption | omega | (simp only [Pf.l_lenS, Pf.l_len0] <;> omega)) only [Pf.kOpt_some, Pf.look_ap, Pf.lkO_l, Pf.lkO_r, Pf.var_ap, Pf.c_ap, Pf.op_ap, Pf.op1_ap, Pf.op2_ap, Pf.tst_ap, Pf.kB_ap, Pf.asB_ap, Pf.kTo_some, Pf.tru_ap, Pf.kTru_ap, Pf.truB_bl, Pf.truB_non, Pf.truB_int, Pf.truB_tup, Pf.andV_ap, Pf.kAndV_ap, Pf.kAndB_t, Pf.kAndB_f, Pf.orV_ap, Pf.kOrV_ap, Pf.kOrB_t, Pf.kOrB_f, Pf.notV_ap, Pf.kNotV_ap, Pf.kNotB_ap, Pf.and_ap, Pf.kAnd_t, Pf.kAnd_f, Pf.or_ap, Pf.kOr_t, Pf.kOr_f, Pf.not_ap, Pf.kNot_ap, Pf.if_ap, Pf.kIf_t, Pf.kIf_f, Pf.un_ap, Pf.kUn_ap, Pf.neg_ap, Pf.chain_ap, Pf.kCh1_ap, Pf.kCh2_ap, Pf.kCh3_t, Pf.kCh3_f, Pf.maNil_ap, Pf.maCons_ap, Pf.kArg_ap, Pf.kArg2_ap, Pf.tup_ap, Pf.kTup_ap, Pf.lst_ap, Pf.kLst_ap, Pf.call_ap, Pf.kCall_ap, Pf.cb_ap, Pf.kCB_ap, Pf.isi_ap, Pf.kIsi_ap, Pf.kIsi2_some, Pf.tyN_int, Pf.tyN_bl, Pf.tyN_non, Pf.tyN_str, Pf.tyN_tup, Pf.tyB_ii, Pf.tyB_ib, Pf.tyB_bi, Pf.tyB_bb, Pf.tyB_tt, Pf.bm_ap, Pf.kBM_ap, Pf.kBM2_ap, Pf.msNil_ap, Pf.seq_ap, Pf.nx_mk, Pf.rt_mk, Pf.bk_mk, Pf.ct_mk, Pf.ret_ap, Pf.retN_ap, Pf.brk_ap, Pf.cont_ap, Pf.set_ap, Pf.kSet_ap, Pf.expr_ap, Pf.kDrop_ap, Pf.ifS_ap, Pf.kIfS_t, Pf.kIfS_f, Pf.sub_ap, Pf.kSub1_ap, Pf.kSub2_ap, Pf.kSub3_ap, Pf.defW_ap, Pf.add_ii, Pf.add_tt, Pf.sub_ii, Pf.mul_lt, Pf.mul_rt, Pf.mod_ii, Pf.fdiv_ii, Pf.lt_ii, Pf.le_ii, Pf.gt_ii, Pf.ge_ii, Pf.bId_ap, Pf.eq_ap, Pf.ne_ap, Pf.kEq_some, Pf.dat_int, Pf.dat_bl, Pf.dat_non, Pf.dat_str, Pf.dat_tup, Pf.eqv_ii, Pf.eqv_ss, Pf.eqv_bb, Pf.kO_some, Pf.ix_t, Pf.kL_some, Pf.at_0, Pf.at_1, Pf.at_2, Pf.at_3, Pf.at_4, Pf.at_5, Pf.len_t, Pf.list_t, Pf.list_f, Pf.tuple_t, Pf.int_i, Pf.int_b, Pf.l_set0, Pf.l_setS, Pf.l_get0, Pf.l_getS, Pf.l_len0, Pf.l_lenS, Pf.l_app0, Pf.l_appS, Pf.l_map0, Pf.l_mapS, Pf.l_len_map, Pf.l_rep0, Pf.l_repS, Pf.start_ap, Pf.wipe_nil, Pf.wipe_cons, Pf.supd_same, Pf.supd_ne, Pf.supd_supd, Pf.o_map_some, Pf.ixN_0, Pf.ixN_1, Pf.ixN_2, Pf.ixN_3, Pf.for_ap, Pf.kFor_ap, Pf.iter_ap, Pf.kIter_t, Pf.rng1_ap, Pf.kRng1_ap, Pf.rng2_ap, Pf.kRng2_ap, Pf.rev_ap, Pf.kRev_t, Pf.kNew_ap, Pf.lc_ap, Pf.kLc_ap, Pf.yes_ap, Pf.bind_nm, Pf.bind_tp, Pf.bindL_nil, Pf.bindL_cons, Pf.kBL_ap, Pf.pat_ap, Pf.kPat_ap, Pf.aug_ap, Pf.kAugO_ap, Pf.kAug1_ap, Pf.iadd_ii, Pf.rng_len, Pf.isL_r, Pf.kIsL_some, Pf.ix_r, Pf.kIx_some, Pf.len_r, Pf.kLen_some, Pf.list_r, Pf.kList_some, Pf.tuple_r, Pf.kTuple_some, Pf.put_r, Pf.kPut_l, Pf.kPutO_some, Pf.append_r, Pf.kApp_l, Pf.pop0_r, Pf.kPop0_l, Pf.kIter_r, Pf.kRev_r, Pf.kIterO_some, Pf.id_ap, Pf.dat_r, Pf.kDatL_some, Pf.bind_tpr, Pf.kBindO_some, Pg.disp_ap, Pg.dictN_ap, Pg.zip_nil, Pg.zip_cons, Pg.dget_ap, Pg.kDg_d, Pg.look_if, Pg.is_bb, Pg.is_nn, Pg.is_in, Pg.is_sn, Pg.is_tn, Pg.is_rn, Pg.isnt_bb, Pg.isnt_nn, Pg.isnt_in, Pg.isnt_sn, Pg.isnt_tn, Pg.isnt_rn, Pg.fld_ap, Pg.kFld_ap, Pg.kFldO_i, Pg.meth_ap, Pg.kMeth_ap, Pg.kMethO_i, Pg.kMethA_ap, Pg.make_ap, Pg.sl_ap, Pg.kSl1_ap, Pg.kSl2_ap, Pg.kSl3_ap, Pg.pNo_ap, Pg.pYes_ap, Pg.kPart_ap, Pg.revL_ap, Pg.kRvL_ap, Pg.kRvO_some, String.reduceEq, Int.reduceEq, if_true, if_false, Nat.reduceEqDiff, decide_not, beq_self_eq_true, true_and, and_true, decide_true, decide_false, Int.reduceLT, Int.reduceLE, Int.reduceNeg, Int.reduceAdd, Int.reduceSub, Int.reduceMul, Int.reducePow, Nat.reduceAdd, Nat.reduceSub, Nat.reduceLT, Nat.reduceLeDiff, Int.reduceToNat, Bool.not_true, Bool.not_false, at_ints hv, dat_str k1, dat_str k2, dat_str k3, dat_str k4, dat_str k5]
    exact h
theorem lvalue_spec {fs ss : List Int} {arg got w : Int} {e f : MV} {S : Sto} {R : MK} (r : Ex fs ss arg got e w) (hf : f = .tup (fs.map .int) ∨ ∃ a, f = .ref a ∧ S a = some (.lst (fs.map .int))) (h : R (.int w) S) :
    Rw.W__law_value [e, f, .tup (ss.map .int), .int arg, .int got] S R := by
  unfold Rw.W__law_value Rw.B__law_value
  cases r with
  | value v =>
    simp (implicitDefEqProofs := false) (disch := first | assumption | omega | (simp only [Pf.l_lenS, Pf.l_len0] <;> omega)) only [Pf.kOpt_some, Pf.look_ap, Pf.lkO_l, Pf.lkO_r, Pf.var_ap, Pf.c_ap, Pf.op_ap, Pf.op1_ap, Pf.op2_ap, Pf.tst_ap, Pf.kB_ap, Pf.asB_ap, Pf.kTo_some, Pf.tru_ap, Pf.kTru_ap, Pf.truB_bl, Pf.truB_non, Pf.truB_int, Pf.truB_tup, Pf.andV_ap, Pf.kAndV_ap, Pf.kAndB_t, Pf.kAndB_f, Pf.orV_ap, Pf.kOrV_ap, Pf.kOrB_t, Pf.kOrB_f, Pf.notV_ap, Pf.kNotV_ap, Pf.kNotB_ap, Pf.and_ap, Pf.kAnd_t, Pf.kAnd_f, Pf.or_ap, Pf.kOr_t, Pf.kOr_f, Pf.not_ap, Pf.kNot_ap, Pf.if_ap, Pf.kIf_t, Pf.kIf_f, Pf.un_ap, Pf.kUn_ap, Pf.neg_ap, Pf.chain_ap, Pf.kCh1_ap, Pf.kCh2_ap, Pf.kCh3_t, Pf.kCh3_f, Pf.maNil_ap, Pf.maCons_ap, Pf.kArg_ap, Pf.kArg2_ap, Pf.tup_ap, Pf.kTup_ap, Pf.lst_ap, Pf.kLst_ap, Pf.call_ap, Pf.kCall_ap, Pf.cb_ap, Pf.kCB_ap, Pf.isi_ap, Pf.kIsi_ap, Pf.kIsi2_some, Pf.tyN_int, Pf.tyN_bl, Pf.tyN_non, Pf.tyN_str, Pf.tyN_tup, Pf.tyB_ii, Pf.tyB_ib, Pf.tyB_bi, Pf.tyB_bb, Pf.tyB_tt, Pf.bm_ap, Pf.kBM_ap, Pf.kBM2_ap, Pf.msNil_ap, Pf.seq_ap, Pf.nx_mk, Pf.rt_mk, Pf.bk_mk, Pf.ct_mk, Pf.ret_ap, Pf.retN_ap, Pf.brk_ap, Pf.cont_ap, Pf.set_ap, Pf.kSet_ap, Pf.expr_ap, Pf.kDrop_ap, Pf.ifS_ap, Pf.kIfS_t, Pf.kIfS_f, Pf.sub_ap, Pf.kSub1_ap, Pf.kSub2_ap, Pf.kSub3_ap, Pf.defW_ap, Pf.add_ii, Pf.add_tt, Pf.sub_ii, Pf.mul_lt, Pf.mul_rt, Pf.mod_ii, Pf.fdiv_ii, Pf.lt_ii, Pf.le_ii, Pf.gt_ii, Pf.ge_ii, Pf.bId_ap, Pf.eq_ap, Pf.ne_ap, Pf.kEq_some, Pf.dat_int, Pf.dat_bl, Pf.dat_non, Pf.dat_str, Pf.dat_tup, Pf.eqv_ii, Pf.eqv_ss, Pf.eqv_bb, Pf.kO_some, Pf.ix_t, Pf.kL_some, Pf.at_0, Pf.at_1, Pf.at_2, Pf.at_3, Pf.at_4, Pf.at_5, Pf.len_t, Pf.list_t, Pf.list_f, Pf.tuple_t, Pf.int_i, Pf.int_b, Pf.l_set0, Pf.l_setS, Pf.l_get0, Pf.l_getS, Pf.l_len0, Pf.l_lenS, Pf.l_app0, Pf.l_appS, Pf.l_map0, Pf.l_mapS, Pf.l_len_map, Pf.l_rep0, Pf.l_repS, Pf.start_ap, Pf.wipe_nil, Pf.wipe_cons, Pf.supd_same, Pf.supd_ne, Pf.supd_supd, Pf.o_map_some, Pf.ixN_0, Pf.ixN_1, Pf.ixN_2, Pf.ixN_3, Pf.for_ap, Pf.kFor_ap, Pf.iter_ap, Pf.kIter_t, Pf.rng1_ap, Pf.kRng1_ap, Pf.rng2_ap, Pf.kRng2_ap, Pf.rev_ap, Pf.kRev_t, Pf.kNew_ap, Pf.lc_ap, Pf.kLc_ap, Pf.yes_ap, Pf.bind_nm, Pf.bind_tp, Pf.bindL_nil, Pf.bindL_cons, Pf.kBL_ap, Pf.pat_ap, Pf.kPat_ap, Pf.aug_ap, Pf.kAugO_ap, Pf.kAug1_ap, Pf.iadd_ii, Pf.rng_len, Pf.isL_r, Pf.kIsL_some, Pf.ix_r, Pf.kIx_some, Pf.len_r, Pf.kLen_some, Pf.list_r, Pf.kList_some, Pf.tuple_r, Pf.kTuple_some, Pf.put_r, Pf.kPut_l, Pf.kPutO_some, Pf.append_r, Pf.kApp_l, Pf.pop0_r, Pf.kPop0_l, Pf.kIter_r, Pf.kRev_r, Pf.kIterO_some, Pf.id_ap, Pf.dat_r, Pf.kDatL_some, Pf.bind_tpr, Pf.kBindO_some, Pg.disp_ap, Pg.dictN_ap, Pg.zip_nil, Pg.zip_cons, Pg.dget_ap, Pg.kDg_d, Pg.look_if, Pg.is_bb, Pg.is_nn, Pg.is_in, Pg.is_sn, Pg.is_tn, Pg.is_rn, Pg.isnt_bb, Pg.isnt_nn, Pg.isnt_in, Pg.isnt_sn, Pg.isnt_tn, Pg.isnt_rn, Pg.fld_ap, Pg.kFld_ap, Pg.kFldO_i, Pg.meth_ap, Pg.kMeth_ap, Pg.kMethO_i, Pg.kMethA_ap, Pg.make_ap, Pg.sl_ap, Pg.kSl1_ap, Pg.kSl2_ap, Pg.kSl3_ap, Pg.pNo_ap, Pg.pYes_ap, Pg.kPart_ap, Pg.revL_ap, Pg.kRvL_ap, Pg.kRvO_some, String.reduceEq, Int.reduceEq, if_true, if_false, Nat.reduceEqDiff, decide_not, beq_self_eq_true, true_and, and_true, decide_true, decide_false, Int.reduceLT, Int.reduceLE, Int.reduceNeg, Int.reduceAdd, Int.reduceSub, Int.reduceMul, Int.reducePow, Nat.reduceAdd, Nat.reduceSub, Nat.reduceLT, Nat.reduceLeDiff, Int.reduceToNat, Bool.not_true, Bool.not_false, dat_str k1]
    exact h
  | arg => 
    simp (implicitDefEqProofs := false) (disch := first | assumption | omega | (simp only [Pf.l_lenS, Pf.l_len0] <;> omega)) only [Pf.kOpt_some, Pf.look_ap, Pf.lkO_l, Pf.lkO_r, Pf.var_ap, Pf.c_ap, Pf.op_ap, Pf.op1_ap, Pf.op2_ap, Pf.tst_ap, Pf.kB_ap, Pf.asB_ap, Pf.kTo_some, Pf.tru_ap, Pf.kTru_ap, Pf.truB_bl, Pf.truB_non, Pf.truB_int, Pf.truB_tup, Pf.andV_ap, Pf.kAndV_ap, Pf.kAndB_t, Pf.kAndB_f, Pf.orV_ap, Pf.kOrV_ap, Pf.kOrB_t, Pf.kOrB_f, Pf.notV_ap, Pf.kNotV_ap, Pf.kNotB_ap, Pf.and_ap, Pf.kAnd_t, Pf.kAnd_f, Pf.or_ap, Pf.kOr_t, Pf.kOr_f, Pf.not_ap, Pf.kNot_ap, Pf.if_ap, Pf.kIf_t, Pf.kIf_f, Pf.un_ap, Pf.kUn_ap, Pf.neg_ap, Pf.chain_ap, Pf.kCh1_ap, Pf.kCh2_ap, Pf.kCh3_t, Pf.kCh3_f, Pf.maNil_ap, Pf.maCons_ap, Pf.kArg_ap, Pf.kArg2_ap, Pf.tup_ap, Pf.kTup_ap, Pf.lst_ap, Pf.kLst_ap, Pf.call_ap, Pf.kCall_ap, Pf.cb_ap, Pf.kCB_ap, Pf.isi_ap, Pf.kIsi_ap, Pf.kIsi2_some, Pf.tyN_int, Pf.tyN_bl, Pf.tyN_non, Pf.tyN_str, Pf.tyN_tup, Pf.tyB_ii, Pf.tyB_ib, Pf.tyB_bi, Pf.tyB_bb, Pf.tyB_tt, Pf.bm_ap, Pf.kBM_ap, Pf.kBM2_ap, Pf.msNil_ap, Pf.seq_ap, Pf.nx_mk, Pf.rt_mk, Pf.bk_mk, Pf.ct_mk, Pf.ret_ap, Pf.retN_ap, Pf.brk_ap, Pf.cont_ap, Pf.set_ap, Pf.kSet_ap, Pf.expr_ap, Pf.kDrop_ap, Pf.ifS_ap, Pf.kIfS_t, Pf.kIfS_f, Pf.sub_ap, Pf.kSub1_ap, Pf.kSub2_ap, Pf.kSub3_ap, Pf.defW_ap, Pf.add_ii, Pf.add_tt, Pf.sub_ii, Pf.mul_lt, Pf.mul_rt, Pf.mod_ii, Pf.fdiv_ii, Pf.lt_ii, Pf.le_ii, Pf.gt_ii, Pf.ge_ii, Pf.bId_ap, Pf.eq_ap, Pf.ne_ap, Pf.kEq_some, Pf.dat_int, Pf.dat_bl, Pf.dat_non, Pf.dat_str, Pf.dat_tup, Pf.eqv_ii, Pf.eqv_ss, Pf.eqv_bb, Pf.kO_some, Pf.ix_t, Pf.kL_some, Pf.at_0, Pf.at_1, Pf.at_2, Pf.at_3, Pf.at_4, Pf.at_5, Pf.len_t, Pf.list_t, Pf.list_f, Pf.tuple_t, Pf.int_i, Pf.int_b, Pf.l_set0, Pf.l_setS, Pf.l_get0, Pf.l_getS, Pf.l_len0, Pf.l_lenS, Pf.l_app0, Pf.l_appS, Pf.l_map0, Pf.l_mapS, Pf.l_len_map, Pf.l_rep0, Pf.l_repS, Pf.start_ap, Pf.wipe_nil, Pf.wipe_cons, Pf.supd_same, Pf.supd_ne, Pf.supd_supd, Pf.o_map_some, Pf.ixN_0, Pf.ixN_1, Pf.ixN_2, Pf.ixN_3, Pf.for_ap, Pf.kFor_ap, Pf.iter_ap, Pf.kIter_t, Pf.rng1_ap, Pf.kRng1_ap, Pf.rng2_ap, Pf.kRng2_ap, Pf.rev_ap, Pf.kRev_t, Pf.kNew_ap, Pf.lc_ap, Pf.kLc_ap, Pf.yes_ap, Pf.bind_nm, Pf.bind_tp, Pf.bindL_nil, Pf.bindL_cons, Pf.kBL_ap, Pf.pat_ap, Pf.kPat_ap, Pf.aug_ap, Pf.kAugO_ap, Pf.kAug1_ap, Pf.iadd_ii, Pf.rng_len, Pf.isL_r, Pf.kIsL_some, Pf.ix_r, Pf.kIx_some, Pf.len_r, Pf.kLen_some, Pf.list_r, Pf.kList_some, Pf.tuple_r, Pf.kTuple_some, Pf.put_r, Pf.kPut_l, Pf.kPutO_some, Pf.append_r, Pf.kApp_l, Pf.pop0_r, Pf.kPop0_l, Pf.kIter_r, Pf.kRev_r, Pf.kIterO_some, Pf.id_ap, Pf.dat_r, Pf.kDatL_some, Pf.bind_tpr, Pf.kBindO_some, Pg.disp_ap, Pg.dictN_ap, Pg.zip_nil, Pg.zip_cons, Pg.dget_ap, Pg.kDg_d, Pg.look_if, Pg.is_bb, Pg.is_nn, Pg.is_in, Pg.is_sn, Pg.is_tn, Pg.is_rn, Pg.isnt_bb, Pg.isnt_nn, Pg.isnt_in, Pg.isnt_sn, Pg.isnt_tn, Pg.isnt_rn, Pg.fld_ap, Pg.kFld_ap, Pg.kFldO_i, Pg.meth_ap, Pg.kMeth_ap, Pg.kMethO_i, Pg.kMethA_ap, Pg.make_ap, Pg.sl_ap, Pg.kSl1_ap, Pg.kSl2_ap, Pg.kSl3_ap, Pg.pNo_ap, Pg.pYes_ap, Pg.kPart_ap, Pg.revL_ap, Pg.kRvL_ap, Pg.kRvO_some, String.reduceEq, Int.reduceEq, if_true, if_false, Nat.reduceEqDiff, decide_not, beq_self_eq_true, true_and, and_true, decide_true, decide_false, Int.reduceLT, Int.reduceLE, Int.reduceNeg, Int.reduceAdd, Int.reduceSub, Int.reduceMul, Int.reducePow, Nat.reduceAdd, Nat.reduceSub, Nat.reduceLT, Nat.reduceLeDiff, Int.reduceToNat, Bool.not_true, Bool.not_false, dat_str k1, dat_str k2, dat_str k4, dat_str k5]
    exact h
  | got =>
    simp (implicitDefEqProofs := false) (disch := first | assumption | omega | (simp only [Pf.l_lenS, Pf.l_len0] <;> omega)) only [Pf.kOpt_some, Pf.look_ap, Pf.lkO_l, Pf.lkO_r, Pf.var_ap, Pf.c_ap, Pf.op_ap, Pf.op1_ap, Pf.op2_ap, Pf.tst_ap, Pf.kB_ap, Pf.asB_ap, Pf.kTo_some, Pf.tru_ap, Pf.kTru_ap, Pf.truB_bl, Pf.truB_non, Pf.truB_int, Pf.truB_tup, Pf.andV_ap, Pf.kAndV_ap, Pf.kAndB_t, Pf.kAndB_f, Pf.orV_ap, Pf.kOrV_ap, Pf.kOrB_t, Pf.kOrB_f, Pf.notV_ap, Pf.kNotV_ap, Pf.kNotB_ap, Pf.and_ap, Pf.kAnd_t, Pf.kAnd_f, Pf.or_ap, Pf.kOr_t, Pf.kOr_f, Pf.not_ap, Pf.kNot_ap, Pf.if_ap, Pf.kIf_t, Pf.kIf_f, Pf.un_ap, Pf.kUn_ap, Pf.neg_ap, Pf.chain_ap, Pf.kCh1_ap, Pf.kCh2_ap, Pf.kCh3_t, Pf.kCh3_f, Pf.maNil_ap, Pf.maCons_ap, Pf.kArg_ap, Pf.kArg2_ap, Pf.tup_ap, Pf.kTup_ap, Pf.lst_ap, Pf.kLst_ap, Pf.call_ap, Pf.kCall_ap, Pf.cb_ap, Pf.kCB_ap, Pf.isi_ap, Pf.kIsi_ap, Pf.kIsi2_some, Pf.tyN_int, Pf.tyN_bl, Pf.tyN_non, Pf.tyN_str, Pf.tyN_tup, Pf.tyB_ii, Pf.tyB_ib, Pf.tyB_bi, Pf.tyB_bb, Pf.tyB_tt, Pf.bm_ap, Pf.kBM_ap, Pf.kBM2_ap, Pf.msNil_ap, Pf.seq_ap, Pf.nx_mk, Pf.rt_mk, Pf.bk_mk, Pf.ct_mk, Pf.ret_ap, Pf.retN_ap, Pf.brk_ap, Pf.cont_ap, Pf.set_ap, Pf.kSet_ap, Pf.expr_ap, Pf.kDrop_ap, Pf.ifS_ap, Pf.kIfS_t, Pf.kIfS_f, Pf.sub_ap, Pf.kSub1_ap, Pf.kSub2_ap, Pf.kSub3_ap, Pf.defW_ap, Pf.add_ii, Pf.add_tt, Pf.sub_ii, Pf.mul_lt, Pf.mul_rt, Pf.mod_ii, Pf.fdiv_ii, Pf.lt_ii, Pf.le_ii, Pf.gt_ii, Pf.ge_ii, Pf.bId_ap, Pf.eq_ap, Pf.ne_ap, Pf.kEq_some, Pf.dat_int, Pf.dat_bl, Pf.dat_non, Pf.dat_str, Pf.dat_tup, Pf.eqv_ii, Pf.eqv_ss, Pf.eqv_bb, Pf.kO_some, Pf.ix_t, Pf.kL_some, Pf.at_0, Pf.at_1, Pf.at_2, Pf.at_3, Pf.at_4, Pf.at_5, Pf.len_t, Pf.list_t, Pf.list_f, Pf.tuple_t, Pf.int_i, Pf.int_b, Pf.l_set0, Pf.l_setS, Pf.l_get0, Pf.l_getS, Pf.l_len0, Pf.l_lenS, Pf.l_app0, Pf.l_appS, Pf.l_map0, Pf.l_mapS, Pf.l_len_map, Pf.l_rep0, Pf.l_repS, Pf.start_ap, Pf.wipe_nil, Pf.wipe_cons, Pf.supd_same, Pf.supd_ne, Pf.supd_supd, Pf.o_map_some, Pf.ixN_0, Pf.ixN_1, Pf.ixN_2, Pf.ixN_3, Pf.for_ap, Pf.kFor_ap, Pf.iter_ap, Pf.kIter_t, Pf.rng1_ap, Pf.kRng1_ap, Pf.rng2_ap, Pf.kRng2_ap, Pf.rev_ap, Pf.kRev_t, Pf.kNew_ap, Pf.lc_ap, Pf.kLc_ap, Pf.yes_ap, Pf.bind_nm, Pf.bind_tp, Pf.bindL_nil, Pf.bindL_cons, Pf.kBL_ap, Pf.pat_ap, Pf.kPat_ap, Pf.aug_ap, Pf.kAugO_ap, Pf.kAug1_ap, Pf.iadd_ii, Pf.rng_len, Pf.isL_r, Pf.kIsL_some, Pf.ix_r, Pf.kIx_some, Pf.len_r, Pf.kLen_some, Pf.list_r, Pf.kList_some, Pf.tuple_r, Pf.kTuple_some, Pf.put_r, Pf.kPut_l, Pf.kPutO_some, Pf.append_r, Pf.kApp_l, Pf.pop0_r, Pf.kPop0_l, Pf.kIter_r, Pf.kRev_r, Pf.kIterO_some, Pf.id_ap, Pf.dat_r, Pf.kDatL_some, Pf.bind_tpr, Pf.kBindO_some, Pg.disp_ap, Pg.dictN_ap, Pg.zip_nil, Pg.zip_cons, Pg.dget_ap, Pg.kDg_d, Pg.look_if, Pg.is_bb, Pg.is_nn, Pg.is_in, Pg.is_sn, Pg.is_tn, Pg.is_rn, Pg.isnt_bb, Pg.isnt_nn, Pg.isnt_in, Pg.isnt_sn, Pg.isnt_tn, Pg.isnt_rn, Pg.fld_ap, Pg.kFld_ap, Pg.kFldO_i, Pg.meth_ap, Pg.kMeth_ap, Pg.kMethO_i, Pg.kMethA_ap, Pg.make_ap, Pg.sl_ap, Pg.kSl1_ap, Pg.kSl2_ap, Pg.kSl3_ap, Pg.pNo_ap, Pg.pYes_ap, Pg.kPart_ap, Pg.revL_ap, Pg.kRvL_ap, Pg.kRvO_some, String.reduceEq, Int.reduceEq, if_true, if_false, Nat.reduceEqDiff, decide_not, beq_self_eq_true, true_and, and_true, decide_true, decide_false, Int.reduceLT, Int.reduceLE, Int.reduceNeg, Int.reduceAdd, Int.reduceSub, Int.reduceMul, Int.reducePow, Nat.reduceAdd, Nat.reduceSub, Nat.reduceLT, Nat.reduceLeDiff, Int.reduceToNat, Bool.not_true, Bool.not_false, dat_str k1, dat_str k2, dat_str k3, dat_str k4, dat_str k5]
    exact h
  | field i v hv =>
    rcases hf with rfl | ⟨a, rfl, ha⟩
    · simp (implicitDefEqProofs := false) (disch := first | assumption | omega | (simp only [Pf.l_lenS, Pf.l_len0] <;> omega)) only [Pf.kOpt_some, Pf.look_ap, Pf.lkO_l, Pf.lkO_r, Pf.var_ap, Pf.c_ap, Pf.op_ap, Pf.op1_ap, Pf.op2_ap, Pf.tst_ap, Pf.kB_ap, Pf.asB_ap, Pf.kTo_some, Pf.tru_ap, Pf.kTru_ap, Pf.truB_bl, Pf.truB_non, Pf.truB_int, Pf.truB_tup, Pf.andV_ap, Pf.kAndV_ap, Pf.kAndB_t, Pf.kAndB_f, Pf.orV_ap, Pf.kOrV_ap, Pf.kOrB_t, Pf.kOrB_f, Pf.notV_ap, Pf.kNotV_ap, Pf.kNotB_ap, Pf.and_ap, Pf.kAnd_t, Pf.kAnd_f, Pf.or_ap, Pf.kOr_t, Pf.kOr_f, Pf.not_ap, Pf.kNot_ap, Pf.if_ap, Pf.kIf_t, Pf.kIf_f, Pf.un_ap, Pf.kUn_ap, Pf.neg_ap, Pf.chain_ap, Pf.kCh1_ap, Pf.kCh2_ap, Pf.kCh3_t, Pf.kCh3_f, Pf.maNil_ap, Pf.maCons_ap, Pf.kArg_ap, Pf.kArg2_ap, Pf.tup_ap, Pf.kTup_ap, Pf.lst_ap, Pf.kLst_ap, Pf.call_ap, Pf.kCall_ap, Pf.cb_ap, Pf.kCB_ap, Pf.isi_ap, Pf.kIsi_ap, Pf.kIsi2_some, Pf.tyN_int, Pf.tyN_bl, Pf.tyN_non, Pf.tyN_str, Pf.tyN_tup, Pf.tyB_ii, Pf.tyB_ib, Pf.tyB_bi, Pf.tyB_bb, Pf.tyB_tt, Pf.bm_ap, Pf.kBM_ap, Pf.kBM2_ap, Pf.msNil_ap, Pf.seq_ap, Pf.nx_mk, Pf.rt_mk, Pf.bk_mk, Pf.ct_mk, Pf.ret_ap, Pf.retN_ap, Pf.brk_ap, Pf.cont_ap, Pf.set_ap, Pf.kSet_ap, Pf.expr_ap, Pf.kDrop_ap, Pf.ifS_ap, Pf.kIfS_t, Pf.kIfS_f, Pf.sub_ap, Pf.kSub1_ap, Pf.kSub2_ap, Pf.kSub3_ap, Pf.defW_ap, Pf.add_ii, Pf.add_tt, Pf.sub_ii, Pf.mul_lt, Pf.mul_rt, Pf.mod_ii, Pf.fdiv_ii, Pf.lt_ii, Pf.le_ii, Pf.gt_ii, Pf.ge_ii, Pf.bId_ap, Pf.eq_ap, Pf.ne_ap, Pf.kEq_some, Pf.dat_int, Pf.dat_bl, Pf.dat_non, Pf.dat_str, Pf.dat_tup, Pf.eqv_ii, Pf.eqv_ss, Pf.eqv_bb, Pf.kO_some, Pf.ix_t, Pf.kL_some, Pf.at_0, Pf.at_1, Pf.at_2, Pf.at_3, Pf.at_4, Pf.at_5, Pf.len_t, Pf.list_t, Pf.list_f, Pf.tuple_t, Pf.int_i, Pf.int_b, Pf.l_set0, Pf.l_setS, Pf.l_get0, Pf.l_getS, Pf.l_len0, Pf.l_lenS, Pf.l_app0, Pf.l_appS, Pf.l_map0, Pf.l_mapS, Pf.l_len_map, Pf.l_rep0, Pf.l_repS, Pf.start_ap, Pf.wipe_nil, Pf.wipe_cons, Pf.supd_same, Pf.supd_ne, Pf.supd_supd, Pf.o_map_some, Pf.ixN_0, Pf.ixN_1, Pf.ixN_2, Pf.ixN_3, Pf.for_ap, Pf.kFor_ap, Pf.iter_ap, Pf.kIter_t, Pf.rng1_ap, Pf.kRng1_ap, Pf.rng2_ap, Pf.kRng2_ap, Pf.rev_ap, Pf.kRev_t, Pf.kNew_ap, Pf.lc_ap, Pf.kLc_ap, Pf.yes_ap, Pf.bind_nm, Pf.bind_tp, Pf.bindL_nil, Pf.bindL_cons, Pf.kBL_ap, Pf.pat_ap, Pf.kPat_ap, Pf.aug_ap, Pf.kAugO_ap, Pf.kAug1_ap, Pf.iadd_ii, Pf.rng_len, Pf.isL_r, Pf.kIsL_some, Pf.ix_r, Pf.kIx_some, Pf.len_r, Pf.kLen_some, Pf.list_r, Pf.kList_some, Pf.tuple_r, Pf.kTuple_some, Pf.put_r, Pf.kPut_l, Pf.kPutO_some, Pf.append_r, Pf.kApp_l, Pf.pop0_r, Pf.kPop0_l, Pf.kIter_r, Pf.kRev_r, Pf.kIterO_some, Pf.id_ap, Pf.dat_r, Pf.kDatL_some, Pf.bind_tpr, Pf.kBindO_some, Pg.disp_ap, Pg.dictN_ap, Pg.zip_nil, Pg.zip_cons, Pg.dget_ap, Pg.kDg_d, Pg.look_if, Pg.is_bb, Pg.is_nn, Pg.is_in, Pg.is_sn, Pg.is_tn, Pg.is_rn, Pg.isnt_bb, Pg.isnt_nn, Pg.isnt_in, Pg.isnt_sn, Pg.isnt_tn, Pg.isnt_rn, Pg.fld_ap, Pg.kFld_ap, Pg.kFldO_i, Pg.meth_ap, Pg.kMeth_ap, Pg.kMethO_i, Pg.kMethA_ap, Pg.make_ap, Pg.sl_ap, Pg.kSl1_ap, Pg.kSl2_ap, Pg.kSl3_ap, Pg.pNo_ap, Pg.pYes_ap, Pg.kPart_ap, Pg.revL_ap, Pg.kRvL_ap, Pg.kRvO_some, String.reduceEq, Int.reduceEq, if_true, if_false, Nat.reduceEqDiff, decide_not, beq_self_eq_true, true_and, and_true, decide_true, decide_false, Int.reduceLT, Int.reduceLE, Int.reduceNeg, Int.reduceAdd, Int.reduceSub, Int.reduceMul, Int.reducePow, Nat.reduceAdd, Nat.reduceSub, Nat.reduceLT, Nat.reduceLeDiff, Int.reduceToNat, Bool.not_true, Bool.not_false, at_ints hv, dat_str k1, dat_str k2, dat_str k3, dat_str k4]
      exact h
    · simp (implicitDefEqProofs := false) (disch := first | assumption | omega | (simp only [Pf.l_lenS, Pf.l_len0] <;> omega)) only [Pf.kOpt_some, Pf.look_ap, Pf.lkO_l, Pf.lkO_r, Pf.var_ap, Pf.c_ap, Pf.op_ap, Pf.op1_ap, Pf.op2_ap, Pf.tst_ap, Pf.kB_ap, Pf.asB_ap, Pf.kTo_some, Pf.tru_ap, Pf.kTru_ap, Pf.truB_bl, Pf.truB_non, Pf.truB_int, Pf.truB_tup, Pf.andV_ap, Pf.kAndV_ap, Pf.kAndB_t, Pf.kAndB_f, Pf.orV_ap, Pf.kOrV_ap, Pf.kOrB_t, Pf.kOrB_f, Pf.notV_ap, Pf.kNotV_ap, Pf.kNotB_ap, Pf.and_ap, Pf.kAnd_t, Pf.kAnd_f, Pf.or_ap, Pf.kOr_t, Pf.kOr_f, Pf.not_ap, Pf.kNot_ap, Pf.if_ap, Pf.kIf_t, Pf.kIf_f, Pf.un_ap, Pf.kUn_ap, Pf.neg_ap, Pf.chain_ap, Pf.kCh1_ap, Pf.kCh2_ap, Pf.kCh3_t, Pf.kCh3_f, Pf.maNil_ap, Pf.maCons_ap, Pf.kArg_ap, Pf.kArg2_ap, Pf.tup_ap, Pf.kTup_ap, Pf.lst_ap, Pf.kLst_ap, Pf.call_ap, Pf.kCall_ap, Pf.cb_ap, Pf.kCB_ap, Pf.isi_ap, Pf.kIsi_ap, Pf.kIsi2_some, Pf.tyN_int, Pf.tyN_bl, Pf.tyN_non, Pf.tyN_str, Pf.tyN_tup, Pf.tyB_ii, Pf.tyB_ib, Pf.tyB_bi, Pf.tyB_bb, Pf.tyB_tt, Pf.bm_ap, Pf.kBM_ap, Pf.kBM2_ap, Pf.msNil_ap, Pf.seq_ap, Pf.nx_mk, Pf.rt_mk, Pf.bk_mk, Pf.ct_mk, Pf.ret_ap, Pf.retN_ap, Pf.brk_ap, Pf.cont_ap, Pf.set_ap, Pf.kSet_ap, Pf.expr_ap, Pf.kDrop_ap, Pf.ifS_ap, Pf.kIfS_t, Pf.kIfS_f, Pf.sub_ap, Pf.kSub1_ap, Pf.kSub2_ap, Pf.kSub3_ap, Pf.defW_ap, Pf.add_ii, Pf.add_tt, Pf.sub_ii, Pf.mul_lt, Pf.mul_rt, Pf.mod_ii, Pf.fdiv_ii, Pf.lt_ii, Pf.le_ii, Pf.gt_ii, Pf.ge_ii, Pf.bId_ap, Pf.eq_ap, Pf.ne_ap, Pf.kEq_some, Pf.dat_int, Pf.dat_bl, Pf.dat_non, Pf.dat_str, Pf.dat_tup, Pf.eqv_ii, Pf.eqv_ss, Pf.eqv_bb, Pf.kO_some, Pf.ix_t, Pf.kL_some, Pf.at_0, Pf.at_1, Pf.at_2, Pf.at_3, Pf.at_4, Pf.at_5, Pf.len_t, Pf.list_t, Pf.list_f, Pf.tuple_t, Pf.int_i, Pf.int_b, Pf.l_set0, Pf.l_setS, Pf.l_get0, Pf.l_getS, Pf.l_len0, Pf.l_lenS, Pf.l_app0, Pf.l_appS, Pf.l_map0, Pf.l_mapS, Pf.l_len_map, Pf.l_rep0, Pf.l_repS, Pf.start_ap, Pf.wipe_nil, Pf.wipe_cons, Pf.supd_same, Pf.supd_ne, Pf.supd_supd, Pf.o_map_some, Pf.ixN_0, Pf.ixN_1, Pf.ixN_2, Pf.ixN_3, Pf.for_ap, Pf.kFor_ap, Pf.iter_ap, Pf.kIter_t, Pf.rng1_ap, Pf.kRng1_ap, Pf.rng2_ap, Pf.kRng2_ap, Pf.rev_ap, Pf.kRev_t, Pf.kNew_ap, Pf.lc_ap, Pf.kLc_ap, Pf.yes_ap, Pf.bind_nm, Pf.bind_tp, Pf.bindL_nil, Pf.bindL_cons, Pf.kBL_ap, Pf.pat_ap, Pf.kPat_ap, Pf.aug_ap, Pf.kAugO_ap, Pf.kAug1_ap, Pf.iadd_ii, Pf.rng_len, Pf.isL_r, Pf.kIsL_some, Pf.ix_r, Pf.kIx_some, Pf.len_r, Pf.kLen_some, Pf.list_r, Pf.kList_some, Pf.tuple_r, Pf.kTuple_some, Pf.put_r, Pf.kPut_l, Pf.kPutO_some, Pf.append_r, Pf.kApp_l, Pf.pop0_r, Pf.kPop0_l, Pf.kIter_r, Pf.kRev_r, Pf.kIterO_some, Pf.id_ap, Pf.dat_r, Pf.kDatL_some, Pf.bind_tpr, Pf.kBindO_some, Pg.disp_ap, Pg.dictN_ap, Pg.zip_nil, Pg.zip_cons, Pg.dget_ap, Pg.kDg_d, Pg.look_if, Pg.is_bb, Pg.is_nn, Pg.is_in, Pg.is_sn, Pg.is_tn, Pg.is_rn, Pg.isnt_bb, Pg.isnt_nn, Pg.isnt_in, Pg.isnt_sn, Pg.isnt_tn, Pg.isnt_rn, Pg.fld_ap, Pg.kFld_ap, Pg.kFldO_i, Pg.meth_ap, Pg.kMeth_ap, Pg.kMethO_i, Pg.kMethA_ap, Pg.make_ap, Pg.sl_ap, Pg.kSl1_ap, Pg.kSl2_ap, Pg.kSl3_ap, Pg.pNo_ap, Pg.pYes_ap, Pg.kPart_ap, Pg.revL_ap, Pg.kRvL_ap, Pg.kRvO_some, String.reduceEq, Int.reduceEq, if_true, if_false, Nat.reduceEqDiff, decide_not, beq_self_eq_true, true_and, and_true, decide_true, decide_false, Int.reduceLT, Int.reduceLE, Int.reduceNeg, Int.reduceAdd, Int.reduceSub, Int.reduceMul, Int.reducePow, Nat.reduceAdd, Nat.reduceSub, Nat.reduceLT, Nat.reduceLeDiff, Int.reduceToNat, Bool.not_true, Bool.not_false, at_ints hv, ha, dat_str k1, dat_str k2, dat_str k3, dat_str k4]
      exact h
  | switch i v hv =>
    simp (implicitDefEqProofs := false) (disch := first | assumption | omega | (simp only [Pf.l_lenS, Pf.l_len0] <;> omega)) only [Pf.kOpt_some, Pf.look_ap, Pf.lkO_l, Pf.lkO_r, Pf.var_ap, Pf.c_ap, Pf.op_ap, Pf.op1_ap, Pf.op2_ap, Pf.tst_ap, Pf.kB_ap, Pf.asB_ap, Pf.kTo_some, Pf.tru_ap, Pf.kTru_ap, Pf.truB_bl, Pf.truB_non, Pf.truB_int, Pf.truB_tup, Pf.andV_ap, Pf.kAndV_ap, Pf.kAndB_t, Pf.kAndB_f, Pf.orV_ap, Pf.kOrV_ap, Pf.kOrB_t, Pf.kOrB_f, Pf.notV_ap, Pf.kNotV_ap, Pf.kNotB_ap, Pf.and_ap, Pf.kAnd_t, Pf.kAnd_f, Pf.or_ap, Pf.kOr_t, Pf.kOr_f, Pf.not_ap, Pf.kNot_ap, Pf.if_ap, Pf.kIf_t, Pf.kIf_f, Pf.un_ap, Pf.kUn_ap, Pf.neg_ap, Pf.chain_ap, Pf.kCh1_ap, Pf.kCh2_ap, Pf.kCh3_t, Pf.kCh3_f, Pf.maNil_ap, Pf.maCons_ap, Pf.kArg_ap, Pf.kArg2_ap, Pf.tup_ap, Pf.kTup_ap, Pf.lst_ap, Pf.kLst_ap, Pf.call_ap, Pf.kCall_ap, Pf.cb_ap, Pf.kCB_ap, Pf.isi_ap, Pf.kIsi_ap, Pf.kIsi2_some, Pf.tyN_int, Pf.tyN_bl, Pf.tyN_non, Pf.tyN_str, Pf.tyN_tup, Pf.tyB_ii, Pf.tyB_ib, Pf.tyB_bi, Pf.tyB_bb, Pf.tyB_tt, Pf.bm_ap, Pf.kBM_ap, Pf.kBM2_ap, Pf.msNil_ap, Pf.seq_ap, Pf.nx_mk, Pf.rt_mk, Pf.bk_mk, Pf.ct_mk, Pf.ret_ap, Pf.retN_ap, Pf.brk_ap, Pf.cont_ap, Pf.set_ap, Pf.kSet_ap, Pf.expr_ap, Pf.kDrop_ap, Pf.ifS_ap, Pf.kIfS_t, Pf.kIfS_f, Pf.sub_ap, Pf.kSub1_ap, Pf.kSub2_ap, Pf.kSub3_ap, Pf.defW_ap, Pf.add_ii, Pf.add_tt, Pf.sub_ii, Pf.mul_lt, Pf.mul_rt, Pf.mod_ii, Pf.fdiv_ii, Pf.lt_ii, Pf.le_ii, Pf.gt_ii, Pf.ge_ii, Pf.bId_ap, Pf.eq_ap, Pf.ne_ap, Pf.kEq_some, Pf.dat_int, Pf.dat_bl, Pf.dat_non, Pf.dat_str, Pf.dat_tup, Pf.eqv_ii, Pf.eqv_ss, Pf.eqv_bb, Pf.kO_some, Pf.ix_t, Pf.kL_some, Pf.at_0, Pf.at_1, Pf.at_2, Pf.at_3, Pf.at_4, Pf.at_5, Pf.len_t, Pf.list_t, Pf.list_f, Pf.tuple_t, Pf.int_i, Pf.int_b, Pf.l_set0, Pf.l_setS, Pf.l_get0, Pf.l_getS, Pf.l_len0, Pf.l_lenS, Pf.l_app0, Pf.l_appS, Pf.l_map0, Pf.l_mapS, Pf.l_len_map, Pf.l_rep0, Pf.l_repS, Pf.start_ap, Pf.wipe_nil, Pf.wipe_cons, Pf.supd_same, Pf.supd_ne, Pf.supd_supd, Pf.o_map_some, Pf.ixN_0, Pf.ixN_1, Pf.ixN_2, Pf.ixN_3, Pf.for_ap, Pf.kFor_ap, Pf.iter_ap, Pf.kIter_t, Pf.rng1_ap, Pf.kRng1_ap, Pf.rng2_ap, Pf.kRng2_ap, Pf.rev_ap, Pf.kRev_t, Pf.kNew_ap, Pf.lc_ap, Pf.kLc_ap, Pf.yes_ap, Pf.bind_nm, Pf.bind_tp, Pf.bindL_nil, Pf.bindL_cons, Pf.kBL_ap, Pf.pat_ap, Pf.kPat_ap, Pf.aug_ap, Pf.kAugO_ap, Pf.kAug1_ap, Pf.iadd_ii, Pf.rng_len, Pf.isL_r, Pf.kIsL_some, Pf.ix_r, Pf.kIx_some, Pf.len_r, Pf.kLen_some, Pf.list_r, Pf.kList_some, Pf.tuple_r, Pf.kTuple_some, Pf.put_r, Pf.kPut_l, Pf.kPutO_some, Pf.append_r, Pf.kApp_l, Pf.pop0_r, Pf.kPop0_l, Pf.kIter_r, Pf.kRev_r, Pf.kIterO_some, Pf.id_ap, Pf.dat_r, Pf.kDatL_some, Pf.bind_tpr, Pf.kBindO_some, Pg.disp_ap, Pg.dictN_ap, Pg.zip_nil, Pg.zip_cons, Pg.dget_ap, Pg.kDg_d, Pg.look_if, Pg.is_bb, Pg.is_nn, Pg.is_in, Pg.is_sn, Pg.is_tn, Pg.is_rn, Pg.isnt_bb, Pg.isnt_nn, Pg.isnt_in, Pg.isnt_sn, Pg.isnt_tn, Pg.isnt_rn, Pg.fld_ap, Pg.kFld_ap, Pg.kFldO_i, Pg.meth_ap, Pg.kMeth_ap, Pg.kMethO_i, Pg.kMethA_ap, Pg.make_ap, Pg.sl_ap, Pg.kSl1_ap, Pg.kSl2_ap, Pg.kSl3_ap, Pg.pNo_ap, Pg.pYes_ap, Pg.kPart_ap, Pg.revL_ap, Pg.kRvL_ap, Pg.kRvO_some, String.reduceEq, Int.reduceEq, if_true, if_false, Nat.reduceEqDiff, decide_not, beq_self_eq_true, true_and, and_true, decide_true, decide_false, Int.reduceLT, Int.reduceLE, Int.reduceNeg, Int.reduceAdd, Int.reduceSub, Int.reduceMul, Int.reducePow, Nat.reduceAdd, Nat.reduceSub, Nat.reduceLT, Nat.reduceLeDiff, Int.reduceToNat, Bool.not_true, Bool.not_false, at_ints hv, dat_str k1, dat_str k2, dat_str k3, dat_str k4, dat_str k5]
    exact h
def sem (s : String) (a b : Int) : Bool := if s = "==" then decide (a = b) else if s = "!=" then !decide (a = b) else decide (a < b)
theorem holds_non {ss : List Int} {arg got : Int} {f : MV} {S : Sto} {R : MK} (h : R (.bl true) S) : Rw.W_holds [.non, f, .tup (ss.map .int), .int arg, .int got] S R := by
  unfold Rw.W_holds Rw.B_holds
  simp (implicitDefEqProofs := false) (disch := first | assumption | omega | (simp only [Pf.l_lenS, Pf.l_len0] <;> omega)) only [Pf.kOpt_some, Pf.look_ap, Pf.lkO_l, Pf.lkO_r, Pf.var_ap, Pf.c_ap, Pf.op_ap, Pf.op1_ap, Pf.op2_ap, Pf.tst_ap, Pf.kB_ap, Pf.asB_ap, Pf.kTo_some, Pf.tru_ap, Pf.kTru_ap, Pf.truB_bl, Pf.truB_non, Pf.truB_int, Pf.truB_tup, Pf.andV_ap, Pf.kAndV_ap, Pf.kAndB_t, Pf.kAndB_f, Pf.orV_ap, Pf.kOrV_ap, Pf.kOrB_t, Pf.kOrB_f, Pf.notV_ap, Pf.kNotV_ap, Pf.kNotB_ap, Pf.and_ap, Pf.kAnd_t, Pf.kAnd_f, Pf.or_ap, Pf.kOr_t, Pf.kOr_f, Pf.not_ap, Pf.kNot_ap, Pf.if_ap, Pf.kIf_t, Pf.kIf_f, Pf.un_ap, Pf.kUn_ap, Pf.neg_ap, Pf.chain_ap, Pf.kCh1_ap, Pf.kCh2_ap, Pf.kCh3_t, Pf.kCh3_f, Pf.maNil_ap, Pf.maCons_ap, Pf.kArg_ap, Pf.kArg2_ap, Pf.tup_ap, Pf.kTup_ap, Pf.lst_ap, Pf.kLst_ap, Pf.call_ap, Pf.kCall_ap, Pf.cb_ap, Pf.kCB_ap, Pf.isi_ap, Pf.kIsi_ap, Pf.kIsi2_some, Pf.tyN_int, Pf.tyN_bl, Pf.tyN_non, Pf.tyN_str, Pf.tyN_tup, Pf.tyB_ii, Pf.tyB_ib, Pf.tyB_bi, Pf.tyB_bb, Pf.tyB_tt, Pf.bm_ap, Pf.kBM_ap, Pf.kBM2_ap, Pf.msNil_ap, Pf.seq_ap, Pf.nx_mk, Pf.rt_mk, Pf.bk_mk, Pf.ct_mk, Pf.ret_ap, Pf.retN_ap, Pf.brk_ap, Pf.cont_ap, Pf.set_ap, Pf.kSet_ap, Pf.expr_ap, Pf.kDrop_ap, Pf.ifS_ap, Pf.kIfS_t, Pf.kIfS_f, Pf.sub_ap, Pf.kSub1_ap, Pf.kSub2_ap, Pf.kSub3_ap, Pf.defW_ap, Pf.add_ii, Pf.add_tt, Pf.sub_ii, Pf.mul_lt, Pf.mul_rt, Pf.mod_ii, Pf.fdiv_ii, Pf.lt_ii, Pf.le_ii, Pf.gt_ii, Pf.ge_ii, Pf.bId_ap, Pf.eq_ap, Pf.ne_ap, Pf.kEq_some, Pf.dat_int, Pf.dat_bl, Pf.dat_non, Pf.dat_str, Pf.dat_tup, Pf.eqv_ii, Pf.eqv_ss, Pf.eqv_bb, Pf.kO_some, Pf.ix_t, Pf.kL_some, Pf.at_0, Pf.at_1, Pf.at_2, Pf.at_3, Pf.at_4, Pf.at_5, Pf.len_t, Pf.list_t, Pf.list_f, Pf.tuple_t, Pf.int_i, Pf.int_b, Pf.l_set0, Pf.l_setS, Pf.l_get0, Pf.l_getS, Pf.l_len0, Pf.l_lenS, Pf.l_app0, Pf.l_appS, Pf.l_map0, Pf.l_mapS, Pf.l_len_map, Pf.l_rep0, Pf.l_repS, Pf.start_ap, Pf.wipe_nil, Pf.wipe_cons, Pf.supd_same, Pf.supd_ne, Pf.supd_supd, Pf.o_map_some, Pf.ixN_0, Pf.ixN_1, Pf.ixN_2, Pf.ixN_3, Pf.for_ap, Pf.kFor_ap, Pf.iter_ap, Pf.kIter_t, Pf.rng1_ap, Pf.kRng1_ap, Pf.rng2_ap, Pf.kRng2_ap, Pf.rev_ap, Pf.kRev_t, Pf.kNew_ap, Pf.lc_ap, Pf.kLc_ap, Pf.yes_ap, Pf.bind_nm, Pf.bind_tp, Pf.bindL_nil, Pf.bindL_cons, Pf.kBL_ap, Pf.pat_ap, Pf.kPat_ap, Pf.aug_ap, Pf.kAugO_ap, Pf.kAug1_ap, Pf.iadd_ii, Pf.rng_len, Pf.isL_r, Pf.kIsL_some, Pf.ix_r, Pf.kIx_some, Pf.len_r, Pf.kLen_some, Pf.list_r, Pf.kList_some, Pf.tuple_r, Pf.kTuple_some, Pf.put_r, Pf.kPut_l, Pf.kPutO_some, Pf.append_r, Pf.kApp_l, Pf.pop0_r, Pf.kPop0_l, Pf.kIter_r, Pf.kRev_r, Pf.kIterO_some, Pf.id_ap, Pf.dat_r, Pf.kDatL_some, Pf.bind_tpr, Pf.kBindO_some, Pg.disp_ap, Pg.dictN_ap, Pg.zip_nil, Pg.zip_cons, Pg.dget_ap, Pg.kDg_d, Pg.look_if, Pg.is_bb, Pg.is_nn, Pg.is_in, Pg.is_sn, Pg.is_tn, Pg.is_rn, Pg.isnt_bb, Pg.isnt_nn, Pg.isnt_in, Pg.isnt_sn, Pg.isnt_tn, Pg.isnt_rn, Pg.fld_ap, Pg.kFld_ap, Pg.kFldO_i, Pg.meth_ap, Pg.kMeth_ap, Pg.kMethO_i, Pg.kMethA_ap, Pg.make_ap, Pg.sl_ap, Pg.kSl1_ap, Pg.kSl2_ap, Pg.kSl3_ap, Pg.pNo_ap, Pg.pYes_ap, Pg.kPart_ap, Pg.revL_ap, Pg.kRvL_ap, Pg.kRvO_some, String.reduceEq, Int.reduceEq, if_true, if_false, Nat.reduceEqDiff, decide_not, beq_self_eq_true, true_and, and_true, decide_true, decide_false, Int.reduceLT, Int.reduceLE, Int.reduceNeg, Int.reduceAdd, Int.reduceSub, Int.reduceMul, Int.reducePow, Nat.reduceAdd, Nat.reduceSub, Nat.reduceLT, Nat.reduceLeDiff, Int.reduceToNat, Bool.not_true, Bool.not_false]
  exact h
theorem holds_spec {fs ss : List Int} {arg got w1 w2 : Int} {e1 e2 f : MV} {s : String} {S : Sto} {R : MK} (hs : s = "==" ∨ s = "!=" ∨ s = "<") (r1 : Ex fs ss arg got e1 w1) (r2 : Ex fs ss arg got e2 w2) (hf : f = .tup (fs.map .int) ∨ ∃ a, f = .ref a ∧ S a = some (.lst (fs.map .int))) (h : R (.bl (sem s w1 w2)) S) :
    Rw.W_holds [.tup [e1, .str s, e2], f, .tup (ss.map .int), .int arg, .int got] S R := by
  unfold Rw.W_holds Rw.B_holds
  simp (implicitDefEqProofs := false) (disch := first | assumption | omega | (simp only [Pf.l_lenS, Pf.l_len0] <;> omega)) only [Pf.kOpt_some, Pf.look_ap, Pf.lkO_l, Pf.lkO_r, Pf.var_ap, Pf.c_ap, Pf.op_ap, Pf.op1_ap, Pf.op2_ap, Pf.tst_ap, Pf.kB_ap, Pf.asB_ap, Pf.kTo_some, Pf.tru_ap, Pf.kTru_ap, Pf.truB_bl, Pf.truB_non, Pf.truB_int, Pf.truB_tup, Pf.andV_ap, Pf.kAndV_ap, Pf.kAndB_t, Pf.kAndB_f, Pf.orV_ap, Pf.kOrV_ap, Pf.kOrB_t, Pf.kOrB_f, Pf.notV_ap, Pf.kNotV_ap, Pf.kNotB_ap, Pf.and_ap, Pf.kAnd_t, Pf.kAnd_f, Pf.or_ap, Pf.kOr_t, Pf.kOr_f, Pf.not_ap, Pf.kNot_ap, Pf.if_ap, Pf.kIf_t, Pf.kIf_f, Pf.un_ap, Pf.kUn_ap, Pf.neg_ap, Pf.chain_ap, Pf.kCh1_ap, Pf.kCh2_ap, Pf.kCh3_t, Pf.kCh3_f, Pf.maNil_ap, Pf.maCons_ap, Pf.kArg_ap, Pf.kArg2_ap, Pf.tup_ap, Pf.kTup_ap, Pf.lst_ap, Pf.kLst_ap, Pf.call_ap, Pf.kCall_ap, Pf.cb_ap, Pf.kCB_ap, Pf.isi_ap, Pf.kIsi_ap, Pf.kIsi2_some, Pf.tyN_int, Pf.tyN_bl, Pf.tyN_non, Pf.tyN_str, Pf.tyN_tup, Pf.tyB_ii, Pf.tyB_ib, Pf.tyB_bi, Pf.tyB_bb, Pf.tyB_tt, Pf.bm_ap, Pf.kBM_ap, Pf.kBM2_ap, Pf.msNil_ap, Pf.seq_ap, Pf.nx_mk, Pf.rt_mk, Pf.bk_mk, Pf.ct_mk, Pf.ret_ap, Pf.retN_ap, Pf.brk_ap, Pf.cont_ap, Pf.set_ap, Pf.kSet_ap, Pf.expr_ap, Pf.kDrop_ap, Pf.ifS_ap, Pf.kIfS_t, Pf.kIfS_f, Pf.sub_ap, Pf.kSub1_ap, Pf.kSub2_ap, Pf.kSub3_ap, Pf.defW_ap, Pf.add_ii, Pf.add_tt, Pf.sub_ii, Pf.mul_lt, Pf.mul_rt, Pf.mod_ii, Pf.fdiv_ii, Pf.lt_ii, Pf.le_ii, Pf.gt_ii, Pf.ge_ii, Pf.bId_ap, Pf.eq_ap, Pf.ne_ap, Pf.kEq_some, Pf.dat_int, Pf.dat_bl, Pf.dat_non, Pf.dat_str, Pf.dat_tup, Pf.eqv_ii, Pf.eqv_ss, Pf.eqv_bb, Pf.kO_some, Pf.ix_t, Pf.kL_some, Pf.at_0, Pf.at_1, Pf.at_2, Pf.at_3, Pf.at_4, Pf.at_5, Pf.len_t, Pf.list_t, Pf.list_f, Pf.tuple_t, Pf.int_i, Pf.int_b, Pf.l_set0, Pf.l_setS, Pf.l_get0, Pf.l_getS, Pf.l_len0, Pf.l_lenS, Pf.l_app0, Pf.l_appS, Pf.l_map0, Pf.l_mapS, Pf.l_len_map, Pf.l_rep0, Pf.l_repS, Pf.start_ap, Pf.wipe_nil, Pf.wipe_cons, Pf.supd_same, Pf.supd_ne, Pf.supd_supd, Pf.o_map_some, Pf.ixN_0, Pf.ixN_1, Pf.ixN_2, Pf.ixN_3, Pf.for_ap, Pf.kFor_ap, Pf.iter_ap, Pf.kIter_t, Pf.rng1_ap, Pf.kRng1_ap, Pf.rng2_ap, Pf.kRng2_ap, Pf.rev_ap, Pf.kRev_t, Pf.kNew_ap, Pf.lc_ap, Pf.kLc_ap, Pf.yes_ap, Pf.bind_nm, Pf.bind_tp, Pf.bindL_nil, Pf.bindL_cons, Pf.kBL_ap, Pf.pat_ap, Pf.kPat_ap, Pf.aug_ap, Pf.kAugO_ap, Pf.kAug1_ap, Pf.iadd_ii, Pf.rng_len, Pf.isL_r, Pf.kIsL_some, Pf.ix_r, Pf.kIx_some, Pf.len_r, Pf.kLen_some, Pf.list_r, Pf.kList_some, Pf.tuple_r, Pf.kTuple_some, Pf.put_r, Pf.kPut_l, Pf.kPutO_some, Pf.append_r, Pf.kApp_l, Pf.pop0_r, Pf.kPop0_l, Pf.kIter_r, Pf.kRev_r, Pf.kIterO_some, Pf.id_ap, Pf.dat_r, Pf.kDatL_some, Pf.bind_tpr, Pf.kBindO_some, Pg.disp_ap, Pg.dictN_ap, Pg.zip_nil, Pg.zip_cons, Pg.dget_ap, Pg.kDg_d, Pg.look_if, Pg.is_bb, Pg.is_nn, Pg.is_in, Pg.is_sn, Pg.is_tn, Pg.is_rn, Pg.isnt_bb, Pg.isnt_nn, Pg.isnt_in, Pg.isnt_sn, Pg.isnt_tn, Pg.isnt_rn, Pg.fld_ap, Pg.kFld_ap, Pg.kFldO_i, Pg.meth_ap, Pg.kMeth_ap, Pg.kMethO_i, Pg.kMethA_ap, Pg.make_ap, Pg.sl_ap, Pg.kSl1_ap, Pg.kSl2_ap, Pg.kSl3_ap, Pg.pNo_ap, Pg.pYes_ap, Pg.kPart_ap, Pg.revL_ap, Pg.kRvL_ap, Pg.kRvO_some, String.reduceEq, Int.reduceEq, if_true, if_false, Nat.reduceEqDiff, decide_not, beq_self_eq_true, true_and, and_true, decide_true, decide_false, Int.reduceLT, Int.reduceLE, Int.reduceNeg, Int.reduceAdd, Int.reduceSub, Int.reduceMul, Int.reducePow, Nat.reduceAdd, Nat.reduceSub, Nat.reduceLT, Nat.reduceLeDiff, Int.reduceToNat, Bool.not_true, Bool.not_false]
  refine value_spec r1 hf ?_
  simp (implicitDefEqProofs := false) (disch := first | assumption | omega | (simp only [Pf.l_lenS, Pf.l_len0] <;> omega)) only [Pf.kOpt_some, Pf.look_ap, Pf.lkO_l, Pf.lkO_r, Pf.var_ap, Pf.c_ap, Pf.op_ap, Pf.op1_ap, Pf.op2_ap, Pf.tst_ap, Pf.kB_ap, Pf.asB_ap, Pf.kTo_some, Pf.tru_ap, Pf.kTru_ap, Pf.truB_bl, Pf.truB_non, Pf.truB_int, Pf.truB_tup, Pf.andV_ap, Pf.kAndV_ap, Pf.kAndB_t, Pf.kAndB_f, Pf.orV_ap, Pf.kOrV_ap, Pf.kOrB_t, Pf.kOrB_f, Pf.notV_ap, Pf.kNotV_ap, Pf.kNotB_ap, Pf.and_ap, Pf.kAnd_t, Pf.kAnd_f, Pf.or_ap, Pf.kOr_t, Pf.kOr_f, Pf.not_ap, Pf.kNot_ap, Pf.if_ap, Pf.kIf_t, Pf.kIf_f, Pf.un_ap, Pf.kUn_ap, Pf.neg_ap, Pf.chain_ap, Pf.kCh1_ap, Pf.kCh2_ap, Pf.kCh3_t, Pf.kCh3_f, Pf.maNil_ap, Pf.maCons_ap, Pf.kArg_ap, Pf.kArg2_ap, Pf.tup_ap, Pf.kTup_ap, Pf.lst_ap, Pf.kLst_ap, Pf.call_ap, Pf.kCall_ap, Pf.cb_ap, Pf.kCB_ap, Pf.isi_ap, Pf.kIsi_ap, Pf.kIsi2_some, Pf.tyN_int, Pf.tyN_bl, Pf.tyN_non, Pf.tyN_str, Pf.tyN_tup, Pf.tyB_ii, Pf.tyB_ib, Pf.tyB_bi, Pf.tyB_bb, Pf.tyB_tt, Pf.bm_ap, Pf.kBM_ap, Pf.kBM2_ap, Pf.msNil_ap, Pf.seq_ap, Pf.nx_mk, Pf.rt_mk, Pf.bk_mk, Pf.ct_mk, Pf.ret_ap, Pf.retN_ap, Pf.brk_ap, Pf.cont_ap, Pf.set_ap, Pf.kSet_ap, Pf.expr_ap, Pf.kDrop_ap, Pf.ifS_ap, Pf.kIfS_t, Pf.kIfS_f, Pf.sub_ap, Pf.kSub1_ap, Pf.kSub2_ap, Pf.kSub3_ap, Pf.defW_ap, Pf.add_ii, Pf.add_tt, Pf.sub_ii, Pf.mul_lt, Pf.mul_rt, Pf.mod_ii, Pf.fdiv_ii, Pf.lt_ii, Pf.le_ii, Pf.gt_ii, Pf.ge_ii, Pf.bId_ap, Pf.eq_ap, Pf.ne_ap, Pf.kEq_some, Pf.dat_int, Pf.dat_bl, Pf.dat_non, Pf.dat_str, Pf.dat_tup, Pf.eqv_ii, Pf.eqv_ss, Pf.eqv_bb, Pf.kO_some, Pf.ix_t, Pf.kL_some, Pf.at_0, Pf.at_1, Pf.at_2, Pf.at_3, Pf.at_4, Pf.at_5, Pf.len_t, Pf.list_t, Pf.list_f, Pf.tuple_t, Pf.int_i, Pf.int_b, Pf.l_set0, Pf.l_setS, Pf.l_get0, Pf.l_getS, Pf.l_len0, Pf.l_lenS, Pf.l_app0, Pf.l_appS, Pf.l_map0, Pf.l_mapS, Pf.l_len_map, Pf.l_rep0, Pf.l_repS, Pf.start_ap, Pf.wipe_nil, Pf.wipe_cons, Pf.supd_same, Pf.supd_ne, Pf.supd_supd, Pf.o_map_some, Pf.ixN_0, Pf.ixN_1, Pf.ixN_2, Pf.ixN_3, Pf.for_ap, Pf.kFor_ap, Pf.iter_ap, Pf.kIter_t, Pf.rng1_ap, Pf.kRng1_ap, Pf.rng2_ap, Pf.kRng2_ap, Pf.rev_ap, Pf.kRev_t, Pf.kNew_ap, Pf.lc_ap, Pf.kLc_ap, Pf.yes_ap, Pf.bind_nm, Pf.bind_tp, Pf.bindL_nil, Pf.bindL_cons, Pf.kBL_ap, Pf.pat_ap, Pf.kPat_ap, Pf.aug_ap, Pf.kAugO_ap, Pf.kAug1_ap, Pf.iadd_ii, Pf.rng_len, Pf.isL_r, Pf.kIsL_some, Pf.ix_r, Pf.kIx_some, Pf.len_r, Pf.kLen_some, Pf.list_r, Pf.kList_some, Pf.tuple_r, Pf.kTuple_some, Pf.put_r, Pf.kPut_l, Pf.kPutO_some, Pf.append_r, Pf.kApp_l, Pf.pop0_r, Pf.kPop0_l, Pf.kIter_r, Pf.kRev_r, Pf.kIterO_some, Pf.id_ap, Pf.dat_r, Pf.kDatL_some, Pf.bind_tpr, Pf.kBindO_some, Pg.disp_ap, Pg.dictN_ap, Pg.zip_nil, Pg.zip_cons, Pg.dget_ap, Pg.kDg_d, Pg.look_if, Pg.is_bb, Pg.is_nn, Pg.is_in, Pg.is_sn, Pg.is_tn, Pg.is_rn, Pg.isnt_bb, Pg.isnt_nn, Pg.isnt_in, Pg.isnt_sn, Pg.isnt_tn, Pg.isnt_rn, Pg.fld_ap, Pg.kFld_ap, Pg.kFldO_i, Pg.meth_ap, Pg.kMeth_ap, Pg.kMethO_i, Pg.kMethA_ap, Pg.make_ap, Pg.sl_ap, Pg.kSl1_ap, Pg.kSl2_ap, Pg.kSl3_ap, Pg.pNo_ap, Pg.pYes_ap, Pg.kPart_ap, Pg.revL_ap, Pg.kRvL_ap, Pg.kRvO_some, String.reduceEq, Int.reduceEq, if_true, if_false, Nat.reduceEqDiff, decide_not, beq_self_eq_true, true_and, and_true, decide_true, decide_false, Int.reduceLT, Int.reduceLE, Int.reduceNeg, Int.reduceAdd, Int.reduceSub, Int.reduceMul, Int.reducePow, Nat.reduceAdd, Nat.reduceSub, Nat.reduceLT, Nat.reduceLeDiff, Int.reduceToNat, Bool.not_true, Bool.not_false]
  refine value_spec r2 hf ?_
  rcases hs with rfl | rfl | rfl
  · simp (implicitDefEqProofs := false) (disch := first | assumption | omega | (simp only [Pf.l_lenS, Pf.l_len0] <;> omega)) only [Pf.kOpt_some, Pf.look_ap, Pf.lkO_l, Pf.lkO_r, Pf.var_ap, Pf.c_ap, Pf.op_ap, Pf.op1_ap, Pf.op2_ap, Pf.tst_ap, Pf.kB_ap, Pf.asB_ap, Pf.kTo_some, Pf.tru_ap, Pf.kTru_ap, Pf.truB_bl, Pf.truB_non, Pf.truB_int, Pf.truB_tup, Pf.andV_ap, Pf.kAndV_ap, Pf.kAndB_t, Pf.kAndB_f, Pf.orV_ap, Pf.kOrV_ap, Pf.kOrB_t, Pf.kOrB_f, Pf.notV_ap, Pf.kNotV_ap, Pf.kNotB_ap, Pf.and_ap, Pf.kAnd_t, Pf.kAnd_f, Pf.or_ap, Pf.kOr_t, Pf.kOr_f, Pf.not_ap, Pf.kNot_ap, Pf.if_ap, Pf.kIf_t, Pf.kIf_f, Pf.un_ap, Pf.kUn_ap, Pf.neg_ap, Pf.chain_ap, Pf.kCh1_ap, Pf.kCh2_ap, Pf.kCh3_t, Pf.kCh3_f, Pf.maNil_ap, Pf.maCons_ap, Pf.kArg_ap, Pf.kArg2_ap, Pf.tup_ap, Pf.kTup_ap, Pf.lst_ap, Pf.kLst_ap, Pf.call_ap, Pf.kCall_ap, Pf.cb_ap, Pf.kCB_ap, Pf.isi_ap, Pf.kIsi_ap, Pf.kIsi2_some, Pf.tyN_int, Pf.tyN_bl, Pf.tyN_non, Pf.tyN_str, Pf.tyN_tup, Pf.tyB_ii, Pf.tyB_ib, Pf.tyB_bi, Pf.tyB_bb, Pf.tyB_tt, Pf.bm_ap, Pf.kBM_ap, Pf.kBM2_ap, Pf.msNil_ap, Pf.seq_ap, Pf.nx_mk, Pf.rt_mk, Pf.bk_mk, Pf.ct_mk, Pf.ret_ap, Pf.retN_ap, Pf.brk_ap, Pf.cont_ap, Pf.set_ap, Pf.kSet_ap, Pf.expr_ap, Pf.kDrop_ap, Pf.ifS_ap, Pf.kIfS_t, Pf.kIfS_f, Pf.sub_ap, Pf.kSub1_ap, Pf.kSub2_ap, Pf.kSub3_ap, Pf.defW_ap, Pf.add_ii, Pf.add_tt, Pf.sub_ii, Pf.mul_lt, Pf.mul_rt, Pf.mod_ii, Pf.fdiv_ii, Pf.lt_ii, Pf.le_ii, Pf.gt_ii, Pf.ge_ii, Pf.bId_ap, Pf.eq_ap, Pf.ne_ap, Pf.kEq_some, Pf.dat_int, Pf.dat_bl, Pf.dat_non, Pf.dat_str, Pf.dat_tup, Pf.eqv_ii, Pf.eqv_ss, Pf.eqv_bb, Pf.kO_some, Pf.ix_t, Pf.kL_some, Pf.at_0, Pf.at_1, Pf.at_2, Pf.at_3, Pf.at_4, Pf.at_5, Pf.len_t, Pf.list_t, Pf.list_f, Pf.tuple_t, Pf.int_i, Pf.int_b, Pf.l_set0, Pf.l_setS, Pf.l_get0, Pf.l_getS, Pf.l_len0, Pf.l_lenS, Pf.l_app0, Pf.l_appS, Pf.l_map0, Pf.l_mapS, Pf.l_len_map, Pf.l_rep0, Pf.l_repS, Pf.start_ap, Pf.wipe_nil, Pf.wipe_cons, Pf.supd_same, Pf.supd_ne, Pf.supd_supd, Pf.o_map_some, Pf.ixN_0, Pf.ixN_1, Pf.ixN_2, Pf.ixN_3, Pf.for_ap, Pf.kFor_ap, Pf.iter_ap, Pf.kIter_t, Pf.rng1_ap, Pf.kRng1_ap, Pf.rng2_ap, Pf.kRng2_ap, Pf.rev_ap, Pf.kRev_t, Pf.kNew_ap, Pf.lc_ap, Pf.kLc_ap, Pf.yes_ap, Pf.bind_nm, Pf.bind_tp, Pf.bindL_nil, Pf.bindL_cons, Pf.kBL_ap, Pf.pat_ap, Pf.kPat_ap, Pf.aug_ap, Pf.kAugO_ap, Pf.kAug1_ap, Pf.iadd_ii, Pf.rng_len, Pf.isL_r, Pf.kIsL_some, Pf.ix_r, Pf.kIx_some, Pf.len_r, Pf.kLen_some, Pf.list_r, Pf.kList_some, Pf.tuple_r, Pf.kTuple_some, Pf.put_r, Pf.kPut_l, Pf.kPutO_some, Pf.append_r, Pf.kApp_l, Pf.pop0_r, Pf.kPop0_l, Pf.kIter_r, Pf.kRev_r, Pf.kIterO_some, Pf.id_ap, Pf.dat_r, Pf.kDatL_some, Pf.bind_tpr, Pf.kBindO_some, Pg.disp_ap, Pg.dictN_ap, Pg.zip_nil, Pg.zip_cons, Pg.dget_ap, Pg.kDg_d, Pg.look_if, Pg.is_bb, Pg.is_nn, Pg.is_in, Pg.is_sn, Pg.is_tn, Pg.is_rn, Pg.isnt_bb, Pg.isnt_nn, Pg.isnt_in, Pg.isnt_sn, Pg.isnt_tn, Pg.isnt_rn, Pg.fld_ap, Pg.kFld_ap, Pg.kFldO_i, Pg.meth_ap, Pg.kMeth_ap, Pg.kMethO_i, Pg.kMethA_ap, Pg.make_ap, Pg.sl_ap, Pg.kSl1_ap, Pg.kSl2_ap, Pg.kSl3_ap, Pg.pNo_ap, Pg.pYes_ap, Pg.kPart_ap, Pg.revL_ap, Pg.kRvL_ap, Pg.kRvO_some, String.reduceEq, Int.reduceEq, if_true, if_false, Nat.reduceEqDiff, decide_not, beq_self_eq_true, true_and, and_true, decide_true, decide_false, Int.reduceLT, Int.reduceLE, Int.reduceNeg, Int.reduceAdd, Int.reduceSub, Int.reduceMul, Int.reducePow, Nat.reduceAdd, Nat.reduceSub, Nat.reduceLT, Nat.reduceLeDiff, Int.reduceToNat, Bool.not_true, Bool.not_false, dat_str k6]
    exact h
  · simp (implicitDefEqProofs := false) (disch := first | assumption | omega | (simp only [Pf.l_lenS, Pf.l_len0] <;> omega)) only [Pf.kOpt_some, Pf.look_ap, Pf.lkO_l, Pf.lkO_r, Pf.var_ap, Pf.c_ap, Pf.op_ap, Pf.op1_ap, Pf.op2_ap, Pf.tst_ap, Pf.kB_ap, Pf.asB_ap, Pf.kTo_some, Pf.tru_ap, Pf.kTru_ap, Pf.truB_bl, Pf.truB_non, Pf.truB_int, Pf.truB_tup, Pf.andV_ap, Pf.kAndV_ap, Pf.kAndB_t, Pf.kAndB_f, Pf.orV_ap, Pf.kOrV_ap, Pf.kOrB_t, Pf.kOrB_f, Pf.notV_ap, Pf.kNotV_ap, Pf.kNotB_ap, Pf.and_ap, Pf.kAnd_t, Pf.kAnd_f, Pf.or_ap, Pf.kOr_t, Pf.kOr_f, Pf.not_ap, Pf.kNot_ap, Pf.if_ap, Pf.kIf_t, Pf.kIf_f, Pf.un_ap, Pf.kUn_ap, Pf.neg_ap, Pf.chain_ap, Pf.kCh1_ap, Pf.kCh2_ap, Pf.kCh3_t, Pf.kCh3_f, Pf.maNil_ap, Pf.maCons_ap, Pf.kArg_ap, Pf.kArg2_ap, Pf.tup_ap, Pf.kTup_ap, Pf.lst_ap, Pf.kLst_ap, Pf.call_ap, Pf.kCall_ap, Pf.cb_ap, Pf.kCB_ap, Pf.isi_ap, Pf.kIsi_ap, Pf.kIsi2_some, Pf.tyN_int, Pf.tyN_bl, Pf.tyN_non, Pf.tyN_str, Pf.tyN_tup, Pf.tyB_ii, Pf.tyB_ib, Pf.tyB_bi, Pf.tyB_bb, Pf.tyB_tt, Pf.bm_ap, Pf.kBM_ap, Pf.kBM2_ap, Pf.msNil_ap, Pf.seq_ap, Pf.nx_mk, Pf.rt_mk, Pf.bk_mk, Pf.ct_mk, Pf.ret_ap, Pf.retN_ap, Pf.brk_ap, Pf.cont_ap, Pf.set_ap, Pf.kSet_ap, Pf.expr_ap, Pf.kDrop_ap, Pf.ifS_ap, Pf.kIfS_t, Pf.kIfS_f, Pf.sub_ap, Pf.kSub1_ap, Pf.kSub2_ap, Pf.kSub3_ap, Pf.defW_ap, Pf.add_ii, Pf.add_tt, Pf.sub_ii, Pf.mul_lt, Pf.mul_rt, Pf.mod_ii, Pf.fdiv_ii, Pf.lt_ii, Pf.le_ii, Pf.gt_ii, Pf.ge_ii, Pf.bId_ap, Pf.eq_ap, Pf.ne_ap, Pf.kEq_some, Pf.dat_int, Pf.dat_bl, Pf.dat_non, Pf.dat_str, Pf.dat_tup, Pf.eqv_ii, Pf.eqv_ss, Pf.eqv_bb, Pf.kO_some, Pf.ix_t, Pf.kL_some, Pf.at_0, Pf.at_1, Pf.at_2, Pf.at_3, Pf.at_4, Pf.at_5, Pf.len_t, Pf.list_t, Pf.list_f, Pf.tuple_t, Pf.int_i, Pf.int_b, Pf.l_set0, Pf.l_setS, Pf.l_get0, Pf.l_getS, Pf.l_len0, Pf.l_lenS, Pf.l_app0, Pf.l_appS, Pf.l_map0, Pf.l_mapS, Pf.l_len_map, Pf.l_rep0, Pf.l_repS, Pf.start_ap, Pf.wipe_nil, Pf.wipe_cons, Pf.supd_same, Pf.supd_ne, Pf.supd_supd, Pf.o_map_some, Pf.ixN_0, Pf.ixN_1, Pf.ixN_2, Pf.ixN_3, Pf.for_ap, Pf.kFor_ap, Pf.iter_ap, Pf.kIter_t, Pf.rng1_ap, Pf.kRng1_ap, Pf.rng2_ap, Pf.kRng2_ap, Pf.rev_ap, Pf.kRev_t, Pf.kNew_ap, Pf.lc_ap, Pf.kLc_ap, Pf.yes_ap, Pf.bind_nm, Pf.bind_tp, Pf.bindL_nil, Pf.bindL_cons, Pf.kBL_ap, Pf.pat_ap, Pf.kPat_ap, Pf.aug_ap, Pf.kAugO_ap, Pf.kAug1_ap, Pf.iadd_ii, Pf.rng_len, Pf.isL_r, Pf.kIsL_some, Pf.ix_r, Pf.kIx_some, Pf.len_r, Pf.kLen_some, Pf.list_r, Pf.kList_some, Pf.tuple_r, Pf.kTuple_some, Pf.put_r, Pf.kPut_l, Pf.kPutO_some, Pf.append_r, Pf.kApp_l, Pf.pop0_r, Pf.kPop0_l, Pf.kIter_r, Pf.kRev_r, Pf.kIterO_some, Pf.id_ap, Pf.dat_r, Pf.kDatL_some, Pf.bind_tpr, Pf.kBindO_some, Pg.disp_ap, Pg.dictN_ap, Pg.zip_nil, Pg.zip_cons, Pg.dget_ap, Pg.kDg_d, Pg.look_if, Pg.is_bb, Pg.is_nn, Pg.is_in, Pg.is_sn, Pg.is_tn, Pg.is_rn, Pg.isnt_bb, Pg.isnt_nn, Pg.isnt_in, Pg.isnt_sn, Pg.isnt_tn, Pg.isnt_rn, Pg.fld_ap, Pg.kFld_ap, Pg.kFldO_i, Pg.meth_ap, Pg.kMeth_ap, Pg.kMethO_i, Pg.kMethA_ap, Pg.make_ap, Pg.sl_ap, Pg.kSl1_ap, Pg.kSl2_ap, Pg.kSl3_ap, Pg.pNo_ap, Pg.pYes_ap, Pg.kPart_ap, Pg.revL_ap, Pg.kRvL_ap, Pg.kRvO_some, String.reduceEq, Int.reduceEq, if_true, if_false, Nat.reduceEqDiff, decide_not, beq_self_eq_true, true_and, and_true, decide_true, decide_false, Int.reduceLT, Int.reduceLE, Int.reduceNeg, Int.reduceAdd, Int.reduceSub, Int.reduceMul, Int.reducePow, Nat.reduceAdd, Nat.reduceSub, Nat.reduceLT, Nat.reduceLeDiff, Int.reduceToNat, Bool.not_true, Bool.not_false, dat_str k6, dat_str k7]
    exact h
  · simp (implicitDefEqProofs := false) (disch := first | assumption | omega | (simp only [Pf.l_lenS, Pf.l_len0] <;> omega)) only [Pf.kOpt_some, Pf.look_ap, Pf.lkO_l, Pf.lkO_r, Pf.var_ap, Pf.c_ap, Pf.op_ap, Pf.op1_ap, Pf.op2_ap, Pf.tst_ap, Pf.kB_ap, Pf.asB_ap, Pf.kTo_some, Pf.tru_ap, Pf.kTru_ap, Pf.truB_bl, Pf.truB_non, Pf.truB_int, Pf.truB_tup, Pf.andV_ap, Pf.kAndV_ap, Pf.kAndB_t, Pf.kAndB_f, Pf.orV_ap, Pf.kOrV_ap, Pf.kOrB_t, Pf.kOrB_f, Pf.notV_ap, Pf.kNotV_ap, Pf.kNotB_ap, Pf.and_ap, Pf.kAnd_t, Pf.kAnd_f, Pf.or_ap, Pf.kOr_t, Pf.kOr_f, Pf.not_ap, Pf.kNot_ap, Pf.if_ap, Pf.kIf_t, Pf.kIf_f, Pf.un_ap, Pf.kUn_ap, Pf.neg_ap, Pf.chain_ap, Pf.kCh1_ap, Pf.kCh2_ap, Pf.kCh3_t, Pf.kCh3_f, Pf.maNil_ap, Pf.maCons_ap, Pf.kArg_ap, Pf.kArg2_ap, Pf.tup_ap, Pf.kTup_ap, Pf.lst_ap, Pf.kLst_ap, Pf.call_ap, Pf.kCall_ap, Pf.cb_ap, Pf.kCB_ap, Pf.isi_ap, Pf.kIsi_ap, Pf.kIsi2_some, Pf.tyN_int, Pf.tyN_bl, Pf.tyN_non, Pf.tyN_str, Pf.tyN_tup, Pf.tyB_ii, Pf.tyB_ib, Pf.tyB_bi, Pf.tyB_bb, Pf.tyB_tt, Pf.bm_ap, Pf.kBM_ap, Pf.kBM2_ap, Pf.msNil_ap, Pf.seq_ap, Pf.nx_mk, Pf.rt_mk, Pf.bk_mk, Pf.ct_mk, Pf.ret_ap, Pf.retN_ap, Pf.brk_ap, Pf.cont_ap, Pf.set_ap, Pf.kSet_ap, Pf.expr_ap, Pf.kDrop_ap, Pf.ifS_ap, Pf.kIfS_t, Pf.kIfS_f, Pf.sub_ap, Pf.kSub1_ap, Pf.kSub2_ap, Pf.kSub3_ap, Pf.defW_ap, Pf.add_ii, Pf.add_tt, Pf.sub_ii, Pf.mul_lt, Pf.mul_rt, Pf.mod_ii, Pf.fdiv_ii, Pf.lt_ii, Pf.le_ii, Pf.gt_ii, Pf.ge_ii, Pf.bId_ap, Pf.eq_ap, Pf.ne_ap, Pf.kEq_some, Pf.dat_int, Pf.dat_bl, Pf.dat_non, Pf.dat_str, Pf.dat_tup, Pf.eqv_ii, Pf.eqv_ss, Pf.eqv_bb, Pf.kO_some, Pf.ix_t, Pf.kL_some, Pf.at_0, Pf.at_1, Pf.at_2, Pf.at_3, Pf.at_4, Pf.at_5, Pf.len_t, Pf.list_t, Pf.list_f, Pf.tuple_t, Pf.int_i, Pf.int_b, Pf.l_set0, Pf.l_setS, Pf.l_get0, Pf.l_getS, Pf.l_len0, Pf.l_lenS, Pf.l_app0, Pf.l_appS, Pf.l_map0, Pf.l_mapS, Pf.l_len_map, Pf.l_rep0, Pf.l_repS, Pf.start_ap, Pf.wipe_nil, Pf.wipe_cons, Pf.supd_same, Pf.supd_ne, Pf.supd_supd, Pf.o_map_some, Pf.ixN_0, Pf.ixN_1, Pf.ixN_2, Pf.ixN_3, Pf.for_ap, Pf.kFor_ap, Pf.iter_ap, Pf.kIter_t, Pf.rng1_ap, Pf.kRng1_ap, Pf.rng2_ap, Pf.kRng2_ap, Pf.rev_ap, Pf.kRev_t, Pf.kNew_ap, Pf.lc_ap, Pf.kLc_ap, Pf.yes_ap, Pf.bind_nm, Pf.bind_tp, Pf.bindL_nil, Pf.bindL_cons, Pf.kBL_ap, Pf.pat_ap, Pf.kPat_ap, Pf.aug_ap, Pf.kAugO_ap, Pf.kAug1_ap, Pf.iadd_ii, Pf.rng_len, Pf.isL_r, Pf.kIsL_some, Pf.ix_r, Pf.kIx_some, Pf.len_r, Pf.kLen_some, Pf.list_r, Pf.kList_some, Pf.tuple_r, Pf.kTuple_some, Pf.put_r, Pf.kPut_l, Pf.kPutO_some, Pf.append_r, Pf.kApp_l, Pf.pop0_r, Pf.kPop0_l, Pf.kIter_r, Pf.kRev_r, Pf.kIterO_some, Pf.id_ap, Pf.dat_r, Pf.kDatL_some, Pf.bind_tpr, Pf.kBindO_some, Pg.disp_ap, Pg.dictN_ap, Pg.zip_nil, Pg.zip_cons, Pg.dget_ap, Pg.kDg_d, Pg.look_if, Pg.is_bb, Pg.is_nn, Pg.is_in, Pg.is_sn, Pg.is_tn, Pg.is_rn, Pg.isnt_bb, Pg.isnt_nn, Pg.isnt_in, Pg.isnt_sn, Pg.isnt_tn, Pg.isnt_rn, Pg.fld_ap, Pg.kFld_ap, Pg.kFldO_i, Pg.meth_ap, Pg.kMeth_ap, Pg.kMethO_i, Pg.kMethA_ap, Pg.make_ap, Pg.sl_ap, Pg.kSl1_ap, Pg.kSl2_ap, Pg.kSl3_ap, Pg.pNo_ap, Pg.pYes_ap, Pg.kPart_ap, Pg.revL_ap, Pg.kRvL_ap, Pg.kRvO_some, String.reduceEq, Int.reduceEq, if_true, if_false, Nat.reduceEqDiff, decide_not, beq_self_eq_true, true_and, and_true, decide_true, decide_false, Int.reduceLT, Int.reduceLE, Int.reduceNeg, Int.reduceAdd, Int.reduceSub, Int.reduceMul, Int.reducePow, Nat.reduceAdd, Nat.reduceSub, Nat.reduceLT, Nat.reduceLeDiff, Int.reduceToNat, Bool.not_true, Bool.not_false, dat_str k6, dat_str k7, dat_str k8]
    exact h
theorem lholds_spec {fs ss : List Int} {arg got w1 w2 : Int} {e1 e2 f : MV} {s : String} {S : Sto} {R : MK} (hs : s = "==" ∨ s = "!=" ∨ s = "<") (r1 : Ex fs ss arg got e1 w1) (r2 : Ex fs ss arg got e2 w2) (hf : f = .tup (fs.map .int) ∨ ∃ a, f = .ref a ∧ S a = some (.lst (fs.map .int)))
    (h : ∀ p kvs, S p = none → R (.bl (sem s w1 w2)) (supd S p (.dct kvs))) :
    Rw.W__law_holds [.tup [e1, .str s, e2], f, .tup (ss.map .int), .int arg, .int got] S R := by
  unfold Rw.W__law_holds Rw.B__law_holds
  simp (implicitDefEqProofs := false) (disch := first | assumption | omega | (simp only [Pf.l_lenS, Pf.l_len0] <;> omega)) only [Pf.kOpt_some, Pf.look_ap, Pf.lkO_l, Pf.lkO_r, Pf.var_ap, Pf.c_ap, Pf.op_ap, Pf.op1_ap, Pf.op2_ap, Pf.tst_ap, Pf.kB_ap, Pf.asB_ap, Pf.kTo_some, Pf.tru_ap, Pf.kTru_ap, Pf.truB_bl, Pf.truB_non, Pf.truB_int, Pf.truB_tup, Pf.andV_ap, Pf.kAndV_ap, Pf.kAndB_t, Pf.kAndB_f, Pf.orV_ap, Pf.kOrV_ap, Pf.kOrB_t, Pf.kOrB_f, Pf.notV_ap, Pf.kNotV_ap, Pf.kNotB_ap, Pf.and_ap, Pf.kAnd_t, Pf.kAnd_f, Pf.or_ap, Pf.kOr_t, Pf.kOr_f, Pf.not_ap, Pf.kNot_ap, Pf.if_ap, Pf.kIf_t, Pf.kIf_f, Pf.un_ap, Pf.kUn_ap, Pf.neg_ap, Pf.chain_ap, Pf.kCh1_ap, Pf.kCh2_ap, Pf.kCh3_t, Pf.kCh3_f, Pf.maNil_ap, Pf.maCons_ap, Pf.kArg_ap, Pf.kArg2_ap, Pf.tup_ap, Pf.kTup_ap, Pf.lst_ap, Pf.kLst_ap, Pf.call_ap, Pf.kCall_ap, Pf.cb_ap, Pf.kCB_ap, Pf.isi_ap, Pf.kIsi_ap, Pf.kIsi2_some, Pf.tyN_int, Pf.tyN_bl, Pf.tyN_non, Pf.tyN_str, Pf.tyN_tup, Pf.tyB_ii, Pf.tyB_ib, Pf.tyB_bi, Pf.tyB_bb, Pf.tyB_tt, Pf.bm_ap, Pf.kBM_ap, Pf.kBM2_ap, Pf.msNil_ap, Pf.seq_ap, Pf.nx_mk, Pf.rt_mk, Pf.bk_mk, Pf.ct_mk, Pf.ret_ap, Pf.retN_ap, Pf.brk_ap, Pf.cont_ap, Pf.set_ap, Pf.kSet_ap, Pf.expr_ap, Pf.kDrop_ap, Pf.ifS_ap, Pf.kIfS_t, Pf.kIfS_f, Pf.sub_ap, Pf.kSub1_ap, Pf.kSub2_ap, Pf.kSub3_ap, Pf.defW_ap, Pf.add_ii, Pf.add_tt, Pf.sub_ii, Pf.mul_lt, Pf.mul_rt, Pf.mod_ii, Pf.fdiv_ii, Pf.lt_ii, Pf.le_ii, Pf.gt_ii, Pf.ge_ii, Pf.bId_ap, Pf.eq_ap, Pf.ne_ap, Pf.kEq_some, Pf.dat_int, Pf.dat_bl, Pf.dat_non, Pf.dat_str, Pf.dat_tup, Pf.eqv_ii, Pf.eqv_ss, Pf.eqv_bb, Pf.kO_some, Pf.ix_t, Pf.kL_some, Pf.at_0, Pf.at_1, Pf.at_2, Pf.at_3, Pf.at_4, Pf.at_5, Pf.len_t, Pf.list_t, Pf.list_f, Pf.tuple_t, Pf.int_i, Pf.int_b, Pf.l_set0, Pf.l_setS, Pf.l_get0, Pf.l_getS, Pf.l_len0, Pf.l_lenS, Pf.l_app0, Pf.l_appS, Pf.l_map0, Pf.l_mapS, Pf.l_len_map, Pf.l_rep0, Pf.l_repS, Pf.start_ap, Pf.wipe_nil, Pf.wipe_cons, Pf.supd_same, Pf.supd_ne, Pf.supd_supd, Pf.o_map_some, Pf.ixN_0, Pf.ixN_1, Pf.ixN_2, Pf.ixN_3, Pf.for_ap, Pf.kFor_ap, Pf.iter_ap, Pf.kIter_t, Pf.rng1_ap, Pf.kRng1_ap, Pf.rng2_ap, Pf.kRng2_ap, Pf.rev_ap, Pf.kRev_t, Pf.kNew_ap, Pf.lc_ap, Pf.kLc_ap, Pf.yes_ap, Pf.bind_nm, Pf.bind_tp, Pf.bindL_nil, Pf.bindL_cons, Pf.kBL_ap, Pf.pat_ap, Pf.kPat_ap, Pf.aug_ap, Pf.kAugO_ap, Pf.kAug1_ap, Pf.iadd_ii, Pf.rng_len, Pf.isL_r, Pf.kIsL_some, Pf.ix_r, Pf.kIx_some, Pf.len_r, Pf.kLen_some, Pf.list_r, Pf.kList_some, Pf.tuple_r, Pf.kTuple_some, Pf.put_r, Pf.kPut_l, Pf.kPutO_some, Pf.append_r, Pf.kApp_l, Pf.pop0_r, Pf.kPop0_l, Pf.kIter_r, Pf.kRev_r, Pf.kIterO_some, Pf.id_ap, Pf.dat_r, Pf.kDatL_some, Pf.bind_tpr, Pf.kBindO_some, Pg.disp_ap, Pg.dictN_ap, Pg.zip_nil, Pg.zip_cons, Pg.dget_ap, Pg.kDg_d, Pg.look_if, Pg.is_bb, Pg.is_nn, Pg.is_in, Pg.is_sn, Pg.is_tn, Pg.is_rn, Pg.isnt_bb, Pg.isnt_nn, Pg.isnt_in, Pg.isnt_sn, Pg.isnt_tn, Pg.isnt_rn, Pg.fld_ap, Pg.kFld_ap, Pg.kFldO_i, Pg.meth_ap, Pg.kMeth_ap, Pg.kMethO_i, Pg.kMethA_ap, Pg.make_ap, Pg.sl_ap, Pg.kSl1_ap, Pg.kSl2_ap, Pg.kSl3_ap, Pg.pNo_ap, Pg.pYes_ap, Pg.kPart_ap, Pg.revL_ap, Pg.kRvL_ap, Pg.kRvO_some, String.reduceEq, Int.reduceEq, if_true, if_false, Nat.reduceEqDiff, decide_not, beq_self_eq_true, true_and, and_true, decide_true, decide_false, Int.reduceLT, Int.reduceLE, Int.reduceNeg, Int.reduceAdd, Int.reduceSub, Int.reduceMul, Int.reducePow, Nat.reduceAdd, Nat.reduceSub, Nat.reduceLT, Nat.reduceLeDiff, Int.reduceToNat, Bool.not_true, Bool.not_false]
  refine lvalue_spec r1 hf ?_
  simp (implicitDefEqProofs := false) (disch := first | assumption | omega | (simp only [Pf.l_lenS, Pf.l_len0] <;> omega)) only [Pf.kOpt_some, Pf.look_ap, Pf.lkO_l, Pf.lkO_r, Pf.var_ap, Pf.c_ap, Pf.op_ap, Pf.op1_ap, Pf.op2_ap, Pf.tst_ap, Pf.kB_ap, Pf.asB_ap, Pf.kTo_some, Pf.tru_ap, Pf.kTru_ap, Pf.truB_bl, Pf.truB_non, Pf.truB_int, Pf.truB_tup, Pf.andV_ap, Pf.kAndV_ap, Pf.kAndB_t, Pf.kAndB_f, Pf.orV_ap, Pf.kOrV_ap, Pf.kOrB_t, Pf.kOrB_f, Pf.notV_ap, Pf.kNotV_ap, Pf.kNotB_ap, Pf.and_ap, Pf.kAnd_t, Pf.kAnd_f, Pf.or_ap, Pf.kOr_t, Pf.kOr_f, Pf.not_ap, Pf.kNot_ap, Pf.if_ap, Pf.kIf_t, Pf.kIf_f, Pf.un_ap, Pf.kUn_ap, Pf.neg_ap, Pf.chain_ap, Pf.kCh1_ap, Pf.kCh2_ap, Pf.kCh3_t, Pf.kCh3_f, Pf.maNil_ap, Pf.maCons_ap, Pf.kArg_ap, Pf.kArg2_ap, Pf.tup_ap, Pf.kTup_ap, Pf.lst_ap, Pf.kLst_ap, Pf.call_ap, Pf.kCall_ap, Pf.cb_ap, Pf.kCB_ap, Pf.isi_ap, Pf.kIsi_ap, Pf.kIsi2_some, Pf.tyN_int, Pf.tyN_bl, Pf.tyN_non, Pf.tyN_str, Pf.tyN_tup, Pf.tyB_ii, Pf.tyB_ib, Pf.tyB_bi, Pf.tyB_bb, Pf.tyB_tt, Pf.bm_ap, Pf.kBM_ap, Pf.kBM2_ap, Pf.msNil_ap, Pf.seq_ap, Pf.nx_mk, Pf.rt_mk, Pf.bk_mk, Pf.ct_mk, Pf.ret_ap, Pf.retN_ap, Pf.brk_ap, Pf.cont_ap, Pf.set_ap, Pf.kSet_ap, Pf.expr_ap, Pf.kDrop_ap, Pf.ifS_ap, Pf.kIfS_t, Pf.kIfS_f, Pf.sub_ap, Pf.kSub1_ap, Pf.kSub2_ap, Pf.kSub3_ap, Pf.defW_ap, Pf.add_ii, Pf.add_tt, Pf.sub_ii, Pf.mul_lt, Pf.mul_rt, Pf.mod_ii, Pf.fdiv_ii, Pf.lt_ii, Pf.le_ii, Pf.gt_ii, Pf.ge_ii, Pf.bId_ap, Pf.eq_ap, Pf.ne_ap, Pf.kEq_some, Pf.dat_int, Pf.dat_bl, Pf.dat_non, Pf.dat_str, Pf.dat_tup, Pf.eqv_ii, Pf.eqv_ss, Pf.eqv_bb, Pf.kO_some, Pf.ix_t, Pf.kL_some, Pf.at_0, Pf.at_1, Pf.at_2, Pf.at_3, Pf.at_4, Pf.at_5, Pf.len_t, Pf.list_t, Pf.list_f, Pf.tuple_t, Pf.int_i, Pf.int_b, Pf.l_set0, Pf.l_setS, Pf.l_get0, Pf.l_getS, Pf.l_len0, Pf.l_lenS, Pf.l_app0, Pf.l_appS, Pf.l_map0, Pf.l_mapS, Pf.l_len_map, Pf.l_rep0, Pf.l_repS, Pf.start_ap, Pf.wipe_nil, Pf.wipe_cons, Pf.supd_same, Pf.supd_ne, Pf.supd_supd, Pf.o_map_some, Pf.ixN_0, Pf.ixN_1, Pf.ixN_2, Pf.ixN_3, Pf.for_ap, Pf.kFor_ap, Pf.iter_ap, Pf.kIter_t, Pf.rng1_ap, Pf.kRng1_ap, Pf.rng2_ap, Pf.kRng2_ap, Pf.rev_ap, Pf.kRev_t, Pf.kNew_ap, Pf.lc_ap, Pf.kLc_ap, Pf.yes_ap, Pf.bind_nm, Pf.bind_tp, Pf.bindL_nil, Pf.bindL_cons, Pf.kBL_ap, Pf.pat_ap, Pf.kPat_ap, Pf.aug_ap, Pf.kAugO_ap, Pf.kAug1_ap, Pf.iadd_ii, Pf.rng_len, Pf.isL_r, Pf.kIsL_some, Pf.ix_r, Pf.kIx_some, Pf.len_r, Pf.kLen_some, Pf.list_r, Pf.kList_some, Pf.tuple_r, Pf.kTuple_some, Pf.put_r, Pf.kPut_l, Pf.kPutO_some, Pf.append_r, Pf.kApp_l, Pf.pop0_r, Pf.kPop0_l, Pf.kIter_r, Pf.kRev_r, Pf.kIterO_some, Pf.id_ap, Pf.dat_r, Pf.kDatL_some, Pf.bind_tpr, Pf.kBindO_some, Pg.disp_ap, Pg.dictN_ap, Pg.zip_nil, Pg.zip_cons, Pg.dget_ap, Pg.kDg_d, Pg.look_if, Pg.is_bb, Pg.is_nn, Pg.is_in, Pg.is_sn, Pg.is_tn, Pg.is_rn, Pg.isnt_bb, Pg.isnt_nn, Pg.isnt_in, Pg.isnt_sn, Pg.isnt_tn, Pg.isnt_rn, Pg.fld_ap, Pg.kFld_ap, Pg.kFldO_i, Pg.meth_ap, Pg.kMeth_ap, Pg.kMethO_i, Pg.kMethA_ap, Pg.make_ap, Pg.sl_ap, Pg.kSl1_ap, Pg.kSl2_ap, Pg.kSl3_ap, Pg.pNo_ap, Pg.pYes_ap, Pg.kPart_ap, Pg.revL_ap, Pg.kRvL_ap, Pg.kRvO_some, String.reduceEq, Int.reduceEq, if_true, if_false, Nat.reduceEqDiff, decide_not, beq_self_eq_true, true_and, and_true, decide_true, decide_false, Int.reduceLT, Int.reduceLE, Int.reduceNeg, Int.reduceAdd, Int.reduceSub, Int.reduceMul, Int.reducePow, Nat.reduceAdd, Nat.reduceSub, Nat.reduceLT, Nat.reduceLeDiff, Int.reduceToNat, Bool.not_true, Bool.not_false]
  refine lvalue_spec r2 hf ?_
  have hd := fun (R : MK) (vs : List MV) (S : Sto) => @Pg.kDisp_ap ["==", "!=", "<"] R vs S (by decide)
  simp (implicitDefEqProofs := false) (disch := first | assumption | omega | (simp only [Pf.l_lenS, Pf.l_len0] <;> omega)) only [Pf.kOpt_some, Pf.look_ap, Pf.lkO_l, Pf.lkO_r, Pf.var_ap, Pf.c_ap, Pf.op_ap, Pf.op1_ap, Pf.op2_ap, Pf.tst_ap, Pf.kB_ap, Pf.asB_ap, Pf.kTo_some, Pf.tru_ap, Pf.kTru_ap, Pf.truB_bl, Pf.truB_non, Pf.truB_int, Pf.truB_tup, Pf.andV_ap, Pf.kAndV_ap, Pf.kAndB_t, Pf.kAndB_f, Pf.orV_ap, Pf.kOrV_ap, Pf.kOrB_t, Pf.kOrB_f, Pf.notV_ap, Pf.kNotV_ap, Pf.kNotB_ap, Pf.and_ap, Pf.kAnd_t, Pf.kAnd_f, Pf.or_ap, Pf.kOr_t, Pf.kOr_f, Pf.not_ap, Pf.kNot_ap, Pf.if_ap, Pf.kIf_t, Pf.kIf_f, Pf.un_ap, Pf.kUn_ap, Pf.neg_ap, Pf.chain_ap, Pf.kCh1_ap, Pf.kCh2_ap, Pf.kCh3_t, Pf.kCh3_f, Pf.maNil_ap, Pf.maCons_ap, Pf.kArg_ap, Pf.kArg2_ap, Pf.tup_ap, Pf.kTup_ap, Pf.lst_ap, Pf.kLst_ap, Pf.call_ap, Pf.kCall_ap, Pf.cb_ap, Pf.kCB_ap, Pf.isi_ap, Pf.kIsi_ap, Pf.kIsi2_some, Pf.tyN_int, Pf.tyN_bl, Pf.tyN_non, Pf.tyN_str, Pf.tyN_tup, Pf.tyB_ii, Pf.tyB_ib, Pf.tyB_bi, Pf.tyB_bb, Pf.tyB_tt, Pf.bm_ap, Pf.kBM_ap, Pf.kBM2_ap, Pf.msNil_ap, Pf.seq_ap, Pf.nx_mk, Pf.rt_mk, Pf.bk_mk, Pf.ct_mk, Pf.ret_ap, Pf.retN_ap, Pf.brk_ap, Pf.cont_ap, Pf.set_ap, Pf.kSet_ap, Pf.expr_ap, Pf.kDrop_ap, Pf.ifS_ap, Pf.kIfS_t, Pf.kIfS_f, Pf.sub_ap, Pf.kSub1_ap, Pf.kSub2_ap, Pf.kSub3_ap, Pf.defW_ap, Pf.add_ii, Pf.add_tt, Pf.sub_ii, Pf.mul_lt, Pf.mul_rt, Pf.mod_ii, Pf.fdiv_ii, Pf.lt_ii, Pf.le_ii, Pf.gt_ii, Pf.ge_ii, Pf.bId_ap, Pf.eq_ap, Pf.ne_ap, Pf.kEq_some, Pf.dat_int, Pf.dat_bl, Pf.dat_non, Pf.dat_str, Pf.dat_tup, Pf.eqv_ii, Pf.eqv_ss, Pf.eqv_bb, Pf.kO_some, Pf.ix_t, Pf.kL_some, Pf.at_0, Pf.at_1, Pf.at_2, Pf.at_3, Pf.at_4, Pf.at_5, Pf.len_t, Pf.list_t, Pf.list_f, Pf.tuple_t, Pf.int_i, Pf.int_b, Pf.l_set0, Pf.l_setS, Pf.l_get0, Pf.l_getS, Pf.l_len0, Pf.l_lenS, Pf.l_app0, Pf.l_appS, Pf.l_map0, Pf.l_mapS, Pf.l_len_map, Pf.l_rep0, Pf.l_repS, Pf.start_ap, Pf.wipe_nil, Pf.wipe_cons, Pf.supd_same, Pf.supd_ne, Pf.supd_supd, Pf.o_map_some, Pf.ixN_0, Pf.ixN_1, Pf.ixN_2, Pf.ixN_3, Pf.for_ap, Pf.kFor_ap, Pf.iter_ap, Pf.kIter_t, Pf.rng1_ap, Pf.kRng1_ap, Pf.rng2_ap, Pf.kRng2_ap, Pf.rev_ap, Pf.kRev_t, Pf.kNew_ap, Pf.lc_ap, Pf.kLc_ap, Pf.yes_ap, Pf.bind_nm, Pf.bind_tp, Pf.bindL_nil, Pf.bindL_cons, Pf.kBL_ap, Pf.pat_ap, Pf.kPat_ap, Pf.aug_ap, Pf.kAugO_ap, Pf.kAug1_ap, Pf.iadd_ii, Pf.rng_len, Pf.isL_r, Pf.kIsL_some, Pf.ix_r, Pf.kIx_some, Pf.len_r, Pf.kLen_some, Pf.list_r, Pf.kList_some, Pf.tuple_r, Pf.kTuple_some, Pf.put_r, Pf.kPut_l, Pf.kPutO_some, Pf.append_r, Pf.kApp_l, Pf.pop0_r, Pf.kPop0_l, Pf.kIter_r, Pf.kRev_r, Pf.kIterO_some, Pf.id_ap, Pf.dat_r, Pf.kDatL_some, Pf.bind_tpr, Pf.kBindO_some, Pg.disp_ap, Pg.dictN_ap, Pg.zip_nil, Pg.zip_cons, Pg.dget_ap, Pg.kDg_d, Pg.look_if, Pg.is_bb, Pg.is_nn, Pg.is_in, Pg.is_sn, Pg.is_tn, Pg.is_rn, Pg.isnt_bb, Pg.isnt_nn, Pg.isnt_in, Pg.isnt_sn, Pg.isnt_tn, Pg.isnt_rn, Pg.fld_ap, Pg.kFld_ap, Pg.kFldO_i, Pg.meth_ap, Pg.kMeth_ap, Pg.kMethO_i, Pg.kMethA_ap, Pg.make_ap, Pg.sl_ap, Pg.kSl1_ap, Pg.kSl2_ap, Pg.kSl3_ap, Pg.pNo_ap, Pg.pYes_ap, Pg.kPart_ap, Pg.revL_ap, Pg.kRvL_ap, Pg.kRvO_some, String.reduceEq, Int.reduceEq, if_true, if_false, Nat.reduceEqDiff, decide_not, beq_self_eq_true, true_and, and_true, decide_true, decide_false, Int.reduceLT, Int.reduceLE, Int.reduceNeg, Int.reduceAdd, Int.reduceSub, Int.reduceMul, Int.reducePow, Nat.reduceAdd, Nat.reduceSub, Nat.reduceLT, Nat.reduceLeDiff, Int.reduceToNat, Bool.not_true, Bool.not_false, hd]
  intro p hp
  rcases hs with rfl | rfl | rfl
  · simp (implicitDefEqProofs := false) (disch := first | assumption | omega | (simp only [Pf.l_lenS, Pf.l_len0] <;> omega)) only [Pf.kOpt_some, Pf.look_ap, Pf.lkO_l, Pf.lkO_r, Pf.var_ap, Pf.c_ap, Pf.op_ap, Pf.op1_ap, Pf.op2_ap, Pf.tst_ap, Pf.kB_ap, Pf.asB_ap, Pf.kTo_some, Pf.tru_ap, Pf.kTru_ap, Pf.truB_bl, Pf.truB_non, Pf.truB_int, Pf.truB_tup, Pf.andV_ap, Pf.kAndV_ap, Pf.kAndB_t, Pf.kAndB_f, Pf.orV_ap, Pf.kOrV_ap, Pf.kOrB_t, Pf.kOrB_f, Pf.notV_ap, Pf.kNotV_ap, Pf.kNotB_ap, Pf.and_ap, Pf.kAnd_t, Pf.kAnd_f, Pf.or_ap, Pf.kOr_t, Pf.kOr_f, Pf.not_ap, Pf.kNot_ap, Pf.if_ap, Pf.kIf_t, Pf.kIf_f, Pf.un_ap, Pf.kUn_ap, Pf.neg_ap, Pf.chain_ap, Pf.kCh1_ap, Pf.kCh2_ap, Pf.kCh3_t, Pf.kCh3_f, Pf.maNil_ap, Pf.maCons_ap, Pf.kArg_ap, Pf.kArg2_ap, Pf.tup_ap, Pf.kTup_ap, Pf.lst_ap, Pf.kLst_ap, Pf.call_ap, Pf.kCall_ap, Pf.cb_ap, Pf.kCB_ap, Pf.isi_ap, Pf.kIsi_ap, Pf.kIsi2_some, Pf.tyN_int, Pf.tyN_bl, Pf.tyN_non, Pf.tyN_str, Pf.tyN_tup, Pf.tyB_ii, Pf.tyB_ib, Pf.tyB_bi, Pf.tyB_bb, Pf.tyB_tt, Pf.bm_ap, Pf.kBM_ap, Pf.kBM2_ap, Pf.msNil_ap, Pf.seq_ap, Pf.nx_mk, Pf.rt_mk, Pf.bk_mk, Pf.ct_mk, Pf.ret_ap, Pf.retN_ap, Pf.brk_ap, Pf.cont_ap, Pf.set_ap, Pf.kSet_ap, Pf.expr_ap, Pf.kDrop_ap, Pf.ifS_ap, Pf.kIfS_t, Pf.kIfS_f, Pf.sub_ap, Pf.kSub1_ap, Pf.kSub2_ap, Pf.kSub3_ap, Pf.defW_ap, Pf.add_ii, Pf.add_tt, Pf.sub_ii, Pf.mul_lt, Pf.mul_rt, Pf.mod_ii, Pf.fdiv_ii, Pf.lt_ii, Pf.le_ii, Pf.gt_ii, Pf.ge_ii, Pf.bId_ap, Pf.eq_ap, Pf.ne_ap, Pf.kEq_some, Pf.dat_int, Pf.dat_bl, Pf.dat_non, Pf.dat_str, Pf.dat_tup, Pf.eqv_ii, Pf.eqv_ss, Pf.eqv_bb, Pf.kO_some, Pf.ix_t, Pf.kL_some, Pf.at_0, Pf.at_1, Pf.at_2, Pf.at_3, Pf.at_4, Pf.at_5, Pf.len_t, Pf.list_t, Pf.list_f, Pf.tuple_t, Pf.int_i, Pf.int_b, Pf.l_set0, Pf.l_setS, Pf.l_get0, Pf.l_getS, Pf.l_len0, Pf.l_lenS, Pf.l_app0, Pf.l_appS, Pf.l_map0, Pf.l_mapS, Pf.l_len_map, Pf.l_rep0, Pf.l_repS, Pf.start_ap, Pf.wipe_nil, Pf.wipe_cons, Pf.supd_same, Pf.supd_ne, Pf.supd_supd, Pf.o_map_some, Pf.ixN_0, Pf.ixN_1, Pf.ixN_2, Pf.ixN_3, Pf.for_ap, Pf.kFor_ap, Pf.iter_ap, Pf.kIter_t, Pf.rng1_ap, Pf.kRng1_ap, Pf.rng2_ap, Pf.kRng2_ap, Pf.rev_ap, Pf.kRev_t, Pf.kNew_ap, Pf.lc_ap, Pf.kLc_ap, Pf.yes_ap, Pf.bind_nm, Pf.bind_tp, Pf.bindL_nil, Pf.bindL_cons, Pf.kBL_ap, Pf.pat_ap, Pf.kPat_ap, Pf.aug_ap, Pf.kAugO_ap, Pf.kAug1_ap, Pf.iadd_ii, Pf.rng_len, Pf.isL_r, Pf.kIsL_some, Pf.ix_r, Pf.kIx_some, Pf.len_r, Pf.kLen_some, Pf.list_r, Pf.kList_some, Pf.tuple_r, Pf.kTuple_some, Pf.put_r, Pf.kPut_l, Pf.kPutO_some, Pf.append_r, Pf.kApp_l, Pf.pop0_r, Pf.kPop0_l, Pf.kIter_r, Pf.kRev_r, Pf.kIterO_some, Pf.id_ap, Pf.dat_r, Pf.kDatL_some, Pf.bind_tpr, Pf.kBindO_some, Pg.disp_ap, Pg.dictN_ap, Pg.zip_nil, Pg.zip_cons, Pg.dget_ap, Pg.kDg_d, Pg.look_if, Pg.is_bb, Pg.is_nn, Pg.is_in, Pg.is_sn, Pg.is_tn, Pg.is_rn, Pg.isnt_bb, Pg.isnt_nn, Pg.isnt_in, Pg.isnt_sn, Pg.isnt_tn, Pg.isnt_rn, Pg.fld_ap, Pg.kFld_ap, Pg.kFldO_i, Pg.meth_ap, Pg.kMeth_ap, Pg.kMethO_i, Pg.kMethA_ap, Pg.make_ap, Pg.sl_ap, Pg.kSl1_ap, Pg.kSl2_ap, Pg.kSl3_ap, Pg.pNo_ap, Pg.pYes_ap, Pg.kPart_ap, Pg.revL_ap, Pg.kRvL_ap, Pg.kRvO_some, String.reduceEq, Int.reduceEq, if_true, if_false, Nat.reduceEqDiff, decide_not, beq_self_eq_true, true_and, and_true, decide_true, decide_false, Int.reduceLT, Int.reduceLE, Int.reduceNeg, Int.reduceAdd, Int.reduceSub, Int.reduceMul, Int.reducePow, Nat.reduceAdd, Nat.reduceSub, Nat.reduceLT, Nat.reduceLeDiff, Int.reduceToNat, Bool.not_true, Bool.not_false]
    exact h p _ hp
  · simp (implicitDefEqProofs := false) (disch := first | assumption | omega | (simp only [Pf.l_lenS, Pf.l_len0] <;> omega)) only [Pf.kOpt_some, Pf.look_ap, Pf.lkO_l, Pf.lkO_r, Pf.var_ap, Pf.c_ap, Pf.op_ap, Pf.op1_ap, Pf.op2_ap, Pf.tst_ap, Pf.kB_ap, Pf.asB_ap, Pf.kTo_some, Pf.tru_ap, Pf.kTru_ap, Pf.truB_bl, Pf.truB_non, Pf.truB_int, Pf.truB_tup, Pf.andV_ap, Pf.kAndV_ap, Pf.kAndB_t, Pf.kAndB_f, Pf.orV_ap, Pf.kOrV_ap, Pf.kOrB_t, Pf.kOrB_f, Pf.notV_ap, Pf.kNotV_ap, Pf.kNotB_ap, Pf.and_ap, Pf.kAnd_t, Pf.kAnd_f, Pf.or_ap, Pf.kOr_t, Pf.kOr_f, Pf.not_ap, Pf.kNot_ap, Pf.if_ap, Pf.kIf_t, Pf.kIf_f, Pf.un_ap, Pf.kUn_ap, Pf.neg_ap, Pf.chain_ap, Pf.kCh1_ap, Pf.kCh2_ap, Pf.kCh3_t, Pf.kCh3_f, Pf.maNil_ap, Pf.maCons_ap, Pf.kArg_ap, Pf.kArg2_ap, Pf.tup_ap, Pf.kTup_ap, Pf.lst_ap, Pf.kLst_ap, Pf.call_ap, Pf.kCall_ap, Pf.cb_ap, Pf.kCB_ap, Pf.isi_ap, Pf.kIsi_ap, Pf.kIsi2_some, Pf.tyN_int, Pf.tyN_bl, Pf.tyN_non, Pf.tyN_str, Pf.tyN_tup, Pf.tyB_ii, Pf.tyB_ib, Pf.tyB_bi, Pf.tyB_bb, Pf.tyB_tt, Pf.bm_ap, Pf.kBM_ap, Pf.kBM2_ap, Pf.msNil_ap, Pf.seq_ap, Pf.nx_mk, Pf.rt_mk, Pf.bk_mk, Pf.ct_mk, Pf.ret_ap, Pf.retN_ap, Pf.brk_ap, Pf.cont_ap, Pf.set_ap, Pf.kSet_ap, Pf.expr_ap, Pf.kDrop_ap, Pf.ifS_ap, Pf.kIfS_t, Pf.kIfS_f, Pf.sub_ap, Pf.kSub1_ap, Pf.kSub2_ap, Pf.kSub3_ap, Pf.defW_ap, Pf.add_ii, Pf.add_tt, Pf.sub_ii, Pf.mul_lt, Pf.mul_rt, Pf.mod_ii, Pf.fdiv_ii, Pf.lt_ii, Pf.le_ii, Pf.gt_ii, Pf.ge_ii, Pf.bId_ap, Pf.eq_ap, Pf.ne_ap, Pf.kEq_some, Pf.dat_int, Pf.dat_bl, Pf.dat_non, Pf.dat_str, Pf.dat_tup, Pf.eqv_ii, Pf.eqv_ss, Pf.eqv_bb, Pf.kO_some, Pf.ix_t, Pf.kL_some, Pf.at_0, Pf.at_1, Pf.at_2, Pf.at_3, Pf.at_4, Pf.at_5, Pf.len_t, Pf.list_t, Pf.list_f, Pf.tuple_t, Pf.int_i, Pf.int_b, Pf.l_set0, Pf.l_setS, Pf.l_get0, Pf.l_getS, Pf.l_len0, Pf.l_lenS, Pf.l_app0, Pf.l_appS, Pf.l_map0, Pf.l_mapS, Pf.l_len_map, Pf.l_rep0, Pf.l_repS, Pf.start_ap, Pf.wipe_nil, Pf.wipe_cons, Pf.supd_same, Pf.supd_ne, Pf.supd_supd, Pf.o_map_some, Pf.ixN_0, Pf.ixN_1, Pf.ixN_2, Pf.ixN_3, Pf.for_ap, Pf.kFor_ap, Pf.iter_ap, Pf.kIter_t, Pf.rng1_ap, Pf.kRng1_ap, Pf.rng2_ap, Pf.kRng2_ap, Pf.rev_ap, Pf.kRev_t, Pf.kNew_ap, Pf.lc_ap, Pf.kLc_ap, Pf.yes_ap, Pf.bind_nm, Pf.bind_tp, Pf.bindL_nil, Pf.bindL_cons, Pf.kBL_ap, Pf.pat_ap, Pf.kPat_ap, Pf.aug_ap, Pf.kAugO_ap, Pf.kAug1_ap, Pf.iadd_ii, Pf.rng_len, Pf.isL_r, Pf.kIsL_some, Pf.ix_r, Pf.kIx_some, Pf.len_r, Pf.kLen_some, Pf.list_r, Pf.kList_some, Pf.tuple_r, Pf.kTuple_some, Pf.put_r, Pf.kPut_l, Pf.kPutO_some, Pf.append_r, Pf.kApp_l, Pf.pop0_r, Pf.kPop0_l, Pf.kIter_r, Pf.kRev_r, Pf.kIterO_some, Pf.id_ap, Pf.dat_r, Pf.kDatL_some, Pf.bind_tpr, Pf.kBindO_some, Pg.disp_ap, Pg.dictN_ap, Pg.zip_nil, Pg.zip_cons, Pg.dget_ap, Pg.kDg_d, Pg.look_if, Pg.is_bb, Pg.is_nn, Pg.is_in, Pg.is_sn, Pg.is_tn, Pg.is_rn, Pg.isnt_bb, Pg.isnt_nn, Pg.isnt_in, Pg.isnt_sn, Pg.isnt_tn, Pg.isnt_rn, Pg.fld_ap, Pg.kFld_ap, Pg.kFldO_i, Pg.meth_ap, Pg.kMeth_ap, Pg.kMethO_i, Pg.kMethA_ap, Pg.make_ap, Pg.sl_ap, Pg.kSl1_ap, Pg.kSl2_ap, Pg.kSl3_ap, Pg.pNo_ap, Pg.pYes_ap, Pg.kPart_ap, Pg.revL_ap, Pg.kRvL_ap, Pg.kRvO_some, String.reduceEq, Int.reduceEq, if_true, if_false, Nat.reduceEqDiff, decide_not, beq_self_eq_true, true_and, and_true, decide_true, decide_false, Int.reduceLT, Int.reduceLE, Int.reduceNeg, Int.reduceAdd, Int.reduceSub, Int.reduceMul, Int.reducePow, Nat.reduceAdd, Nat.reduceSub, Nat.reduceLT, Nat.reduceLeDiff, Int.reduceToNat, Bool.not_true, Bool.not_false]
    exact h p _ hp
  · simp (implicitDefEqProofs := false) (disch := first | assumption | omega | (simp only [Pf.l_lenS, Pf.l_len0] <;> omega)) only [Pf.kOpt_some, Pf.look_ap, Pf.lkO_l, Pf.lkO_r, Pf.var_ap, Pf.c_ap, Pf.op_ap, Pf.op1_ap, Pf.op2_ap, Pf.tst_ap, Pf.kB_ap, Pf.asB_ap, Pf.kTo_some, Pf.tru_ap, Pf.kTru_ap, Pf.truB_bl, Pf.truB_non, Pf.truB_int, Pf.truB_tup, Pf.andV_ap, Pf.kAndV_ap, Pf.kAndB_t, Pf.kAndB_f, Pf.orV_ap, Pf.kOrV_ap, Pf.kOrB_t, Pf.kOrB_f, Pf.notV_ap, Pf.kNotV_ap, Pf.kNotB_ap, Pf.and_ap, Pf.kAnd_t, Pf.kAnd_f, Pf.or_ap, Pf.kOr_t, Pf.kOr_f, Pf.not_ap, Pf.kNot_ap, Pf.if_ap, Pf.kIf_t, Pf.kIf_f, Pf.un_ap, Pf.kUn_ap, Pf.neg_ap, Pf.chain_ap, Pf.kCh1_ap, Pf.kCh2_ap, Pf.kCh3_t, Pf.kCh3_f, Pf.maNil_ap, Pf.maCons_ap, Pf.kArg_ap, Pf.kArg2_ap, Pf.tup_ap, Pf.kTup_ap, Pf.lst_ap, Pf.kLst_ap, Pf.call_ap, Pf.kCall_ap, Pf.cb_ap, Pf.kCB_ap, Pf.isi_ap, Pf.kIsi_ap, Pf.kIsi2_some, Pf.tyN_int, Pf.tyN_bl, Pf.tyN_non, Pf.tyN_str, Pf.tyN_tup, Pf.tyB_ii, Pf.tyB_ib, Pf.tyB_bi, Pf.tyB_bb, Pf.tyB_tt, Pf.bm_ap, Pf.kBM_ap, Pf.kBM2_ap, Pf.msNil_ap, Pf.seq_ap, Pf.nx_mk, Pf.rt_mk, Pf.bk_mk, Pf.ct_mk, Pf.ret_ap, Pf.retN_ap, Pf.brk_ap, Pf.cont_ap, Pf.set_ap, Pf.kSet_ap, Pf.expr_ap, Pf.kDrop_ap, Pf.ifS_ap, Pf.kIfS_t, Pf.kIfS_f, Pf.sub_ap, Pf.kSub1_ap, Pf.kSub2_ap, Pf.kSub3_ap, Pf.defW_ap, Pf.add_ii, Pf.add_tt, Pf.sub_ii, Pf.mul_lt, Pf.mul_rt, Pf.mod_ii, Pf.fdiv_ii, Pf.lt_ii, Pf.le_ii, Pf.gt_ii, Pf.ge_ii, Pf.bId_ap, Pf.eq_ap, Pf.ne_ap, Pf.kEq_some, Pf.dat_int, Pf.dat_bl, Pf.dat_non, Pf.dat_str, Pf.dat_tup, Pf.eqv_ii, Pf.eqv_ss, Pf.eqv_bb, Pf.kO_some, Pf.ix_t, Pf.kL_some, Pf.at_0, Pf.at_1, Pf.at_2, Pf.at_3, Pf.at_4, Pf.at_5, Pf.len_t, Pf.list_t, Pf.list_f, Pf.tuple_t, Pf.int_i, Pf.int_b, Pf.l_set0, Pf.l_setS, Pf.l_get0, Pf.l_getS, Pf.l_len0, Pf.l_lenS, Pf.l_app0, Pf.l_appS, Pf.l_map0, Pf.l_mapS, Pf.l_len_map, Pf.l_rep0, Pf.l_repS, Pf.start_ap, Pf.wipe_nil, Pf.wipe_cons, Pf.supd_same, Pf.supd_ne, Pf.supd_supd, Pf.o_map_some, Pf.ixN_0, Pf.ixN_1, Pf.ixN_2, Pf.ixN_3, Pf.for_ap, Pf.kFor_ap, Pf.iter_ap, Pf.kIter_t, Pf.rng1_ap, Pf.kRng1_ap, Pf.rng2_ap, Pf.kRng2_ap, Pf.rev_ap, Pf.kRev_t, Pf.kNew_ap, Pf.lc_ap, Pf.kLc_ap, Pf.yes_ap, Pf.bind_nm, Pf.bind_tp, Pf.bindL_nil, Pf.bindL_cons, Pf.kBL_ap, Pf.pat_ap, Pf.kPat_ap, Pf.aug_ap, Pf.kAugO_ap, Pf.kAug1_ap, Pf.iadd_ii, Pf.rng_len, Pf.isL_r, Pf.kIsL_some, Pf.ix_r, Pf.kIx_some, Pf.len_r, Pf.kLen_some, Pf.list_r, Pf.kList_some, Pf.tuple_r, Pf.kTuple_some, Pf.put_r, Pf.kPut_l, Pf.kPutO_some, Pf.append_r, Pf.kApp_l, Pf.pop0_r, Pf.kPop0_l, Pf.kIter_r, Pf.kRev_r, Pf.kIterO_some, Pf.id_ap, Pf.dat_r, Pf.kDatL_some, Pf.bind_tpr, Pf.kBindO_some, Pg.disp_ap, Pg.dictN_ap, Pg.zip_nil, Pg.zip_cons, Pg.dget_ap, Pg.kDg_d, Pg.look_if, Pg.is_bb, Pg.is_nn, Pg.is_in, Pg.is_sn, Pg.is_tn, Pg.is_rn, Pg.isnt_bb, Pg.isnt_nn, Pg.isnt_in, Pg.isnt_sn, Pg.isnt_tn, Pg.isnt_rn, Pg.fld_ap, Pg.kFld_ap, Pg.kFldO_i, Pg.meth_ap, Pg.kMeth_ap, Pg.kMethO_i, Pg.kMethA_ap, Pg.make_ap, Pg.sl_ap, Pg.kSl1_ap, Pg.kSl2_ap, Pg.kSl3_ap, Pg.pNo_ap, Pg.pYes_ap, Pg.kPart_ap, Pg.revL_ap, Pg.kRvL_ap, Pg.kRvO_some, String.reduceEq, Int.reduceEq, if_true, if_false, Nat.reduceEqDiff, decide_not, beq_self_eq_true, true_and, and_true, decide_true, decide_false, Int.reduceLT, Int.reduceLE, Int.reduceNeg, Int.reduceAdd, Int.reduceSub, Int.reduceMul, Int.reducePow, Nat.reduceAdd, Nat.reduceSub, Nat.reduceLT, Nat.reduceLeDiff, Int.reduceToNat, Bool.not_true, Bool.not_false]
    exact h p _ hp
theorem any_spec {st l pf : Addr} {S : Sto} {q : GS} {fs ss : List Int} {R : MK} (hl : l ≠ st) (hq : q.ok) (h1 : pf ≠ st) (h2 : pf ≠ l) (hf : S pf = some (.lst (fs.map .int))) (hn : 0 < fs.length) (hb : fs.length < 1000) (hb2 : ss.length < 1000)
    (h : ∀ e q', q'.ok → (∀ arg got, ∃ w, Ex fs ss arg got e w) → R e (G st l S q')) : Rw.W__law_any [.ref st, .ref pf, .tup (ss.map .int)] (G st l S q) R := by
  unfold Rw.W__law_any Rw.B__law_any
  simp (implicitDefEqProofs := false) (disch := first | assumption | omega | (simp only [Pf.l_lenS, Pf.l_len0] <;> omega)) only [Pf.kOpt_some, Pf.look_ap, Pf.lkO_l, Pf.lkO_r, Pf.var_ap, Pf.c_ap, Pf.op_ap, Pf.op1_ap, Pf.op2_ap, Pf.tst_ap, Pf.kB_ap, Pf.asB_ap, Pf.kTo_some, Pf.tru_ap, Pf.kTru_ap, Pf.truB_bl, Pf.truB_non, Pf.truB_int, Pf.truB_tup, Pf.andV_ap, Pf.kAndV_ap, Pf.kAndB_t, Pf.kAndB_f, Pf.orV_ap, Pf.kOrV_ap, Pf.kOrB_t, Pf.kOrB_f, Pf.notV_ap, Pf.kNotV_ap, Pf.kNotB_ap, Pf.and_ap, Pf.kAnd_t, Pf.kAnd_f, Pf.or_ap, Pf.kOr_t, Pf.kOr_f, Pf.not_ap, Pf.kNot_ap, Pf.if_ap, Pf.kIf_t, Pf.kIf_f, Pf.un_ap, Pf.kUn_ap, Pf.neg_ap, Pf.chain_ap, Pf.kCh1_ap, Pf.kCh2_ap, Pf.kCh3_t, Pf.kCh3_f, Pf.maNil_ap, Pf.maCons_ap, Pf.kArg_ap, Pf.kArg2_ap, Pf.tup_ap, Pf.kTup_ap, Pf.lst_ap, Pf.kLst_ap, Pf.call_ap, Pf.kCall_ap, Pf.cb_ap, Pf.kCB_ap, Pf.isi_ap, Pf.kIsi_ap, Pf.kIsi2_some, Pf.tyN_int, Pf.tyN_bl, Pf.tyN_non, Pf.tyN_str, Pf.tyN_tup, Pf.tyB_ii, Pf.tyB_ib, Pf.tyB_bi, Pf.tyB_bb, Pf.tyB_tt, Pf.bm_ap, Pf.kBM_ap, Pf.kBM2_ap, Pf.msNil_ap, Pf.seq_ap, Pf.nx_mk, Pf.rt_mk, Pf.bk_mk, Pf.ct_mk, Pf.ret_ap, Pf.retN_ap, Pf.brk_ap, Pf.cont_ap, Pf.set_ap, Pf.kSet_ap, Pf.expr_ap, Pf.kDrop_ap, Pf.ifS_ap, Pf.kIfS_t, Pf.kIfS_f, Pf.sub_ap, Pf.kSub1_ap, Pf.kSub2_ap, Pf.kSub3_ap, Pf.defW_ap, Pf.add_ii, Pf.add_tt, Pf.sub_ii, Pf.mul_lt, Pf.mul_rt, Pf.mod_ii, Pf.fdiv_ii, Pf.lt_ii, Pf.le_ii, Pf.gt_ii, Pf.ge_ii, Pf.bId_ap, Pf.eq_ap, Pf.ne_ap, Pf.kEq_some, Pf.dat_int, Pf.dat_bl, Pf.dat_non, Pf.dat_str, Pf.dat_tup, Pf.eqv_ii, Pf.eqv_ss, Pf.eqv_bb, Pf.kO_some, Pf.ix_t, Pf.kL_some, Pf.at_0, Pf.at_1, Pf.at_2, Pf.at_3, Pf.at_4, Pf.at_5, Pf.len_t, Pf.list_t, Pf.list_f, Pf.tuple_t, Pf.int_i, Pf.int_b, Pf.l_set0, Pf.l_setS, Pf.l_get0, Pf.l_getS, Pf.l_len0, Pf.l_lenS, Pf.l_app0, Pf.l_appS, Pf.l_map0, Pf.l_mapS, Pf.l_len_map, Pf.l_rep0, Pf.l_repS, Pf.start_ap, Pf.wipe_nil, Pf.wipe_cons, Pf.supd_same, Pf.supd_ne, Pf.supd_supd, Pf.o_map_some, Pf.ixN_0, Pf.ixN_1, Pf.ixN_2, Pf.ixN_3, Pf.for_ap, Pf.kFor_ap, Pf.iter_ap, Pf.kIter_t, Pf.rng1_ap, Pf.kRng1_ap, Pf.rng2_ap, Pf.kRng2_ap, Pf.rev_ap, Pf.kRev_t, Pf.kNew_ap, Pf.lc_ap, Pf.kLc_ap, Pf.yes_ap, Pf.bind_nm, Pf.bind_tp, Pf.bindL_nil, Pf.bindL_cons, Pf.kBL_ap, Pf.pat_ap, Pf.kPat_ap, Pf.aug_ap, Pf.kAugO_ap, Pf.kAug1_ap, Pf.iadd_ii, Pf.rng_len, Pf.isL_r, Pf.kIsL_some, Pf.ix_r, Pf.kIx_some, Pf.len_r, Pf.kLen_some, Pf.list_r, Pf.kList_some, Pf.tuple_r, Pf.kTuple_some, Pf.put_r, Pf.kPut_l, Pf.kPutO_some, Pf.append_r, Pf.kApp_l, Pf.pop0_r, Pf.kPop0_l, Pf.kIter_r, Pf.kRev_r, Pf.kIterO_some, Pf.id_ap, Pf.dat_r, Pf.kDatL_some, Pf.bind_tpr, Pf.kBindO_some, Pg.disp_ap, Pg.dictN_ap, Pg.zip_nil, Pg.zip_cons, Pg.dget_ap, Pg.kDg_d, Pg.look_if, Pg.is_bb, Pg.is_nn, Pg.is_in, Pg.is_sn, Pg.is_tn, Pg.is_rn, Pg.isnt_bb, Pg.isnt_nn, Pg.isnt_in, Pg.isnt_sn, Pg.isnt_tn, Pg.isnt_rn, Pg.fld_ap, Pg.kFld_ap, Pg.kFldO_i, Pg.meth_ap, Pg.kMeth_ap, Pg.kMethO_i, Pg.kMethA_ap, Pg.make_ap, Pg.sl_ap, Pg.kSl1_ap, Pg.kSl2_ap, Pg.kSl3_ap, Pg.pNo_ap, Pg.pYes_ap, Pg.kPart_ap, Pg.revL_ap, Pg.kRvL_ap, Pg.kRvO_some, String.reduceEq, Int.reduceEq, if_true, if_false, Nat.reduceEqDiff, decide_not, beq_self_eq_true, true_and, and_true, decide_true, decide_false, Int.reduceLT, Int.reduceLE, Int.reduceNeg, Int.reduceAdd, Int.reduceSub, Int.reduceMul, Int.reducePow, Nat.reduceAdd, Nat.reduceSub, Nat.reduceLT, Nat.reduceLeDiff, Int.reduceToNat, Bool.not_true, Bool.not_false]
  refine nx_spec hl hq (by omega) (by omega) fun k q1 hq1 h3 h4 => ?_
  simp (implicitDefEqProofs := false) (disch := first | assumption | omega | (simp only [Pf.l_lenS, Pf.l_len0] <;> omega)) only [Pf.kOpt_some, Pf.look_ap, Pf.lkO_l, Pf.lkO_r, Pf.var_ap, Pf.c_ap, Pf.op_ap, Pf.op1_ap, Pf.op2_ap, Pf.tst_ap, Pf.kB_ap, Pf.asB_ap, Pf.kTo_some, Pf.tru_ap, Pf.kTru_ap, Pf.truB_bl, Pf.truB_non, Pf.truB_int, Pf.truB_tup, Pf.andV_ap, Pf.kAndV_ap, Pf.kAndB_t, Pf.kAndB_f, Pf.orV_ap, Pf.kOrV_ap, Pf.kOrB_t, Pf.kOrB_f, Pf.notV_ap, Pf.kNotV_ap, Pf.kNotB_ap, Pf.and_ap, Pf.kAnd_t, Pf.kAnd_f, Pf.or_ap, Pf.kOr_t, Pf.kOr_f, Pf.not_ap, Pf.kNot_ap, Pf.if_ap, Pf.kIf_t, Pf.kIf_f, Pf.un_ap, Pf.kUn_ap, Pf.neg_ap, Pf.chain_ap, Pf.kCh1_ap, Pf.kCh2_ap, Pf.kCh3_t, Pf.kCh3_f, Pf.maNil_ap, Pf.maCons_ap, Pf.kArg_ap, Pf.kArg2_ap, Pf.tup_ap, Pf.kTup_ap, Pf.lst_ap, Pf.kLst_ap, Pf.call_ap, Pf.kCall_ap, Pf.cb_ap, Pf.kCB_ap, Pf.isi_ap, Pf.kIsi_ap, Pf.kIsi2_some, Pf.tyN_int, Pf.tyN_bl, Pf.tyN_non, Pf.tyN_str, Pf.tyN_tup, Pf.tyB_ii, Pf.tyB_ib, Pf.tyB_bi, Pf.tyB_bb, Pf.tyB_tt, Pf.bm_ap, Pf.kBM_ap, Pf.kBM2_ap, Pf.msNil_ap, Pf.seq_ap, Pf.nx_mk, Pf.rt_mk, Pf.bk_mk, Pf.ct_mk, Pf.ret_ap, Pf.retN_ap, Pf.brk_ap, Pf.cont_ap, Pf.set_ap, Pf.kSet_ap, Pf.expr_ap, Pf.kDrop_ap, Pf.ifS_ap, Pf.kIfS_t, Pf.kIfS_f, Pf.sub_ap, Pf.kSub1_ap, Pf.kSub2_ap, Pf.kSub3_ap, Pf.defW_ap, Pf.add_ii, Pf.add_tt, Pf.sub_ii, Pf.mul_lt, Pf.mul_rt, Pf.mod_ii, Pf.fdiv_ii, Pf.lt_ii, Pf.le_ii, Pf.gt_ii, Pf.ge_ii, Pf.bId_ap, Pf.eq_ap, Pf.ne_ap, Pf.kEq_some, Pf.dat_int, Pf.dat_bl, Pf.dat_non, Pf.dat_str, Pf.dat_tup, Pf.eqv_ii, Pf.eqv_ss, Pf.eqv_bb, Pf.kO_some, Pf.ix_t, Pf.kL_some, Pf.at_0, Pf.at_1, Pf.at_2, Pf.at_3, Pf.at_4, Pf.at_5, Pf.len_t, Pf.list_t, Pf.list_f, Pf.tuple_t, Pf.int_i, Pf.int_b, Pf.l_set0, Pf.l_setS, Pf.l_get0, Pf.l_getS, Pf.l_len0, Pf.l_lenS, Pf.l_app0, Pf.l_appS, Pf.l_map0, Pf.l_mapS, Pf.l_len_map, Pf.l_rep0, Pf.l_repS, Pf.start_ap, Pf.wipe_nil, Pf.wipe_cons, Pf.supd_same, Pf.supd_ne, Pf.supd_supd, Pf.o_map_some, Pf.ixN_0, Pf.ixN_1, Pf.ixN_2, Pf.ixN_3, Pf.for_ap, Pf.kFor_ap, Pf.iter_ap, Pf.kIter_t, Pf.rng1_ap, Pf.kRng1_ap, Pf.rng2_ap, Pf.kRng2_ap, Pf.rev_ap, Pf.kRev_t, Pf.kNew_ap, Pf.lc_ap, Pf.kLc_ap, Pf.yes_ap, Pf.bind_nm, Pf.bind_tp, Pf.bindL_nil, Pf.bindL_cons, Pf.kBL_ap, Pf.pat_ap, Pf.kPat_ap, Pf.aug_ap, Pf.kAugO_ap, Pf.kAug1_ap, Pf.iadd_ii, Pf.rng_len, Pf.isL_r, Pf.kIsL_some, Pf.ix_r, Pf.kIx_some, Pf.len_r, Pf.kLen_some, Pf.list_r, Pf.kList_some, Pf.tuple_r, Pf.kTuple_some, Pf.put_r, Pf.kPut_l, Pf.kPutO_some, Pf.append_r, Pf.kApp_l, Pf.pop0_r, Pf.kPop0_l, Pf.kIter_r, Pf.kRev_r, Pf.kIterO_some, Pf.id_ap, Pf.dat_r, Pf.kDatL_some, Pf.bind_tpr, Pf.kBindO_some, Pg.disp_ap, Pg.dictN_ap, Pg.zip_nil, Pg.zip_cons, Pg.dget_ap, Pg.kDg_d, Pg.look_if, Pg.is_bb, Pg.is_nn, Pg.is_in, Pg.is_sn, Pg.is_tn, Pg.is_rn, Pg.isnt_bb, Pg.isnt_nn, Pg.isnt_in, Pg.isnt_sn, Pg.isnt_tn, Pg.isnt_rn, Pg.fld_ap, Pg.kFld_ap, Pg.kFldO_i, Pg.meth_ap, Pg.kMeth_ap, Pg.kMethO_i, Pg.kMethA_ap, Pg.make_ap, Pg.sl_ap, Pg.kSl1_ap, Pg.kSl2_ap, Pg.kSl3_ap, Pg.pNo_ap, Pg.pYes_ap, Pg.kPart_ap, Pg.revL_ap, Pg.kRvL_ap, Pg.kRvO_some, String.reduceEq, Int.reduceEq, if_true, if_false, Nat.reduceEqDiff, decide_not, beq_self_eq_true, true_and, and_true, decide_true, decide_false, Int.reduceLT, Int.reduceLE, Int.reduceNeg, Int.reduceAdd, Int.reduceSub, Int.reduceMul, Int.reducePow, Nat.reduceAdd, Nat.reduceSub, Nat.reduceLT, Nat.reduceLeDiff, Int.reduceToNat, Bool.not_true, Bool.not_false]
  by_cases e0 : k = 0
  · simp (implicitDefEqProofs := false) (disch := first | assumption | omega | (simp only [Pf.l_lenS, Pf.l_len0] <;> omega)) only [Pf.kOpt_some, Pf.look_ap, Pf.lkO_l, Pf.lkO_r, Pf.var_ap, Pf.c_ap, Pf.op_ap, Pf.op1_ap, Pf.op2_ap, Pf.tst_ap, Pf.kB_ap, Pf.asB_ap, Pf.kTo_some, Pf.tru_ap, Pf.kTru_ap, Pf.truB_bl, Pf.truB_non, Pf.truB_int, Pf.truB_tup, Pf.andV_ap, Pf.kAndV_ap, Pf.kAndB_t, Pf.kAndB_f, Pf.orV_ap, Pf.kOrV_ap, Pf.kOrB_t, Pf.kOrB_f, Pf.notV_ap, Pf.kNotV_ap, Pf.kNotB_ap, Pf.and_ap, Pf.kAnd_t, Pf.kAnd_f, Pf.or_ap, Pf.kOr_t, Pf.kOr_f, Pf.not_ap, Pf.kNot_ap, Pf.if_ap, Pf.kIf_t, Pf.kIf_f, Pf.un_ap, Pf.kUn_ap, Pf.neg_ap, Pf.chain_ap, Pf.kCh1_ap, Pf.kCh2_ap, Pf.kCh3_t, Pf.kCh3_f, Pf.maNil_ap, Pf.maCons_ap, Pf.kArg_ap, Pf.kArg2_ap, Pf.tup_ap, Pf.kTup_ap, Pf.lst_ap, Pf.kLst_ap, Pf.call_ap, Pf.kCall_ap, Pf.cb_ap, Pf.kCB_ap, Pf.isi_ap, Pf.kIsi_ap, Pf.kIsi2_some, Pf.tyN_int, Pf.tyN_bl, Pf.tyN_non, Pf.tyN_str, Pf.tyN_tup, Pf.tyB_ii, Pf.tyB_ib, Pf.tyB_bi, Pf.tyB_bb, Pf.tyB_tt, Pf.bm_ap, Pf.kBM_ap, Pf.kBM2_ap, Pf.msNil_ap, Pf.seq_ap, Pf.nx_mk, Pf.rt_mk, Pf.bk_mk, Pf.ct_mk, Pf.ret_ap, Pf.retN_ap, Pf.brk_ap, Pf.cont_ap, Pf.set_ap, Pf.kSet_ap, Pf.expr_ap, Pf.kDrop_ap, Pf.ifS_ap, Pf.kIfS_t, Pf.kIfS_f, Pf.sub_ap, Pf.kSub1_ap, Pf.kSub2_ap, Pf.kSub3_ap, Pf.defW_ap, Pf.add_ii, Pf.add_tt, Pf.sub_ii, Pf.mul_lt, Pf.mul_rt, Pf.mod_ii, Pf.fdiv_ii, Pf.lt_ii, Pf.le_ii, Pf.gt_ii, Pf.ge_ii, Pf.bId_ap, Pf.eq_ap, Pf.ne_ap, Pf.kEq_some, Pf.dat_int, Pf.dat_bl, Pf.dat_non, Pf.dat_str, Pf.dat_tup, Pf.eqv_ii, Pf.eqv_ss, Pf.eqv_bb, Pf.kO_some, Pf.ix_t, Pf.kL_some, Pf.at_0, Pf.at_1, Pf.at_2, Pf.at_3, Pf.at_4, Pf.at_5, Pf.len_t, Pf.list_t, Pf.list_f, Pf.tuple_t, Pf.int_i, Pf.int_b, Pf.l_set0, Pf.l_setS, Pf.l_get0, Pf.l_getS, Pf.l_len0, Pf.l_lenS, Pf.l_app0, Pf.l_appS, Pf.l_map0, Pf.l_mapS, Pf.l_len_map, Pf.l_rep0, Pf.l_repS, Pf.start_ap, Pf.wipe_nil, Pf.wipe_cons, Pf.supd_same, Pf.supd_ne, Pf.supd_supd, Pf.o_map_some, Pf.ixN_0, Pf.ixN_1, Pf.ixN_2, Pf.ixN_3, Pf.for_ap, Pf.kFor_ap, Pf.iter_ap, Pf.kIter_t, Pf.rng1_ap, Pf.kRng1_ap, Pf.rng2_ap, Pf.kRng2_ap, Pf.rev_ap, Pf.kRev_t, Pf.kNew_ap, Pf.lc_ap, Pf.kLc_ap, Pf.yes_ap, Pf.bind_nm, Pf.bind_tp, Pf.bindL_nil, Pf.bindL_cons, Pf.kBL_ap, Pf.pat_ap, Pf.kPat_ap, Pf.aug_ap, Pf.kAugO_ap, Pf.kAug1_ap, Pf.iadd_ii, Pf.rng_len, Pf.isL_r, Pf.kIsL_some, Pf.ix_r, Pf.kIx_some, Pf.len_r, Pf.kLen_some, Pf.list_r, Pf.kList_some, Pf.tuple_r, Pf.kTuple_some, Pf.put_r, Pf.kPut_l, Pf.kPutO_some, Pf.append_r, Pf.kApp_l, Pf.pop0_r, Pf.kPop0_l, Pf.kIter_r, Pf.kRev_r, Pf.kIterO_some, Pf.id_ap, Pf.dat_r, Pf.kDatL_some, Pf.bind_tpr, Pf.kBindO_some, Pg.disp_ap, Pg.dictN_ap, Pg.zip_nil, Pg.zip_cons, Pg.dget_ap, Pg.kDg_d, Pg.look_if, Pg.is_bb, Pg.is_nn, Pg.is_in, Pg.is_sn, Pg.is_tn, Pg.is_rn, Pg.isnt_bb, Pg.isnt_nn, Pg.isnt_in, Pg.isnt_sn, Pg.isnt_tn, Pg.isnt_rn, Pg.fld_ap, Pg.kFld_ap, Pg.kFldO_i, Pg.meth_ap, Pg.kMeth_ap, Pg.kMethO_i, Pg.kMethA_ap, Pg.make_ap, Pg.sl_ap, Pg.kSl1_ap, Pg.kSl2_ap, Pg.kSl3_ap, Pg.pNo_ap, Pg.pYes_ap, Pg.kPart_ap, Pg.revL_ap, Pg.kRvL_ap, Pg.kRvO_some, String.reduceEq, Int.reduceEq, if_true, if_false, Nat.reduceEqDiff, decide_not, beq_self_eq_true, true_and, and_true, decide_true, decide_false, Int.reduceLT, Int.reduceLE, Int.reduceNeg, Int.reduceAdd, Int.reduceSub, Int.reduceMul, Int.reducePow, Nat.reduceAdd, Nat.reduceSub, Nat.reduceLT, Nat.reduceLeDiff, Int.reduceToNat, Bool.not_true, Bool.not_false, e0]
    exact h _ _ hq1 fun arg got => ⟨_, .arg⟩
  by_cases e1 : k = 1
  · simp (implicitDefEqProofs := false) (disch := first | assumption | omega | (simp only [Pf.l_lenS, Pf.l_len0] <;> omega)) only [Pf.kOpt_some, Pf.look_ap, Pf.lkO_l, Pf.lkO_r, Pf.var_ap, Pf.c_ap, Pf.op_ap, Pf.op1_ap, Pf.op2_ap, Pf.tst_ap, Pf.kB_ap, Pf.asB_ap, Pf.kTo_some, Pf.tru_ap, Pf.kTru_ap, Pf.truB_bl, Pf.truB_non, Pf.truB_int, Pf.truB_tup, Pf.andV_ap, Pf.kAndV_ap, Pf.kAndB_t, Pf.kAndB_f, Pf.orV_ap, Pf.kOrV_ap, Pf.kOrB_t, Pf.kOrB_f, Pf.notV_ap, Pf.kNotV_ap, Pf.kNotB_ap, Pf.and_ap, Pf.kAnd_t, Pf.kAnd_f, Pf.or_ap, Pf.kOr_t, Pf.kOr_f, Pf.not_ap, Pf.kNot_ap, Pf.if_ap, Pf.kIf_t, Pf.kIf_f, Pf.un_ap, Pf.kUn_ap, Pf.neg_ap, Pf.chain_ap, Pf.kCh1_ap, Pf.kCh2_ap, Pf.kCh3_t, Pf.kCh3_f, Pf.maNil_ap, Pf.maCons_ap, Pf.kArg_ap, Pf.kArg2_ap, Pf.tup_ap, Pf.kTup_ap, Pf.lst_ap, Pf.kLst_ap, Pf.call_ap, Pf.kCall_ap, Pf.cb_ap, Pf.kCB_ap, Pf.isi_ap, Pf.kIsi_ap, Pf.kIsi2_some, Pf.tyN_int, Pf.tyN_bl, Pf.tyN_non, Pf.tyN_str, Pf.tyN_tup, Pf.tyB_ii, Pf.tyB_ib, Pf.tyB_bi, Pf.tyB_bb, Pf.tyB_tt, Pf.bm_ap, Pf.kBM_ap, Pf.kBM2_ap, Pf.msNil_ap, Pf.seq_ap, Pf.nx_mk, Pf.rt_mk, Pf.bk_mk, Pf.ct_mk, Pf.ret_ap, Pf.retN_ap, Pf.brk_ap, Pf.cont_ap, Pf.set_ap, Pf.kSet_ap, Pf.expr_ap, Pf.kDrop_ap, Pf.ifS_ap, Pf.kIfS_t, Pf.kIfS_f, Pf.sub_ap, Pf.kSub1_ap, Pf.kSub2_ap, Pf.kSub3_ap, Pf.defW_ap, Pf.add_ii, Pf.add_tt, Pf.sub_ii, Pf.mul_lt, Pf.mul_rt, Pf.mod_ii, Pf.fdiv_ii, Pf.lt_ii, Pf.le_ii, Pf.gt_ii, Pf.ge_ii, Pf.bId_ap, Pf.eq_ap, Pf.ne_ap, Pf.kEq_some, Pf.dat_int, Pf.dat_bl, Pf.dat_non, Pf.dat_str, Pf.dat_tup, Pf.eqv_ii, Pf.eqv_ss, Pf.eqv_bb, Pf.kO_some, Pf.ix_t, Pf.kL_some, Pf.at_0, Pf.at_1, Pf.at_2, Pf.at_3, Pf.at_4, Pf.at_5, Pf.len_t, Pf.list_t, Pf.list_f, Pf.tuple_t, Pf.int_i, Pf.int_b, Pf.l_set0, Pf.l_setS, Pf.l_get0, Pf.l_getS, Pf.l_len0, Pf.l_lenS, Pf.l_app0, Pf.l_appS, Pf.l_map0, Pf.l_mapS, Pf.l_len_map, Pf.l_rep0, Pf.l_repS, Pf.start_ap, Pf.wipe_nil, Pf.wipe_cons, Pf.supd_same, Pf.supd_ne, Pf.supd_supd, Pf.o_map_some, Pf.ixN_0, Pf.ixN_1, Pf.ixN_2, Pf.ixN_3, Pf.for_ap, Pf.kFor_ap, Pf.iter_ap, Pf.kIter_t, Pf.rng1_ap, Pf.kRng1_ap, Pf.rng2_ap, Pf.kRng2_ap, Pf.rev_ap, Pf.kRev_t, Pf.kNew_ap, Pf.lc_ap, Pf.kLc_ap, Pf.yes_ap, Pf.bind_nm, Pf.bind_tp, Pf.bindL_nil, Pf.bindL_cons, Pf.kBL_ap, Pf.pat_ap, Pf.kPat_ap, Pf.aug_ap, Pf.kAugO_ap, Pf.kAug1_ap, Pf.iadd_ii, Pf.rng_len, Pf.isL_r, Pf.kIsL_some, Pf.ix_r, Pf.kIx_some, Pf.len_r, Pf.kLen_some, Pf.list_r, Pf.kList_some, Pf.tuple_r, Pf.kTuple_some, Pf.put_r, Pf.kPut_l, Pf.kPutO_some, Pf.append_r, Pf.kApp_l, Pf.pop0_r, Pf.kPop0_l, Pf.kIter_r, Pf.kRev_r, Pf.kIterO_some, Pf.id_ap, Pf.dat_r, Pf.kDatL_some, Pf.bind_tpr, Pf.kBindO_some, Pg.disp_ap, Pg.dictN_ap, Pg.zip_nil, Pg.zip_cons, Pg.dget_ap, Pg.kDg_d, Pg.look_if, Pg.is_bb, Pg.is_nn, Pg.is_in, Pg.is_sn, Pg.is_tn, Pg.is_rn, Pg.isnt_bb, Pg.isnt_nn, Pg.isnt_in, Pg.isnt_sn, Pg.isnt_tn, Pg.isnt_rn, Pg.fld_ap, Pg.kFld_ap, Pg.kFldO_i, Pg.meth_ap, Pg.kMeth_ap, Pg.kMethO_i, Pg.kMethA_ap, Pg.make_ap, Pg.sl_ap, Pg.kSl1_ap, Pg.kSl2_ap, Pg.kSl3_ap, Pg.pNo_ap, Pg.pYes_ap, Pg.kPart_ap, Pg.revL_ap, Pg.kRvL_ap, Pg.kRvO_some, String.reduceEq, Int.reduceEq, if_true, if_false, Nat.reduceEqDiff, decide_not, beq_self_eq_true, true_and, and_true, decide_true, decide_false, Int.reduceLT, Int.reduceLE, Int.reduceNeg, Int.reduceAdd, Int.reduceSub, Int.reduceMul, Int.reducePow, Nat.reduceAdd, Nat.reduceSub, Nat.reduceLT, Nat.reduceLeDiff, Int.reduceToNat, Bool.not_true, Bool.not_false, e1]
    exact h _ _ hq1 fun arg got => ⟨_, .got⟩
  by_cases e2 : k = 2
  · simp (implicitDefEqProofs := false) (disch := first | assumption | omega | (simp only [Pf.l_lenS, Pf.l_len0] <;> omega)) only [Pf.kOpt_some, Pf.look_ap, Pf.lkO_l, Pf.lkO_r, Pf.var_ap, Pf.c_ap, Pf.op_ap, Pf.op1_ap, Pf.op2_ap, Pf.tst_ap, Pf.kB_ap, Pf.asB_ap, Pf.kTo_some, Pf.tru_ap, Pf.kTru_ap, Pf.truB_bl, Pf.truB_non, Pf.truB_int, Pf.truB_tup, Pf.andV_ap, Pf.kAndV_ap, Pf.kAndB_t, Pf.kAndB_f, Pf.orV_ap, Pf.kOrV_ap, Pf.kOrB_t, Pf.kOrB_f, Pf.notV_ap, Pf.kNotV_ap, Pf.kNotB_ap, Pf.and_ap, Pf.kAnd_t, Pf.kAnd_f, Pf.or_ap, Pf.kOr_t, Pf.kOr_f, Pf.not_ap, Pf.kNot_ap, Pf.if_ap, Pf.kIf_t, Pf.kIf_f, Pf.un_ap, Pf.kUn_ap, Pf.neg_ap, Pf.chain_ap, Pf.kCh1_ap, Pf.kCh2_ap, Pf.kCh3_t, Pf.kCh3_f, Pf.maNil_ap, Pf.maCons_ap, Pf.kArg_ap, Pf.kArg2_ap, Pf.tup_ap, Pf.kTup_ap, Pf.lst_ap, Pf.kLst_ap, Pf.call_ap, Pf.kCall_ap, Pf.cb_ap, Pf.kCB_ap, Pf.isi_ap, Pf.kIsi_ap, Pf.kIsi2_some, Pf.tyN_int, Pf.tyN_bl, Pf.tyN_non, Pf.tyN_str, Pf.tyN_tup, Pf.tyB_ii, Pf.tyB_ib, Pf.tyB_bi, Pf.tyB_bb, Pf.tyB_tt, Pf.bm_ap, Pf.kBM_ap, Pf.kBM2_ap, Pf.msNil_ap, Pf.seq_ap, Pf.nx_mk, Pf.rt_mk, Pf.bk_mk, Pf.ct_mk, Pf.ret_ap, Pf.retN_ap, Pf.brk_ap, Pf.cont_ap, Pf.set_ap, Pf.kSet_ap, Pf.expr_ap, Pf.kDrop_ap, Pf.ifS_ap, Pf.kIfS_t, Pf.kIfS_f, Pf.sub_ap, Pf.kSub1_ap, Pf.kSub2_ap, Pf.kSub3_ap, Pf.defW_ap, Pf.add_ii, Pf.add_tt, Pf.sub_ii, Pf.mul_lt, Pf.mul_rt, Pf.mod_ii, Pf.fdiv_ii, Pf.lt_ii, Pf.le_ii, Pf.gt_ii, Pf.ge_ii, Pf.bId_ap, Pf.eq_ap, Pf.ne_ap, Pf.kEq_some, Pf.dat_int, Pf.dat_bl, Pf.dat_non, Pf.dat_str, Pf.dat_tup, Pf.eqv_ii, Pf.eqv_ss, Pf.eqv_bb, Pf.kO_some, Pf.ix_t, Pf.kL_some, Pf.at_0, Pf.at_1, Pf.at_2, Pf.at_3, Pf.at_4, Pf.at_5, Pf.len_t, Pf.list_t, Pf.list_f, Pf.tuple_t, Pf.int_i, Pf.int_b, Pf.l_set0, Pf.l_setS, Pf.l_get0, Pf.l_getS, Pf.l_len0, Pf.l_lenS, Pf.l_app0, Pf.l_appS, Pf.l_map0, Pf.l_mapS, Pf.l_len_map, Pf.l_rep0, Pf.l_repS, Pf.start_ap, Pf.wipe_nil, Pf.wipe_cons, Pf.supd_same, Pf.supd_ne, Pf.supd_supd, Pf.o_map_some, Pf.ixN_0, Pf.ixN_1, Pf.ixN_2, Pf.ixN_3, Pf.for_ap, Pf.kFor_ap, Pf.iter_ap, Pf.kIter_t, Pf.rng1_ap, Pf.kRng1_ap, Pf.rng2_ap, Pf.kRng2_ap, Pf.rev_ap, Pf.kRev_t, Pf.kNew_ap, Pf.lc_ap, Pf.kLc_ap, Pf.yes_ap, Pf.bind_nm, Pf.bind_tp, Pf.bindL_nil, Pf.bindL_cons, Pf.kBL_ap, Pf.pat_ap, Pf.kPat_ap, Pf.aug_ap, Pf.kAugO_ap, Pf.kAug1_ap, Pf.iadd_ii, Pf.rng_len, Pf.isL_r, Pf.kIsL_some, Pf.ix_r, Pf.kIx_some, Pf.len_r, Pf.kLen_some, Pf.list_r, Pf.kList_some, Pf.tuple_r, Pf.kTuple_some, Pf.put_r, Pf.kPut_l, Pf.kPutO_some, Pf.append_r, Pf.kApp_l, Pf.pop0_r, Pf.kPop0_l, Pf.kIter_r, Pf.kRev_r, Pf.kIterO_some, Pf.id_ap, Pf.dat_r, Pf.kDatL_some, Pf.bind_tpr, Pf.kBindO_some, Pg.disp_ap, Pg.dictN_ap, Pg.zip_nil, Pg.zip_cons, Pg.dget_ap, Pg.kDg_d, Pg.look_if, Pg.is_bb, Pg.is_nn, Pg.is_in, Pg.is_sn, Pg.is_tn, Pg.is_rn, Pg.isnt_bb, Pg.isnt_nn, Pg.isnt_in, Pg.isnt_sn, Pg.isnt_tn, Pg.isnt_rn, Pg.fld_ap, Pg.kFld_ap, Pg.kFldO_i, Pg.meth_ap, Pg.kMeth_ap, Pg.kMethO_i, Pg.kMethA_ap, Pg.make_ap, Pg.sl_ap, Pg.kSl1_ap, Pg.kSl2_ap, Pg.kSl3_ap, Pg.pNo_ap, Pg.pYes_ap, Pg.kPart_ap, Pg.revL_ap, Pg.kRvL_ap, Pg.kRvO_some, String.reduceEq, Int.reduceEq, if_true, if_false, Nat.reduceEqDiff, decide_not, beq_self_eq_true, true_and, and_true, decide_true, decide_false, Int.reduceLT, Int.reduceLE, Int.reduceNeg, Int.reduceAdd, Int.reduceSub, Int.reduceMul, Int.reducePow, Nat.reduceAdd, Nat.reduceSub, Nat.reduceLT, Nat.reduceLeDiff, Int.reduceToNat, Bool.not_true, Bool.not_false, e2, G_ne h1 h2, hf]
    refine nx_spec hl hq1 (by omega) (by omega) fun i q2 hq2 h5 h6 => ?_
    simp (implicitDefEqProofs := false) (disch := first | assumption | omega | (simp only [Pf.l_lenS, Pf.l_len0] <;> omega)) only [Pf.kOpt_some, Pf.look_ap, Pf.lkO_l, Pf.lkO_r, Pf.var_ap, Pf.c_ap, Pf.op_ap, Pf.op1_ap, Pf.op2_ap, Pf.tst_ap, Pf.kB_ap, Pf.asB_ap, Pf.kTo_some, Pf.tru_ap, Pf.kTru_ap, Pf.truB_bl, Pf.truB_non, Pf.truB_int, Pf.truB_tup, Pf.andV_ap, Pf.kAndV_ap, Pf.kAndB_t, Pf.kAndB_f, Pf.orV_ap, Pf.kOrV_ap, Pf.kOrB_t, Pf.kOrB_f, Pf.notV_ap, Pf.kNotV_ap, Pf.kNotB_ap, Pf.and_ap, Pf.kAnd_t, Pf.kAnd_f, Pf.or_ap, Pf.kOr_t, Pf.kOr_f, Pf.not_ap, Pf.kNot_ap, Pf.if_ap, Pf.kIf_t, Pf.kIf_f, Pf.un_ap, Pf.kUn_ap, Pf.neg_ap, Pf.chain_ap, Pf.kCh1_ap, Pf.kCh2_ap, Pf.kCh3_t, Pf.kCh3_f, Pf.maNil_ap, Pf.maCons_ap, Pf.kArg_ap, Pf.kArg2_ap, Pf.tup_ap, Pf.kTup_ap, Pf.lst_ap, Pf.kLst_ap, Pf.call_ap, Pf.kCall_ap, Pf.cb_ap, Pf.kCB_ap, Pf.isi_ap, Pf.kIsi_ap, Pf.kIsi2_some, Pf.tyN_int, Pf.tyN_bl, Pf.tyN_non, Pf.tyN_str, Pf.tyN_tup, Pf.tyB_ii, Pf.tyB_ib, Pf.tyB_bi, Pf.tyB_bb, Pf.tyB_tt, Pf.bm_ap, Pf.kBM_ap, Pf.kBM2_ap, Pf.msNil_ap, Pf.seq_ap, Pf.nx_mk, Pf.rt_mk, Pf.bk_mk, Pf.ct_mk, Pf.ret_ap, Pf.retN_ap, Pf.brk_ap, Pf.cont_ap, Pf.set_ap, Pf.kSet_ap, Pf.expr_ap, Pf.kDrop_ap, Pf.ifS_ap, Pf.kIfS_t, Pf.kIfS_f, Pf.sub_ap, Pf.kSub1_ap, Pf.kSub2_ap, Pf.kSub3_ap, Pf.defW_ap, Pf.add_ii, Pf.add_tt, Pf.sub_ii, Pf.mul_lt, Pf.mul_rt, Pf.mod_ii, Pf.fdiv_ii, Pf.lt_ii, Pf.le_ii, Pf.gt_ii, Pf.ge_ii, Pf.bId_ap, Pf.eq_ap, Pf.ne_ap, Pf.kEq_some, Pf.dat_int, Pf.dat_bl, Pf.dat_non, Pf.dat_str, Pf.dat_tup, Pf.eqv_ii, Pf.eqv_ss, Pf.eqv_bb, Pf.kO_some, Pf.ix_t, Pf.kL_some, Pf.at_0, Pf.at_1, Pf.at_2, Pf.at_3, Pf.at_4, Pf.at_5, Pf.len_t, Pf.list_t, Pf.list_f, Pf.tuple_t, Pf.int_i, Pf.int_b, Pf.l_set0, Pf.l_setS, Pf.l_get0, Pf.l_getS, Pf.l_len0, Pf.l_lenS, Pf.l_app0, Pf.l_appS, Pf.l_map0, Pf.l_mapS, Pf.l_len_map, Pf.l_rep0, Pf.l_repS, Pf.start_ap, Pf.wipe_nil, Pf.wipe_cons, Pf.supd_same, Pf.supd_ne, Pf.supd_supd, Pf.o_map_some, Pf.ixN_0, Pf.ixN_1, Pf.ixN_2, Pf.ixN_3, Pf.for_ap, Pf.kFor_ap, Pf.iter_ap, Pf.kIter_t, Pf.rng1_ap, Pf.kRng1_ap, Pf.rng2_ap, Pf.kRng2_ap, Pf.rev_ap, Pf.kRev_t, Pf.kNew_ap, Pf.lc_ap, Pf.kLc_ap, Pf.yes_ap, Pf.bind_nm, Pf.bind_tp, Pf.bindL_nil, Pf.bindL_cons, Pf.kBL_ap, Pf.pat_ap, Pf.kPat_ap, Pf.aug_ap, Pf.kAugO_ap, Pf.kAug1_ap, Pf.iadd_ii, Pf.rng_len, Pf.isL_r, Pf.kIsL_some, Pf.ix_r, Pf.kIx_some, Pf.len_r, Pf.kLen_some, Pf.list_r, Pf.kList_some, Pf.tuple_r, Pf.kTuple_some, Pf.put_r, Pf.kPut_l, Pf.kPutO_some, Pf.append_r, Pf.kApp_l, Pf.pop0_r, Pf.kPop0_l, Pf.kIter_r, Pf.kRev_r, Pf.kIterO_some, Pf.id_ap, Pf.dat_r, Pf.kDatL_some, Pf.bind_tpr, Pf.kBindO_some, Pg.disp_ap, Pg.dictN_ap, Pg.zip_nil, Pg.zip_cons, Pg.dget_ap, Pg.kDg_d, Pg.look_if, Pg.is_bb, Pg.is_nn, Pg.is_in, Pg.is_sn, Pg.is_tn, Pg.is_rn, Pg.isnt_bb, Pg.isnt_nn, Pg.isnt_in, Pg.isnt_sn, Pg.isnt_tn, Pg.isnt_rn, Pg.fld_ap, Pg.kFld_ap, Pg.kFldO_i, Pg.meth_ap, Pg.kMeth_ap, Pg.kMethO_i, Pg.kMethA_ap, Pg.make_ap, Pg.sl_ap, Pg.kSl1_ap, Pg.kSl2_ap, Pg.kSl3_ap, Pg.pNo_ap, Pg.pYes_ap, Pg.kPart_ap, Pg.revL_ap, Pg.kRvL_ap, Pg.kRvO_some, String.reduceEq, Int.reduceEq, if_true, if_false, Nat.reduceEqDiff, decide_not, beq_self_eq_true, true_and, and_true, decide_true, decide_false, Int.reduceLT, Int.reduceLE, Int.reduceNeg, Int.reduceAdd, Int.reduceSub, Int.reduceMul, Int.reducePow, Nat.reduceAdd, Nat.reduceSub, Nat.reduceLT, Nat.reduceLeDiff, Int.reduceToNat, Bool.not_true, Bool.not_false]
    refine h _ _ hq2 fun arg got => ?_
    obtain ⟨i, rfl⟩ := Int.eq_ofNat_of_zero_le h5
    have : i < fs.length := by omega
    exact ⟨fs[i], .field i _ (by simp [this])⟩
  have last : R (.tup [.str "value", .int k]) (G st l S q1) → True := fun _ => trivial
  by_cases e3 : k = 3
  · simp (implicitDefEqProofs := false) (disch := first | assumption | omega | (simp only [Pf.l_lenS, Pf.l_len0] <;> omega)) only [Pf.kOpt_some, Pf.look_ap, Pf.lkO_l, Pf.lkO_r, Pf.var_ap, Pf.c_ap, Pf.op_ap, Pf.op1_ap, Pf.op2_ap, Pf.tst_ap, Pf.kB_ap, Pf.asB_ap, Pf.kTo_some, Pf.tru_ap, Pf.kTru_ap, Pf.truB_bl, Pf.truB_non, Pf.truB_int, Pf.truB_tup, Pf.andV_ap, Pf.kAndV_ap, Pf.kAndB_t, Pf.kAndB_f, Pf.orV_ap, Pf.kOrV_ap, Pf.kOrB_t, Pf.kOrB_f, Pf.notV_ap, Pf.kNotV_ap, Pf.kNotB_ap, Pf.and_ap, Pf.kAnd_t, Pf.kAnd_f, Pf.or_ap, Pf.kOr_t, Pf.kOr_f, Pf.not_ap, Pf.kNot_ap, Pf.if_ap, Pf.kIf_t, Pf.kIf_f, Pf.un_ap, Pf.kUn_ap, Pf.neg_ap, Pf.chain_ap, Pf.kCh1_ap, Pf.kCh2_ap, Pf.kCh3_t, Pf.kCh3_f, Pf.maNil_ap, Pf.maCons_ap, Pf.kArg_ap, Pf.kArg2_ap, Pf.tup_ap, Pf.kTup_ap, Pf.lst_ap, Pf.kLst_ap, Pf.call_ap, Pf.kCall_ap, Pf.cb_ap, Pf.kCB_ap, Pf.isi_ap, Pf.kIsi_ap, Pf.kIsi2_some, Pf.tyN_int, Pf.tyN_bl, Pf.tyN_non, Pf.tyN_str, Pf.tyN_tup, Pf.tyB_ii, Pf.tyB_ib, Pf.tyB_bi, Pf.tyB_bb, Pf.tyB_tt, Pf.bm_ap, Pf.kBM_ap, Pf.kBM2_ap, Pf.msNil_ap, Pf.seq_ap, Pf.nx_mk, Pf.rt_mk, Pf.bk_mk, Pf.ct_mk, Pf.ret_ap, Pf.retN_ap, Pf.brk_ap, Pf.cont_ap, Pf.set_ap, Pf.kSet_ap, Pf.expr_ap, Pf.kDrop_ap, Pf.ifS_ap, Pf.kIfS_t, Pf.kIfS_f, Pf.sub_ap, Pf.kSub1_ap, Pf.kSub2_ap, Pf.kSub3_ap, Pf.defW_ap, Pf.add_ii, Pf.add_tt, Pf.sub_ii, Pf.mul_lt, Pf.mul_rt, Pf.mod_ii, Pf.fdiv_ii, Pf.lt_ii, Pf.le_ii, Pf.gt_ii, Pf.ge_ii, Pf.bId_ap, Pf.eq_ap, Pf.ne_ap, Pf.kEq_some, Pf.dat_int, Pf.dat_bl, Pf.dat_non, Pf.dat_str, Pf.dat_tup, Pf.eqv_ii, Pf.eqv_ss, Pf.eqv_bb, Pf.kO_some, Pf.ix_t, Pf.kL_some, Pf.at_0, Pf.at_1, Pf.at_2, Pf.at_3, Pf.at_4, Pf.at_5, Pf.len_t, Pf.list_t, Pf.list_f, Pf.tuple_t, Pf.int_i, Pf.int_b, Pf.l_set0, Pf.l_setS, Pf.l_get0, Pf.l_getS, Pf.l_len0, Pf.l_lenS, Pf.l_app0, Pf.l_appS, Pf.l_map0, Pf.l_mapS, Pf.l_len_map, Pf.l_rep0, Pf.l_repS, Pf.start_ap, Pf.wipe_nil, Pf.wipe_cons, Pf.supd_same, Pf.supd_ne, Pf.supd_supd, Pf.o_map_some, Pf.ixN_0, Pf.ixN_1, Pf.ixN_2, Pf.ixN_3, Pf.for_ap, Pf.kFor_ap, Pf.iter_ap, Pf.kIter_t, Pf.rng1_ap, Pf.kRng1_ap, Pf.rng2_ap, Pf.kRng2_ap, Pf.rev_ap, Pf.kRev_t, Pf.kNew_ap, Pf.lc_ap, Pf.kLc_ap, Pf.yes_ap, Pf.bind_nm, Pf.bind_tp, Pf.bindL_nil, Pf.bindL_cons, Pf.kBL_ap, Pf.pat_ap, Pf.kPat_ap, Pf.aug_ap, Pf.kAugO_ap, Pf.kAug1_ap, Pf.iadd_ii, Pf.rng_len, Pf.isL_r, Pf.kIsL_some, Pf.ix_r, Pf.kIx_some, Pf.len_r, Pf.kLen_some, Pf.list_r, Pf.kList_some, Pf.tuple_r, Pf.kTuple_some, Pf.put_r, Pf.kPut_l, Pf.kPutO_some, Pf.append_r, Pf.kApp_l, Pf.pop0_r, Pf.kPop0_l, Pf.kIter_r, Pf.kRev_r, Pf.kIterO_some, Pf.id_ap, Pf.dat_r, Pf.kDatL_some, Pf.bind_tpr, Pf.kBindO_some, Pg.disp_ap, Pg.dictN_ap, Pg.zip_nil, Pg.zip_cons, Pg.dget_ap, Pg.kDg_d, Pg.look_if, Pg.is_bb, Pg.is_nn, Pg.is_in, Pg.is_sn, Pg.is_tn, Pg.is_rn, Pg.isnt_bb, Pg.isnt_nn, Pg.isnt_in, Pg.isnt_sn, Pg.isnt_tn, Pg.isnt_rn, Pg.fld_ap, Pg.kFld_ap, Pg.kFldO_i, Pg.meth_ap, Pg.kMeth_ap, Pg.kMethO_i, Pg.kMethA_ap, Pg.make_ap, Pg.sl_ap, Pg.kSl1_ap, Pg.kSl2_ap, Pg.kSl3_ap, Pg.pNo_ap, Pg.pYes_ap, Pg.kPart_ap, Pg.revL_ap, Pg.kRvL_ap, Pg.kRvO_some, String.reduceEq, Int.reduceEq, if_true, if_false, Nat.reduceEqDiff, decide_not, beq_self_eq_true, true_and, and_true, decide_true, decide_false, Int.reduceLT, Int.reduceLE, Int.reduceNeg, Int.reduceAdd, Int.reduceSub, Int.reduceMul, Int.reducePow, Nat.reduceAdd, Nat.reduceSub, Nat.reduceLT, Nat.reduceLeDiff, Int.reduceToNat, Bool.not_true, Bool.not_false, e0, e1, e2, e3]
    by_cases e4 : (0 : Int) < ss.length
    · simp (implicitDefEqProofs := false) (disch := first | assumption | omega | (simp only [Pf.l_lenS, Pf.l_len0] <;> omega)) only [Pf.kOpt_some, Pf.look_ap, Pf.lkO_l, Pf.lkO_r, Pf.var_ap, Pf.c_ap, Pf.op_ap, Pf.op1_ap, Pf.op2_ap, Pf.tst_ap, Pf.kB_ap, Pf.asB_ap, Pf.kTo_some, Pf.tru_ap, Pf.kTru_ap, Pf.truB_bl, Pf.truB_non, Pf.truB_int, Pf.truB_tup, Pf.andV_ap, Pf.kAndV_ap, Pf.kAndB_t, Pf.kAndB_f, Pf.orV_ap, Pf.kOrV_ap, Pf.kOrB_t, Pf.kOrB_f, Pf.notV_ap, Pf.kNotV_ap, Pf.kNotB_ap, Pf.and_ap, Pf.kAnd_t, Pf.kAnd_f, Pf.or_ap, Pf.kOr_t, Pf.kOr_f, Pf.not_ap, Pf.kNot_ap, Pf.if_ap, Pf.kIf_t, Pf.kIf_f, Pf.un_ap, Pf.kUn_ap, Pf.neg_ap, Pf.chain_ap, Pf.kCh1_ap, Pf.kCh2_ap, Pf.kCh3_t, Pf.kCh3_f, Pf.maNil_ap, Pf.maCons_ap, Pf.kArg_ap, Pf.kArg2_ap, Pf.tup_ap, Pf.kTup_ap, Pf.lst_ap, Pf.kLst_ap, Pf.call_ap, Pf.kCall_ap, Pf.cb_ap, Pf.kCB_ap, Pf.isi_ap, Pf.kIsi_ap, Pf.kIsi2_some, Pf.tyN_int, Pf.tyN_bl, Pf.tyN_non, Pf.tyN_str, Pf.tyN_tup, Pf.tyB_ii, Pf.tyB_ib, Pf.tyB_bi, Pf.tyB_bb, Pf.tyB_tt, Pf.bm_ap, Pf.kBM_ap, Pf.kBM2_ap, Pf.msNil_ap, Pf.seq_ap, Pf.nx_mk, Pf.rt_mk, Pf.bk_mk, Pf.ct_mk, Pf.ret_ap, Pf.retN_ap, Pf.brk_ap, Pf.cont_ap, Pf.set_ap, Pf.kSet_ap, Pf.expr_ap, Pf.kDrop_ap, Pf.ifS_ap, Pf.kIfS_t, Pf.kIfS_f, Pf.sub_ap, Pf.kSub1_ap, Pf.kSub2_ap, Pf.kSub3_ap, Pf.defW_ap, Pf.add_ii, Pf.add_tt, Pf.sub_ii, Pf.mul_lt, Pf.mul_rt, Pf.mod_ii, Pf.fdiv_ii, Pf.lt_ii, Pf.le_ii, Pf.gt_ii, Pf.ge_ii, Pf.bId_ap, Pf.eq_ap, Pf.ne_ap, Pf.kEq_some, Pf.dat_int, Pf.dat_bl, Pf.dat_non, Pf.dat_str, Pf.dat_tup, Pf.eqv_ii, Pf.eqv_ss, Pf.eqv_bb, Pf.kO_some, Pf.ix_t, Pf.kL_some, Pf.at_0, Pf.at_1, Pf.at_2, Pf.at_3, Pf.at_4, Pf.at_5, Pf.len_t, Pf.list_t, Pf.list_f, Pf.tuple_t, Pf.int_i, Pf.int_b, Pf.l_set0, Pf.l_setS, Pf.l_get0, Pf.l_getS, Pf.l_len0, Pf.l_lenS, Pf.l_app0, Pf.l_appS, Pf.l_map0, Pf.l_mapS, Pf.l_len_map, Pf.l_rep0, Pf.l_repS, Pf.start_ap, Pf.wipe_nil, Pf.wipe_cons, Pf.supd_same, Pf.supd_ne, Pf.supd_supd, Pf.o_map_some, Pf.ixN_0, Pf.ixN_1, Pf.ixN_2, Pf.ixN_3, Pf.for_ap, Pf.kFor_ap, Pf.iter_ap, Pf.kIter_t, Pf.rng1_ap, Pf.kRng1_ap, Pf.rng2_ap, Pf.kRng2_ap, Pf.rev_ap, Pf.kRev_t, Pf.kNew_ap, Pf.lc_ap, Pf.kLc_ap, Pf.yes_ap, Pf.bind_nm, Pf.bind_tp, Pf.bindL_nil, Pf.bindL_cons, Pf.kBL_ap, Pf.pat_ap, Pf.kPat_ap, Pf.aug_ap, Pf.kAugO_ap, Pf.kAug1_ap, Pf.iadd_ii, Pf.rng_len, Pf.isL_r, Pf.kIsL_some, Pf.ix_r, Pf.kIx_some, Pf.len_r, Pf.kLen_some, Pf.list_r, Pf.kList_some, Pf.tuple_r, Pf.kTuple_some, Pf.put_r, Pf.kPut_l, Pf.kPutO_some, Pf.append_r, Pf.kApp_l, Pf.pop0_r, Pf.kPop0_l, Pf.kIter_r, Pf.kRev_r, Pf.kIterO_some, Pf.id_ap, Pf.dat_r, Pf.kDatL_some, Pf.bind_tpr, Pf.kBindO_some, Pg.disp_ap, Pg.dictN_ap, Pg.zip_nil, Pg.zip_cons, Pg.dget_ap, Pg.kDg_d, Pg.look_if, Pg.is_bb, Pg.is_nn, Pg.is_in, Pg.is_sn, Pg.is_tn, Pg.is_rn, Pg.isnt_bb, Pg.isnt_nn, Pg.isnt_in, Pg.isnt_sn, Pg.isnt_tn, Pg.isnt_rn, Pg.fld_ap, Pg.kFld_ap, Pg.kFldO_i, Pg.meth_ap, Pg.kMeth_ap, Pg.kMethO_i, Pg.kMethA_ap, Pg.make_ap, Pg.sl_ap, Pg.kSl1_ap, Pg.kSl2_ap, Pg.kSl3_ap, Pg.pNo_ap, Pg.pYes_ap, Pg.kPart_ap, Pg.revL_ap, Pg.kRvL_ap, Pg.kRvO_some, String.reduceEq, Int.reduceEq, if_true, if_false, Nat.reduceEqDiff, decide_not, beq_self_eq_true, true_and, and_true, decide_true, decide_false, Int.reduceLT, Int.reduceLE, Int.reduceNeg, Int.reduceAdd, Int.reduceSub, Int.reduceMul, Int.reducePow, Nat.reduceAdd, Nat.reduceSub, Nat.reduceLT, Nat.reduceLeDiff, Int.reduceToNat, Bool.not_true, Bool.not_false, e4]
      refine nx_spec hl hq1 (by omega) (by omega) fun i q2 hq2 h5 h6 => ?_
      simp (implicitDefEqProofs := false) (disch := first | assumption | omega | (simp only [Pf.l_lenS, Pf.l_len0] <;> omega)) only [Pf.kOpt_some, Pf.look_ap, Pf.lkO_l, Pf.lkO_r, Pf.var_ap, Pf.c_ap, Pf.op_ap, Pf.op1_ap, Pf.op2_ap, Pf.tst_ap, Pf.kB_ap, Pf.asB_ap, Pf.kTo_some, Pf.tru_ap, Pf.kTru_ap, Pf.truB_bl, Pf.truB_non, Pf.truB_int, Pf.truB_tup, Pf.andV_ap, Pf.kAndV_ap, Pf.kAndB_t, Pf.kAndB_f, Pf.orV_ap, Pf.kOrV_ap, Pf.kOrB_t, Pf.kOrB_f, Pf.notV_ap, Pf.kNotV_ap, Pf.kNotB_ap, Pf.and_ap, Pf.kAnd_t, Pf.kAnd_f, Pf.or_ap, Pf.kOr_t, Pf.kOr_f, Pf.not_ap, Pf.kNot_ap, Pf.if_ap, Pf.kIf_t, Pf.kIf_f, Pf.un_ap, Pf.kUn_ap, Pf.neg_ap, Pf.chain_ap, Pf.kCh1_ap, Pf.kCh2_ap, Pf.kCh3_t, Pf.kCh3_f, Pf.maNil_ap, Pf.maCons_ap, Pf.kArg_ap, Pf.kArg2_ap, Pf.tup_ap, Pf.kTup_ap, Pf.lst_ap, Pf.kLst_ap, Pf.call_ap, Pf.kCall_ap, Pf.cb_ap, Pf.kCB_ap, Pf.isi_ap, Pf.kIsi_ap, Pf.kIsi2_some, Pf.tyN_int, Pf.tyN_bl, Pf.tyN_non, Pf.tyN_str, Pf.tyN_tup, Pf.tyB_ii, Pf.tyB_ib, Pf.tyB_bi, Pf.tyB_bb, Pf.tyB_tt, Pf.bm_ap, Pf.kBM_ap, Pf.kBM2_ap, Pf.msNil_ap, Pf.seq_ap, Pf.nx_mk, Pf.rt_mk, Pf.bk_mk, Pf.ct_mk, Pf.ret_ap, Pf.retN_ap, Pf.brk_ap, Pf.cont_ap, Pf.set_ap, Pf.kSet_ap, Pf.expr_ap, Pf.kDrop_ap, Pf.ifS_ap, Pf.kIfS_t, Pf.kIfS_f, Pf.sub_ap, Pf.kSub1_ap, Pf.kSub2_ap, Pf.kSub3_ap, Pf.defW_ap, Pf.add_ii, Pf.add_tt, Pf.sub_ii, Pf.mul_lt, Pf.mul_rt, Pf.mod_ii, Pf.fdiv_ii, Pf.lt_ii, Pf.le_ii, Pf.gt_ii, Pf.ge_ii, Pf.bId_ap, Pf.eq_ap, Pf.ne_ap, Pf.kEq_some, Pf.dat_int, Pf.dat_bl, Pf.dat_non, Pf.dat_str, Pf.dat_tup, Pf.eqv_ii, Pf.eqv_ss, Pf.eqv_bb, Pf.kO_some, Pf.ix_t, Pf.kL_some, Pf.at_0, Pf.at_1, Pf.at_2, Pf.at_3, Pf.at_4, Pf.at_5, Pf.len_t, Pf.list_t, Pf.list_f, Pf.tuple_t, Pf.int_i, Pf.int_b, Pf.l_set0, Pf.l_setS, Pf.l_get0, Pf.l_getS, Pf.l_len0, Pf.l_lenS, Pf.l_app0, Pf.l_appS, Pf.l_map0, Pf.l_mapS, Pf.l_len_map, Pf.l_rep0, Pf.l_repS, Pf.start_ap, Pf.wipe_nil, Pf.wipe_cons, Pf.supd_same, Pf.supd_ne, Pf.supd_supd, Pf.o_map_some, Pf.ixN_0, Pf.ixN_1, Pf.ixN_2, Pf.ixN_3, Pf.for_ap, Pf.kFor_ap, Pf.iter_ap, Pf.kIter_t, Pf.rng1_ap, Pf.kRng1_ap, Pf.rng2_ap, Pf.kRng2_ap, Pf.rev_ap, Pf.kRev_t, Pf.kNew_ap, Pf.lc_ap, Pf.kLc_ap, Pf.yes_ap, Pf.bind_nm, Pf.bind_tp, Pf.bindL_nil, Pf.bindL_cons, Pf.kBL_ap, Pf.pat_ap, Pf.kPat_ap, Pf.aug_ap, Pf.kAugO_ap, Pf.kAug1_ap, Pf.iadd_ii, Pf.rng_len, Pf.isL_r, Pf.kIsL_some, Pf.ix_r, Pf.kIx_some, Pf.len_r, Pf.kLen_some, Pf.list_r, Pf.kList_some, Pf.tuple_r, Pf.kTuple_some, Pf.put_r, Pf.kPut_l, Pf.kPutO_some, Pf.append_r, Pf.kApp_l, Pf.pop0_r, Pf.kPop0_l, Pf.kIter_r, Pf.kRev_r, Pf.kIterO_some, Pf.id_ap, Pf.dat_r, Pf.kDatL_some, Pf.bind_tpr, Pf.kBindO_some, Pg.disp_ap, Pg.dictN_ap, Pg.zip_nil, Pg.zip_cons, Pg.dget_ap, Pg.kDg_d, Pg.look_if, Pg.is_bb, Pg.is_nn, Pg.is_in, Pg.is_sn, Pg.is_tn, Pg.is_rn, Pg.isnt_bb, Pg.isnt_nn, Pg.isnt_in, Pg.isnt_sn, Pg.isnt_tn, Pg.isnt_rn, Pg.fld_ap, Pg.kFld_ap, Pg.kFldO_i, Pg.meth_ap, Pg.kMeth_ap, Pg.kMethO_i, Pg.kMethA_ap, Pg.make_ap, Pg.sl_ap, Pg.kSl1_ap, Pg.kSl2_ap, Pg.kSl3_ap, Pg.pNo_ap, Pg.pYes_ap, Pg.kPart_ap, Pg.revL_ap, Pg.kRvL_ap, Pg.kRvO_some, String.reduceEq, Int.reduceEq, if_true, if_false, Nat.reduceEqDiff, decide_not, beq_self_eq_true, true_and, and_true, decide_true, decide_false, Int.reduceLT, Int.reduceLE, Int.reduceNeg, Int.reduceAdd, Int.reduceSub, Int.reduceMul, Int.reducePow, Nat.reduceAdd, Nat.reduceSub, Nat.reduceLT, Nat.reduceLeDiff, Int.reduceToNat, Bool.not_true, Bool.not_false]
      refine h _ _ hq2 fun arg got => ?_
      obtain ⟨i, rfl⟩ := Int.eq_ofNat_of_zero_le h5
      have : i < ss.length := by omega
      exact ⟨ss[i], .switch i _ (by simp [this])⟩
    · simp (implicitDefEqProofs := false) (disch := first | assumption | omega | (simp only [Pf.l_lenS, Pf.l_len0] <;> omega)) only [Pf.kOpt_some, Pf.look_ap, Pf.lkO_l, Pf.lkO_r, Pf.var_ap, Pf.c_ap, Pf.op_ap, Pf.op1_ap, Pf.op2_ap, Pf.tst_ap, Pf.kB_ap, Pf.asB_ap, Pf.kTo_some, Pf.tru_ap, Pf.kTru_ap, Pf.truB_bl, Pf.truB_non, Pf.truB_int, Pf.truB_tup, Pf.andV_ap, Pf.kAndV_ap, Pf.kAndB_t, Pf.kAndB_f, Pf.orV_ap, Pf.kOrV_ap, Pf.kOrB_t, Pf.kOrB_f, Pf.notV_ap, Pf.kNotV_ap, Pf.kNotB_ap, Pf.and_ap, Pf.kAnd_t, Pf.kAnd_f, Pf.or_ap, Pf.kOr_t, Pf.kOr_f, Pf.not_ap, Pf.kNot_ap, Pf.if_ap, Pf.kIf_t, Pf.kIf_f, Pf.un_ap, Pf.kUn_ap, Pf.neg_ap, Pf.chain_ap, Pf.kCh1_ap, Pf.kCh2_ap, Pf.kCh3_t, Pf.kCh3_f, Pf.maNil_ap, Pf.maCons_ap, Pf.kArg_ap, Pf.kArg2_ap, Pf.tup_ap, Pf.kTup_ap, Pf.lst_ap, Pf.kLst_ap, Pf.call_ap, Pf.kCall_ap, Pf.cb_ap, Pf.kCB_ap, Pf.isi_ap, Pf.kIsi_ap, Pf.kIsi2_some, Pf.tyN_int, Pf.tyN_bl, Pf.tyN_non, Pf.tyN_str, Pf.tyN_tup, Pf.tyB_ii, Pf.tyB_ib, Pf.tyB_bi, Pf.tyB_bb, Pf.tyB_tt, Pf.bm_ap, Pf.kBM_ap, Pf.kBM2_ap, Pf.msNil_ap, Pf.seq_ap, Pf.nx_mk, Pf.rt_mk, Pf.bk_mk, Pf.ct_mk, Pf.ret_ap, Pf.retN_ap, Pf.brk_ap, Pf.cont_ap, Pf.set_ap, Pf.kSet_ap, Pf.expr_ap, Pf.kDrop_ap, Pf.ifS_ap, Pf.kIfS_t, Pf.kIfS_f, Pf.sub_ap, Pf.kSub1_ap, Pf.kSub2_ap, Pf.kSub3_ap, Pf.defW_ap, Pf.add_ii, Pf.add_tt, Pf.sub_ii, Pf.mul_lt, Pf.mul_rt, Pf.mod_ii, Pf.fdiv_ii, Pf.lt_ii, Pf.le_ii, Pf.gt_ii, Pf.ge_ii, Pf.bId_ap, Pf.eq_ap, Pf.ne_ap, Pf.kEq_some, Pf.dat_int, Pf.dat_bl, Pf.dat_non, Pf.dat_str, Pf.dat_tup, Pf.eqv_ii, Pf.eqv_ss, Pf.eqv_bb, Pf.kO_some, Pf.ix_t, Pf.kL_some, Pf.at_0, Pf.at_1, Pf.at_2, Pf.at_3, Pf.at_4, Pf.at_5, Pf.len_t, Pf.list_t, Pf.list_f, Pf.tuple_t, Pf.int_i, Pf.int_b, Pf.l_set0, Pf.l_setS, Pf.l_get0, Pf.l_getS, Pf.l_len0, Pf.l_lenS, Pf.l_app0, Pf.l_appS, Pf.l_map0, Pf.l_mapS, Pf.l_len_map, Pf.l_rep0, Pf.l_repS, Pf.start_ap, Pf.wipe_nil, Pf.wipe_cons, Pf.supd_same, Pf.supd_ne, Pf.supd_supd, Pf.o_map_some, Pf.ixN_0, Pf.ixN_1, Pf.ixN_2, Pf.ixN_3, Pf.for_ap, Pf.kFor_ap, Pf.iter_ap, Pf.kIter_t, Pf.rng1_ap, Pf.kRng1_ap, Pf.rng2_ap, Pf.kRng2_ap, Pf.rev_ap, Pf.kRev_t, Pf.kNew_ap, Pf.lc_ap, Pf.kLc_ap, Pf.yes_ap, Pf.bind_nm, Pf.bind_tp, Pf.bindL_nil, Pf.bindL_cons, Pf.kBL_ap, Pf.pat_ap, Pf.kPat_ap, Pf.aug_ap, Pf.kAugO_ap, Pf.kAug1_ap, Pf.iadd_ii, Pf.rng_len, Pf.isL_r, Pf.kIsL_some, Pf.ix_r, Pf.kIx_some, Pf.len_r, Pf.kLen_some, Pf.list_r, Pf.kList_some, Pf.tuple_r, Pf.kTuple_some, Pf.put_r, Pf.kPut_l, Pf.kPutO_some, Pf.append_r, Pf.kApp_l, Pf.pop0_r, Pf.kPop0_l, Pf.kIter_r, Pf.kRev_r, Pf.kIterO_some, Pf.id_ap, Pf.dat_r, Pf.kDatL_some, Pf.bind_tpr, Pf.kBindO_some, Pg.disp_ap, Pg.dictN_ap, Pg.zip_nil, Pg.zip_cons, Pg.dget_ap, Pg.kDg_d, Pg.look_if, Pg.is_bb, Pg.is_nn, Pg.is_in, Pg.is_sn, Pg.is_tn, Pg.is_rn, Pg.isnt_bb, Pg.isnt_nn, Pg.isnt_in, Pg.isnt_sn, Pg.isnt_tn, Pg.isnt_rn, Pg.fld_ap, Pg.kFld_ap, Pg.kFldO_i, Pg.meth_ap, Pg.kMeth_ap, Pg.kMethO_i, Pg.kMethA_ap, Pg.make_ap, Pg.sl_ap, Pg.kSl1_ap, Pg.kSl2_ap, Pg.kSl3_ap, Pg.pNo_ap, Pg.pYes_ap, Pg.kPart_ap, Pg.revL_ap, Pg.kRvL_ap, Pg.kRvO_some, String.reduceEq, Int.reduceEq, if_true, if_false, Nat.reduceEqDiff, decide_not, beq_self_eq_true, true_and, and_true, decide_true, decide_false, Int.reduceLT, Int.reduceLE, Int.reduceNeg, Int.reduceAdd, Int.reduceSub, Int.reduceMul, Int.reducePow, Nat.reduceAdd, Nat.reduceSub, Nat.reduceLT, Nat.reduceLeDiff, Int.reduceToNat, Bool.not_true, Bool.not_false, e4]
      refine nx_spec hl hq1 (by omega) (by omega) fun i q2 hq2 h5 h6 => ?_
      simp (implicitDefEqProofs := false) (disch := first | assumption | omega | (simp only [Pf.l_lenS, Pf.l_len0] <;> omega)) only [Pf.kOpt_some, Pf.look_ap, Pf.lkO_l, Pf.lkO_r, Pf.var_ap, Pf.c_ap, Pf.op_ap, Pf.op1_ap, Pf.op2_ap, Pf.tst_ap, Pf.kB_ap, Pf.asB_ap, Pf.kTo_some, Pf.tru_ap, Pf.kTru_ap, Pf.truB_bl, Pf.truB_non, Pf.truB_int, Pf.truB_tup, Pf.andV_ap, Pf.kAndV_ap, Pf.kAndB_t, Pf.kAndB_f, Pf.orV_ap, Pf.kOrV_ap, Pf.kOrB_t, Pf.kOrB_f, Pf.notV_ap, Pf.kNotV_ap, Pf.kNotB_ap, Pf.and_ap, Pf.kAnd_t, Pf.kAnd_f, Pf.or_ap, Pf.kOr_t, Pf.kOr_f, Pf.not_ap, Pf.kNot_ap, Pf.if_ap, Pf.kIf_t, Pf.kIf_f, Pf.un_ap, Pf.kUn_ap, Pf.neg_ap, Pf.chain_ap, Pf.kCh1_ap, Pf.kCh2_ap, Pf.kCh3_t, Pf.kCh3_f, Pf.maNil_ap, Pf.maCons_ap, Pf.kArg_ap, Pf.kArg2_ap, Pf.tup_ap, Pf.kTup_ap, Pf.lst_ap, Pf.kLst_ap, Pf.call_ap, Pf.kCall_ap, Pf.cb_ap, Pf.kCB_ap, Pf.isi_ap, Pf.kIsi_ap, Pf.kIsi2_some, Pf.tyN_int, Pf.tyN_bl, Pf.tyN_non, Pf.tyN_str, Pf.tyN_tup, Pf.tyB_ii, Pf.tyB_ib, Pf.tyB_bi, Pf.tyB_bb, Pf.tyB_tt, Pf.bm_ap, Pf.kBM_ap, Pf.kBM2_ap, Pf.msNil_ap, Pf.seq_ap, Pf.nx_mk, Pf.rt_mk, Pf.bk_mk, Pf.ct_mk, Pf.ret_ap, Pf.retN_ap, Pf.brk_ap, Pf.cont_ap, Pf.set_ap, Pf.kSet_ap, Pf.expr_ap, Pf.kDrop_ap, Pf.ifS_ap, Pf.kIfS_t, Pf.kIfS_f, Pf.sub_ap, Pf.kSub1_ap, Pf.kSub2_ap, Pf.kSub3_ap, Pf.defW_ap, Pf.add_ii, Pf.add_tt, Pf.sub_ii, Pf.mul_lt, Pf.mul_rt, Pf.mod_ii, Pf.fdiv_ii, Pf.lt_ii, Pf.le_ii, Pf.gt_ii, Pf.ge_ii, Pf.bId_ap, Pf.eq_ap, Pf.ne_ap, Pf.kEq_some, Pf.dat_int, Pf.dat_bl, Pf.dat_non, Pf.dat_str, Pf.dat_tup, Pf.eqv_ii, Pf.eqv_ss, Pf.eqv_bb, Pf.kO_some, Pf.ix_t, Pf.kL_some, Pf.at_0, Pf.at_1, Pf.at_2, Pf.at_3, Pf.at_4, Pf.at_5, Pf.len_t, Pf.list_t, Pf.list_f, Pf.tuple_t, Pf.int_i, Pf.int_b, Pf.l_set0, Pf.l_setS, Pf.l_get0, Pf.l_getS, Pf.l_len0, Pf.l_lenS, Pf.l_app0, Pf.l_appS, Pf.l_map0, Pf.l_mapS, Pf.l_len_map, Pf.l_rep0, Pf.l_repS, Pf.start_ap, Pf.wipe_nil, Pf.wipe_cons, Pf.supd_same, Pf.supd_ne, Pf.supd_supd, Pf.o_map_some, Pf.ixN_0, Pf.ixN_1, Pf.ixN_2, Pf.ixN_3, Pf.for_ap, Pf.kFor_ap, Pf.iter_ap, Pf.kIter_t, Pf.rng1_ap, Pf.kRng1_ap, Pf.rng2_ap, Pf.kRng2_ap, Pf.rev_ap, Pf.kRev_t, Pf.kNew_ap, Pf.lc_ap, Pf.kLc_ap, Pf.yes_ap, Pf.bind_nm, Pf.bind_tp, Pf.bindL_nil, Pf.bindL_cons, Pf.kBL_ap, Pf.pat_ap, Pf.kPat_ap, Pf.aug_ap, Pf.kAugO_ap, Pf.kAug1_ap, Pf.iadd_ii, Pf.rng_len, Pf.isL_r, Pf.kIsL_some, Pf.ix_r, Pf.kIx_some, Pf.len_r, Pf.kLen_some, Pf.list_r, Pf.kList_some, Pf.tuple_r, Pf.kTuple_some, Pf.put_r, Pf.kPut_l, Pf.kPutO_some, Pf.append_r, Pf.kApp_l, Pf.pop0_r, Pf.kPop0_l, Pf.kIter_r, Pf.kRev_r, Pf.kIterO_some, Pf.id_ap, Pf.dat_r, Pf.kDatL_some, Pf.bind_tpr, Pf.kBindO_some, Pg.disp_ap, Pg.dictN_ap, Pg.zip_nil, Pg.zip_cons, Pg.dget_ap, Pg.kDg_d, Pg.look_if, Pg.is_bb, Pg.is_nn, Pg.is_in, Pg.is_sn, Pg.is_tn, Pg.is_rn, Pg.isnt_bb, Pg.isnt_nn, Pg.isnt_in, Pg.isnt_sn, Pg.isnt_tn, Pg.isnt_rn, Pg.fld_ap, Pg.kFld_ap, Pg.kFldO_i, Pg.meth_ap, Pg.kMeth_ap, Pg.kMethO_i, Pg.kMethA_ap, Pg.make_ap, Pg.sl_ap, Pg.kSl1_ap, Pg.kSl2_ap, Pg.kSl3_ap, Pg.pNo_ap, Pg.pYes_ap, Pg.kPart_ap, Pg.revL_ap, Pg.kRvL_ap, Pg.kRvO_some, String.reduceEq, Int.reduceEq, if_true, if_false, Nat.reduceEqDiff, decide_not, beq_self_eq_true, true_and, and_true, decide_true, decide_false, Int.reduceLT, Int.reduceLE, Int.reduceNeg, Int.reduceAdd, Int.reduceSub, Int.reduceMul, Int.reducePow, Nat.reduceAdd, Nat.reduceSub, Nat.reduceLT, Nat.reduceLeDiff, Int.reduceToNat, Bool.not_true, Bool.not_false]
      exact h _ _ hq2 fun arg got => ⟨_, .value _⟩
  · simp (implicitDefEqProofs := false) (disch := first | assumption | omega | (simp only [Pf.l_lenS, Pf.l_len0] <;> omega)) only [Pf.kOpt_some, Pf.look_ap, Pf.lkO_l, Pf.lkO_r, Pf.var_ap, Pf.c_ap, Pf.op_ap, Pf.op1_ap, Pf.op2_ap, Pf.tst_ap, Pf.kB_ap, Pf.asB_ap, Pf.kTo_some, Pf.tru_ap, Pf.kTru_ap, Pf.truB_bl, Pf.truB_non, Pf.truB_int, Pf.truB_tup, Pf.andV_ap, Pf.kAndV_ap, Pf.kAndB_t, Pf.kAndB_f, Pf.orV_ap, Pf.kOrV_ap, Pf.kOrB_t, Pf.kOrB_f, Pf.notV_ap, Pf.kNotV_ap, Pf.kNotB_ap, Pf.and_ap, Pf.kAnd_t, Pf.kAnd_f, Pf.or_ap, Pf.kOr_t, Pf.kOr_f, Pf.not_ap, Pf.kNot_ap, Pf.if_ap, Pf.kIf_t, Pf.kIf_f, Pf.un_ap, Pf.kUn_ap, Pf.neg_ap, Pf.chain_ap, Pf.kCh1_ap, Pf.kCh2_ap, Pf.kCh3_t, Pf.kCh3_f, Pf.maNil_ap, Pf.maCons_ap, Pf.kArg_ap, Pf.kArg2_ap, Pf.tup_ap, Pf.kTup_ap, Pf.lst_ap, Pf.kLst_ap, Pf.call_ap, Pf.kCall_ap, Pf.cb_ap, Pf.kCB_ap, Pf.isi_ap, Pf.kIsi_ap, Pf.kIsi2_some, Pf.tyN_int, Pf.tyN_bl, Pf.tyN_non, Pf.tyN_str, Pf.tyN_tup, Pf.tyB_ii, Pf.tyB_ib, Pf.tyB_bi, Pf.tyB_bb, Pf.tyB_tt, Pf.bm_ap, Pf.kBM_ap, Pf.kBM2_ap, Pf.msNil_ap, Pf.seq_ap, Pf.nx_mk, Pf.rt_mk, Pf.bk_mk, Pf.ct_mk, Pf.ret_ap, Pf.retN_ap, Pf.brk_ap, Pf.cont_ap, Pf.set_ap, Pf.kSet_ap, Pf.expr_ap, Pf.kDrop_ap, Pf.ifS_ap, Pf.kIfS_t, Pf.kIfS_f, Pf.sub_ap, Pf.kSub1_ap, Pf.kSub2_ap, Pf.kSub3_ap, Pf.defW_ap, Pf.add_ii, Pf.add_tt, Pf.sub_ii, Pf.mul_lt, Pf.mul_rt, Pf.mod_ii, Pf.fdiv_ii, Pf.lt_ii, Pf.le_ii, Pf.gt_ii, Pf.ge_ii, Pf.bId_ap, Pf.eq_ap, Pf.ne_ap, Pf.kEq_some, Pf.dat_int, Pf.dat_bl, Pf.dat_non, Pf.dat_str, Pf.dat_tup, Pf.eqv_ii, Pf.eqv_ss, Pf.eqv_bb, Pf.kO_some, Pf.ix_t, Pf.kL_some, Pf.at_0, Pf.at_1, Pf.at_2, Pf.at_3, Pf.at_4, Pf.at_5, Pf.len_t, Pf.list_t, Pf.list_f, Pf.tuple_t, Pf.int_i, Pf.int_b, Pf.l_set0, Pf.l_setS, Pf.l_get0, Pf.l_getS, Pf.l_len0, Pf.l_lenS, Pf.l_app0, Pf.l_appS, Pf.l_map0, Pf.l_mapS, Pf.l_len_map, Pf.l_rep0, Pf.l_repS, Pf.start_ap, Pf.wipe_nil, Pf.wipe_cons, Pf.supd_same, Pf.supd_ne, Pf.supd_supd, Pf.o_map_some, Pf.ixN_0, Pf.ixN_1, Pf.ixN_2, Pf.ixN_3, Pf.for_ap, Pf.kFor_ap, Pf.iter_ap, Pf.kIter_t, Pf.rng1_ap, Pf.kRng1_ap, Pf.rng2_ap, Pf.kRng2_ap, Pf.rev_ap, Pf.kRev_t, Pf.kNew_ap, Pf.lc_ap, Pf.kLc_ap, Pf.yes_ap, Pf.bind_nm, Pf.bind_tp, Pf.bindL_nil, Pf.bindL_cons, Pf.kBL_ap, Pf.pat_ap, Pf.kPat_ap, Pf.aug_ap, Pf.kAugO_ap, Pf.kAug1_ap, Pf.iadd_ii, Pf.rng_len, Pf.isL_r, Pf.kIsL_some, Pf.ix_r, Pf.kIx_some, Pf.len_r, Pf.kLen_some, Pf.list_r, Pf.kList_some, Pf.tuple_r, Pf.kTuple_some, Pf.put_r, Pf.kPut_l, Pf.kPutO_some, Pf.append_r, Pf.kApp_l, Pf.pop0_r, Pf.kPop0_l, Pf.kIter_r, Pf.kRev_r, Pf.kIterO_some, Pf.id_ap, Pf.dat_r, Pf.kDatL_some, Pf.bind_tpr, Pf.kBindO_some, Pg.disp_ap, Pg.dictN_ap, Pg.zip_nil, Pg.zip_cons, Pg.dget_ap, Pg.kDg_d, Pg.look_if, Pg.is_bb, Pg.is_nn, Pg.is_in, Pg.is_sn, Pg.is_tn, Pg.is_rn, Pg.isnt_bb, Pg.isnt_nn, Pg.isnt_in, Pg.isnt_sn, Pg.isnt_tn, Pg.isnt_rn, Pg.fld_ap, Pg.kFld_ap, Pg.kFldO_i, Pg.meth_ap, Pg.kMeth_ap, Pg.kMethO_i, Pg.kMethA_ap, Pg.make_ap, Pg.sl_ap, Pg.kSl1_ap, Pg.kSl2_ap, Pg.kSl3_ap, Pg.pNo_ap, Pg.pYes_ap, Pg.kPart_ap, Pg.revL_ap, Pg.kRvL_ap, Pg.kRvO_some, String.reduceEq, Int.reduceEq, if_true, if_false, Nat.reduceEqDiff, decide_not, beq_self_eq_true, true_and, and_true, decide_true, decide_false, Int.reduceLT, Int.reduceLE, Int.reduceNeg, Int.reduceAdd, Int.reduceSub, Int.reduceMul, Int.reducePow, Nat.reduceAdd, Nat.reduceSub, Nat.reduceLT, Nat.reduceLeDiff, Int.reduceToNat, Bool.not_true, Bool.not_false, e0, e1, e2, e3]
    refine nx_spec hl hq1 (by omega) (by omega) fun i q2 hq2 h5 h6 => ?_
    simp (implicitDefEqProofs := false) (disch := first | assumption | omega | (simp only [Pf.l_lenS, Pf.l_len0] <;> omega)) only [Pf.kOpt_some, Pf.look_ap, Pf.lkO_l, Pf.lkO_r, Pf.var_ap, Pf.c_ap, Pf.op_ap, Pf.op1_ap, Pf.op2_ap, Pf.tst_ap, Pf.kB_ap, Pf.asB_ap, Pf.kTo_some, Pf.tru_ap, Pf.kTru_ap, Pf.truB_bl, Pf.truB_non, Pf.truB_int, Pf.truB_tup, Pf.andV_ap, Pf.kAndV_ap, Pf.kAndB_t, Pf.kAndB_f, Pf.orV_ap, Pf.kOrV_ap, Pf.kOrB_t, Pf.kOrB_f, Pf.notV_ap, Pf.kNotV_ap, Pf.kNotB_ap, Pf.and_ap, Pf.kAnd_t, Pf.kAnd_f, Pf.or_ap, Pf.kOr_t, Pf.kOr_f, Pf.not_ap, Pf.kNot_ap, Pf.if_ap, Pf.kIf_t, Pf.kIf_f, Pf.un_ap, Pf.kUn_ap, Pf.neg_ap, Pf.chain_ap, Pf.kCh1_ap, Pf.kCh2_ap, Pf.kCh3_t, Pf.kCh3_f, Pf.maNil_ap, Pf.maCons_ap, Pf.kArg_ap, Pf.kArg2_ap, Pf.tup_ap, Pf.kTup_ap, Pf.lst_ap, Pf.kLst_ap, Pf.call_ap, Pf.kCall_ap, Pf.cb_ap, Pf.kCB_ap, Pf.isi_ap, Pf.kIsi_ap, Pf.kIsi2_some, Pf.tyN_int, Pf.tyN_bl, Pf.tyN_non, Pf.tyN_str, Pf.tyN_tup, Pf.tyB_ii, Pf.tyB_ib, Pf.tyB_bi, Pf.tyB_bb, Pf.tyB_tt, Pf.bm_ap, Pf.kBM_ap, Pf.kBM2_ap, Pf.msNil_ap, Pf.seq_ap, Pf.nx_mk, Pf.rt_mk, Pf.bk_mk, Pf.ct_mk, Pf.ret_ap, Pf.retN_ap, Pf.brk_ap, Pf.cont_ap, Pf.set_ap, Pf.kSet_ap, Pf.expr_ap, Pf.kDrop_ap, Pf.ifS_ap, Pf.kIfS_t, Pf.kIfS_f, Pf.sub_ap, Pf.kSub1_ap, Pf.kSub2_ap, Pf.kSub3_ap, Pf.defW_ap, Pf.add_ii, Pf.add_tt, Pf.sub_ii, Pf.mul_lt, Pf.mul_rt, Pf.mod_ii, Pf.fdiv_ii, Pf.lt_ii, Pf.le_ii, Pf.gt_ii, Pf.ge_ii, Pf.bId_ap, Pf.eq_ap, Pf.ne_ap, Pf.kEq_some, Pf.dat_int, Pf.dat_bl, Pf.dat_non, Pf.dat_str, Pf.dat_tup, Pf.eqv_ii, Pf.eqv_ss, Pf.eqv_bb, Pf.kO_some, Pf.ix_t, Pf.kL_some, Pf.at_0, Pf.at_1, Pf.at_2, Pf.at_3, Pf.at_4, Pf.at_5, Pf.len_t, Pf.list_t, Pf.list_f, Pf.tuple_t, Pf.int_i, Pf.int_b, Pf.l_set0, Pf.l_setS, Pf.l_get0, Pf.l_getS, Pf.l_len0, Pf.l_lenS, Pf.l_app0, Pf.l_appS, Pf.l_map0, Pf.l_mapS, Pf.l_len_map, Pf.l_rep0, Pf.l_repS, Pf.start_ap, Pf.wipe_nil, Pf.wipe_cons, Pf.supd_same, Pf.supd_ne, Pf.supd_supd, Pf.o_map_some, Pf.ixN_0, Pf.ixN_1, Pf.ixN_2, Pf.ixN_3, Pf.for_ap, Pf.kFor_ap, Pf.iter_ap, Pf.kIter_t, Pf.rng1_ap, Pf.kRng1_ap, Pf.rng2_ap, Pf.kRng2_ap, Pf.rev_ap, Pf.kRev_t, Pf.kNew_ap, Pf.lc_ap, Pf.kLc_ap, Pf.yes_ap, Pf.bind_nm, Pf.bind_tp, Pf.bindL_nil, Pf.bindL_cons, Pf.kBL_ap, Pf.pat_ap, Pf.kPat_ap, Pf.aug_ap, Pf.kAugO_ap, Pf.kAug1_ap, Pf.iadd_ii, Pf.rng_len, Pf.isL_r, Pf.kIsL_some, Pf.ix_r, Pf.kIx_some, Pf.len_r, Pf.kLen_some, Pf.list_r, Pf.kList_some, Pf.tuple_r, Pf.kTuple_some, Pf.put_r, Pf.kPut_l, Pf.kPutO_some, Pf.append_r, Pf.kApp_l, Pf.pop0_r, Pf.kPop0_l, Pf.kIter_r, Pf.kRev_r, Pf.kIterO_some, Pf.id_ap, Pf.dat_r, Pf.kDatL_some, Pf.bind_tpr, Pf.kBindO_some, Pg.disp_ap, Pg.dictN_ap, Pg.zip_nil, Pg.zip_cons, Pg.dget_ap, Pg.kDg_d, Pg.look_if, Pg.is_bb, Pg.is_nn, Pg.is_in, Pg.is_sn, Pg.is_tn, Pg.is_rn, Pg.isnt_bb, Pg.isnt_nn, Pg.isnt_in, Pg.isnt_sn, Pg.isnt_tn, Pg.isnt_rn, Pg.fld_ap, Pg.kFld_ap, Pg.kFldO_i, Pg.meth_ap, Pg.kMeth_ap, Pg.kMethO_i, Pg.kMethA_ap, Pg.make_ap, Pg.sl_ap, Pg.kSl1_ap, Pg.kSl2_ap, Pg.kSl3_ap, Pg.pNo_ap, Pg.pYes_ap, Pg.kPart_ap, Pg.revL_ap, Pg.kRvL_ap, Pg.kRvO_some, String.reduceEq, Int.reduceEq, if_true, if_false, Nat.reduceEqDiff, decide_not, beq_self_eq_true, true_and, and_true, decide_true, decide_false, Int.reduceLT, Int.reduceLE, Int.reduceNeg, Int.reduceAdd, Int.reduceSub, Int.reduceMul, Int.reducePow, Nat.reduceAdd, Nat.reduceSub, Nat.reduceLT, Nat.reduceLeDiff, Int.reduceToNat, Bool.not_true, Bool.not_false]
    exact h _ _ hq2 fun arg got => ⟨_, .value _⟩
theorem law (ns : List Int) : Rw.W_law [.frz (ns.map .int)] sto0 (fun v _ => v = .bl true) := by
  unfold Rw.W_law Rw.B_law
  simp (implicitDefEqProofs := false) (disch := first | assumption | omega | (simp only [Pf.l_lenS, Pf.l_len0] <;> omega)) only [Pf.kOpt_some, Pf.look_ap, Pf.lkO_l, Pf.lkO_r, Pf.var_ap, Pf.c_ap, Pf.op_ap, Pf.op1_ap, Pf.op2_ap, Pf.tst_ap, Pf.kB_ap, Pf.asB_ap, Pf.kTo_some, Pf.tru_ap, Pf.kTru_ap, Pf.truB_bl, Pf.truB_non, Pf.truB_int, Pf.truB_tup, Pf.andV_ap, Pf.kAndV_ap, Pf.kAndB_t, Pf.kAndB_f, Pf.orV_ap, Pf.kOrV_ap, Pf.kOrB_t, Pf.kOrB_f, Pf.notV_ap, Pf.kNotV_ap, Pf.kNotB_ap, Pf.and_ap, Pf.kAnd_t, Pf.kAnd_f, Pf.or_ap, Pf.kOr_t, Pf.kOr_f, Pf.not_ap, Pf.kNot_ap, Pf.if_ap, Pf.kIf_t, Pf.kIf_f, Pf.un_ap, Pf.kUn_ap, Pf.neg_ap, Pf.chain_ap, Pf.kCh1_ap, Pf.kCh2_ap, Pf.kCh3_t, Pf.kCh3_f, Pf.maNil_ap, Pf.maCons_ap, Pf.kArg_ap, Pf.kArg2_ap, Pf.tup_ap, Pf.kTup_ap, Pf.lst_ap, Pf.kLst_ap, Pf.call_ap, Pf.kCall_ap, Pf.cb_ap, Pf.kCB_ap, Pf.isi_ap, Pf.kIsi_ap, Pf.kIsi2_some, Pf.tyN_int, Pf.tyN_bl, Pf.tyN_non, Pf.tyN_str, Pf.tyN_tup, Pf.tyB_ii, Pf.tyB_ib, Pf.tyB_bi, Pf.tyB_bb, Pf.tyB_tt, Pf.bm_ap, Pf.kBM_ap, Pf.kBM2_ap, Pf.msNil_ap, Pf.seq_ap, Pf.nx_mk, Pf.rt_mk, Pf.bk_mk, Pf.ct_mk, Pf.ret_ap, Pf.retN_ap, Pf.brk_ap, Pf.cont_ap, Pf.set_ap, Pf.kSet_ap, Pf.expr_ap, Pf.kDrop_ap, Pf.ifS_ap, Pf.kIfS_t, Pf.kIfS_f, Pf.sub_ap, Pf.kSub1_ap, Pf.kSub2_ap, Pf.kSub3_ap, Pf.defW_ap, Pf.add_ii, Pf.add_tt, Pf.sub_ii, Pf.mul_lt, Pf.mul_rt, Pf.mod_ii, Pf.fdiv_ii, Pf.lt_ii, Pf.le_ii, Pf.gt_ii, Pf.ge_ii, Pf.bId_ap, Pf.eq_ap, Pf.ne_ap, Pf.kEq_some, Pf.dat_int, Pf.dat_bl, Pf.dat_non, Pf.dat_str, Pf.dat_tup, Pf.eqv_ii, Pf.eqv_ss, Pf.eqv_bb, Pf.kO_some, Pf.ix_t, Pf.kL_some, Pf.at_0, Pf.at_1, Pf.at_2, Pf.at_3, Pf.at_4, Pf.at_5, Pf.len_t, Pf.list_t, Pf.list_f, Pf.tuple_t, Pf.int_i, Pf.int_b, Pf.l_set0, Pf.l_setS, Pf.l_get0, Pf.l_getS, Pf.l_len0, Pf.l_lenS, Pf.l_app0, Pf.l_appS, Pf.l_map0, Pf.l_mapS, Pf.l_len_map, Pf.l_rep0, Pf.l_repS, Pf.start_ap, Pf.wipe_nil, Pf.wipe_cons, Pf.supd_same, Pf.supd_ne, Pf.supd_supd, Pf.o_map_some, Pf.ixN_0, Pf.ixN_1, Pf.ixN_2, Pf.ixN_3, Pf.for_ap, Pf.kFor_ap, Pf.iter_ap, Pf.kIter_t, Pf.rng1_ap, Pf.kRng1_ap, Pf.rng2_ap, Pf.kRng2_ap, Pf.rev_ap, Pf.kRev_t, Pf.kNew_ap, Pf.lc_ap, Pf.kLc_ap, Pf.yes_ap, Pf.bind_nm, Pf.bind_tp, Pf.bindL_nil, Pf.bindL_cons, Pf.kBL_ap, Pf.pat_ap, Pf.kPat_ap, Pf.aug_ap, Pf.kAugO_ap, Pf.kAug1_ap, Pf.iadd_ii, Pf.rng_len, Pf.isL_r, Pf.kIsL_some, Pf.ix_r, Pf.kIx_some, Pf.len_r, Pf.kLen_some, Pf.list_r, Pf.kList_some, Pf.tuple_r, Pf.kTuple_some, Pf.put_r, Pf.kPut_l, Pf.kPutO_some, Pf.append_r, Pf.kApp_l, Pf.pop0_r, Pf.kPop0_l, Pf.kIter_r, Pf.kRev_r, Pf.kIterO_some, Pf.id_ap, Pf.dat_r, Pf.kDatL_some, Pf.bind_tpr, Pf.kBindO_some, Pg.disp_ap, Pg.dictN_ap, Pg.zip_nil, Pg.zip_cons, Pg.dget_ap, Pg.kDg_d, Pg.look_if, Pg.is_bb, Pg.is_nn, Pg.is_in, Pg.is_sn, Pg.is_tn, Pg.is_rn, Pg.isnt_bb, Pg.isnt_nn, Pg.isnt_in, Pg.isnt_sn, Pg.isnt_tn, Pg.isnt_rn, Pg.fld_ap, Pg.kFld_ap, Pg.kFldO_i, Pg.meth_ap, Pg.kMeth_ap, Pg.kMethO_i, Pg.kMethA_ap, Pg.make_ap, Pg.sl_ap, Pg.kSl1_ap, Pg.kSl2_ap, Pg.kSl3_ap, Pg.pNo_ap, Pg.pYes_ap, Pg.kPart_ap, Pg.revL_ap, Pg.kRvL_ap, Pg.kRvO_some, String.reduceEq, Int.reduceEq, if_true, if_false, Nat.reduceEqDiff, decide_not, beq_self_eq_true, true_and, and_true, decide_true, decide_false, Int.reduceLT, Int.reduceLE, Int.reduceNeg, Int.reduceAdd, Int.reduceSub, Int.reduceMul, Int.reducePow, Nat.reduceAdd, Nat.reduceSub, Nat.reduceLT, Nat.reduceLeDiff, Int.reduceToNat, Bool.not_true, Bool.not_false]
  intro l hl0
  simp (implicitDefEqProofs := false) (disch := first | assumption | omega | (simp only [Pf.l_lenS, Pf.l_len0] <;> omega)) only [Pf.kOpt_some, Pf.look_ap, Pf.lkO_l, Pf.lkO_r, Pf.var_ap, Pf.c_ap, Pf.op_ap, Pf.op1_ap, Pf.op2_ap, Pf.tst_ap, Pf.kB_ap, Pf.asB_ap, Pf.kTo_some, Pf.tru_ap, Pf.kTru_ap, Pf.truB_bl, Pf.truB_non, Pf.truB_int, Pf.truB_tup, Pf.andV_ap, Pf.kAndV_ap, Pf.kAndB_t, Pf.kAndB_f, Pf.orV_ap, Pf.kOrV_ap, Pf.kOrB_t, Pf.kOrB_f, Pf.notV_ap, Pf.kNotV_ap, Pf.kNotB_ap, Pf.and_ap, Pf.kAnd_t, Pf.kAnd_f, Pf.or_ap, Pf.kOr_t, Pf.kOr_f, Pf.not_ap, Pf.kNot_ap, Pf.if_ap, Pf.kIf_t, Pf.kIf_f, Pf.un_ap, Pf.kUn_ap, Pf.neg_ap, Pf.chain_ap, Pf.kCh1_ap, Pf.kCh2_ap, Pf.kCh3_t, Pf.kCh3_f, Pf.maNil_ap, Pf.maCons_ap, Pf.kArg_ap, Pf.kArg2_ap, Pf.tup_ap, Pf.kTup_ap, Pf.lst_ap, Pf.kLst_ap, Pf.call_ap, Pf.kCall_ap, Pf.cb_ap, Pf.kCB_ap, Pf.isi_ap, Pf.kIsi_ap, Pf.kIsi2_some, Pf.tyN_int, Pf.tyN_bl, Pf.tyN_non, Pf.tyN_str, Pf.tyN_tup, Pf.tyB_ii, Pf.tyB_ib, Pf.tyB_bi, Pf.tyB_bb, Pf.tyB_tt, Pf.bm_ap, Pf.kBM_ap, Pf.kBM2_ap, Pf.msNil_ap, Pf.seq_ap, Pf.nx_mk, Pf.rt_mk, Pf.bk_mk, Pf.ct_mk, Pf.ret_ap, Pf.retN_ap, Pf.brk_ap, Pf.cont_ap, Pf.set_ap, Pf.kSet_ap, Pf.expr_ap, Pf.kDrop_ap, Pf.ifS_ap, Pf.kIfS_t, Pf.kIfS_f, Pf.sub_ap, Pf.kSub1_ap, Pf.kSub2_ap, Pf.kSub3_ap, Pf.defW_ap, Pf.add_ii, Pf.add_tt, Pf.sub_ii, Pf.mul_lt, Pf.mul_rt, Pf.mod_ii, Pf.fdiv_ii, Pf.lt_ii, Pf.le_ii, Pf.gt_ii, Pf.ge_ii, Pf.bId_ap, Pf.eq_ap, Pf.ne_ap, Pf.kEq_some, Pf.dat_int, Pf.dat_bl, Pf.dat_non, Pf.dat_str, Pf.dat_tup, Pf.eqv_ii, Pf.eqv_ss, Pf.eqv_bb, Pf.kO_some, Pf.ix_t, Pf.kL_some, Pf.at_0, Pf.at_1, Pf.at_2, Pf.at_3, Pf.at_4, Pf.at_5, Pf.len_t, Pf.list_t, Pf.list_f, Pf.tuple_t, Pf.int_i, Pf.int_b, Pf.l_set0, Pf.l_setS, Pf.l_get0, Pf.l_getS, Pf.l_len0, Pf.l_lenS, Pf.l_app0, Pf.l_appS, Pf.l_map0, Pf.l_mapS, Pf.l_len_map, Pf.l_rep0, Pf.l_repS, Pf.start_ap, Pf.wipe_nil, Pf.wipe_cons, Pf.supd_same, Pf.supd_ne, Pf.supd_supd, Pf.o_map_some, Pf.ixN_0, Pf.ixN_1, Pf.ixN_2, Pf.ixN_3, Pf.for_ap, Pf.kFor_ap, Pf.iter_ap, Pf.kIter_t, Pf.rng1_ap, Pf.kRng1_ap, Pf.rng2_ap, Pf.kRng2_ap, Pf.rev_ap, Pf.kRev_t, Pf.kNew_ap, Pf.lc_ap, Pf.kLc_ap, Pf.yes_ap, Pf.bind_nm, Pf.bind_tp, Pf.bindL_nil, Pf.bindL_cons, Pf.kBL_ap, Pf.pat_ap, Pf.kPat_ap, Pf.aug_ap, Pf.kAugO_ap, Pf.kAug1_ap, Pf.iadd_ii, Pf.rng_len, Pf.isL_r, Pf.kIsL_some, Pf.ix_r, Pf.kIx_some, Pf.len_r, Pf.kLen_some, Pf.list_r, Pf.kList_some, Pf.tuple_r, Pf.kTuple_some, Pf.put_r, Pf.kPut_l, Pf.kPutO_some, Pf.append_r, Pf.kApp_l, Pf.pop0_r, Pf.kPop0_l, Pf.kIter_r, Pf.kRev_r, Pf.kIterO_some, Pf.id_ap, Pf.dat_r, Pf.kDatL_some, Pf.bind_tpr, Pf.kBindO_some, Pg.disp_ap, Pg.dictN_ap, Pg.zip_nil, Pg.zip_cons, Pg.dget_ap, Pg.kDg_d, Pg.look_if, Pg.is_bb, Pg.is_nn, Pg.is_in, Pg.is_sn, Pg.is_tn, Pg.is_rn, Pg.isnt_bb, Pg.isnt_nn, Pg.isnt_in, Pg.isnt_sn, Pg.isnt_tn, Pg.isnt_rn, Pg.fld_ap, Pg.kFld_ap, Pg.kFldO_i, Pg.meth_ap, Pg.kMeth_ap, Pg.kMethO_i, Pg.kMethA_ap, Pg.make_ap, Pg.sl_ap, Pg.kSl1_ap, Pg.kSl2_ap, Pg.kSl3_ap, Pg.pNo_ap, Pg.pYes_ap, Pg.kPart_ap, Pg.revL_ap, Pg.kRvL_ap, Pg.kRvO_some, String.reduceEq, Int.reduceEq, if_true, if_false, Nat.reduceEqDiff, decide_not, beq_self_eq_true, true_and, and_true, decide_true, decide_false, Int.reduceLT, Int.reduceLE, Int.reduceNeg, Int.reduceAdd, Int.reduceSub, Int.reduceMul, Int.reducePow, Nat.reduceAdd, Nat.reduceSub, Nat.reduceLT, Nat.reduceLeDiff, Int.reduceToNat, Bool.not_true, Bool.not_false]
  intro st hst
  have hl : l ≠ st := fun e => by subst e; rw [Mv.supd_same] at hst; cases hst
  simp (implicitDefEqProofs := false) (disch := first | assumption | omega | (simp only [Pf.l_lenS, Pf.l_len0] <;> omega)) only [Pf.kOpt_some, Pf.look_ap, Pf.lkO_l, Pf.lkO_r, Pf.var_ap, Pf.c_ap, Pf.op_ap, Pf.op1_ap, Pf.op2_ap, Pf.tst_ap, Pf.kB_ap, Pf.asB_ap, Pf.kTo_some, Pf.tru_ap, Pf.kTru_ap, Pf.truB_bl, Pf.truB_non, Pf.truB_int, Pf.truB_tup, Pf.andV_ap, Pf.kAndV_ap, Pf.kAndB_t, Pf.kAndB_f, Pf.orV_ap, Pf.kOrV_ap, Pf.kOrB_t, Pf.kOrB_f, Pf.notV_ap, Pf.kNotV_ap, Pf.kNotB_ap, Pf.and_ap, Pf.kAnd_t, Pf.kAnd_f, Pf.or_ap, Pf.kOr_t, Pf.kOr_f, Pf.not_ap, Pf.kNot_ap, Pf.if_ap, Pf.kIf_t, Pf.kIf_f, Pf.un_ap, Pf.kUn_ap, Pf.neg_ap, Pf.chain_ap, Pf.kCh1_ap, Pf.kCh2_ap, Pf.kCh3_t, Pf.kCh3_f, Pf.maNil_ap, Pf.maCons_ap, Pf.kArg_ap, Pf.kArg2_ap, Pf.tup_ap, Pf.kTup_ap, Pf.lst_ap, Pf.kLst_ap, Pf.call_ap, Pf.kCall_ap, Pf.cb_ap, Pf.kCB_ap, Pf.isi_ap, Pf.kIsi_ap, Pf.kIsi2_some, Pf.tyN_int, Pf.tyN_bl, Pf.tyN_non, Pf.tyN_str, Pf.tyN_tup, Pf.tyB_ii, Pf.tyB_ib, Pf.tyB_bi, Pf.tyB_bb, Pf.tyB_tt, Pf.bm_ap, Pf.kBM_ap, Pf.kBM2_ap, Pf.msNil_ap, Pf.seq_ap, Pf.nx_mk, Pf.rt_mk, Pf.bk_mk, Pf.ct_mk, Pf.ret_ap, Pf.retN_ap, Pf.brk_ap, Pf.cont_ap, Pf.set_ap, Pf.kSet_ap, Pf.expr_ap, Pf.kDrop_ap, Pf.ifS_ap, Pf.kIfS_t, Pf.kIfS_f, Pf.sub_ap, Pf.kSub1_ap, Pf.kSub2_ap, Pf.kSub3_ap, Pf.defW_ap, Pf.add_ii, Pf.add_tt, Pf.sub_ii, Pf.mul_lt, Pf.mul_rt, Pf.mod_ii, Pf.fdiv_ii, Pf.lt_ii, Pf.le_ii, Pf.gt_ii, Pf.ge_ii, Pf.bId_ap, Pf.eq_ap, Pf.ne_ap, Pf.kEq_some, Pf.dat_int, Pf.dat_bl, Pf.dat_non, Pf.dat_str, Pf.dat_tup, Pf.eqv_ii, Pf.eqv_ss, Pf.eqv_bb, Pf.kO_some, Pf.ix_t, Pf.kL_some, Pf.at_0, Pf.at_1, Pf.at_2, Pf.at_3, Pf.at_4, Pf.at_5, Pf.len_t, Pf.list_t, Pf.list_f, Pf.tuple_t, Pf.int_i, Pf.int_b, Pf.l_set0, Pf.l_setS, Pf.l_get0, Pf.l_getS, Pf.l_len0, Pf.l_lenS, Pf.l_app0, Pf.l_appS, Pf.l_map0, Pf.l_mapS, Pf.l_len_map, Pf.l_rep0, Pf.l_repS, Pf.start_ap, Pf.wipe_nil, Pf.wipe_cons, Pf.supd_same, Pf.supd_ne, Pf.supd_supd, Pf.o_map_some, Pf.ixN_0, Pf.ixN_1, Pf.ixN_2, Pf.ixN_3, Pf.for_ap, Pf.kFor_ap, Pf.iter_ap, Pf.kIter_t, Pf.rng1_ap, Pf.kRng1_ap, Pf.rng2_ap, Pf.kRng2_ap, Pf.rev_ap, Pf.kRev_t, Pf.kNew_ap, Pf.lc_ap, Pf.kLc_ap, Pf.yes_ap, Pf.bind_nm, Pf.bind_tp, Pf.bindL_nil, Pf.bindL_cons, Pf.kBL_ap, Pf.pat_ap, Pf.kPat_ap, Pf.aug_ap, Pf.kAugO_ap, Pf.kAug1_ap, Pf.iadd_ii, Pf.rng_len, Pf.isL_r, Pf.kIsL_some, Pf.ix_r, Pf.kIx_some, Pf.len_r, Pf.kLen_some, Pf.list_r, Pf.kList_some, Pf.tuple_r, Pf.kTuple_some, Pf.put_r, Pf.kPut_l, Pf.kPutO_some, Pf.append_r, Pf.kApp_l, Pf.pop0_r, Pf.kPop0_l, Pf.kIter_r, Pf.kRev_r, Pf.kIterO_some, Pf.id_ap, Pf.dat_r, Pf.kDatL_some, Pf.bind_tpr, Pf.kBindO_some, Pg.disp_ap, Pg.dictN_ap, Pg.zip_nil, Pg.zip_cons, Pg.dget_ap, Pg.kDg_d, Pg.look_if, Pg.is_bb, Pg.is_nn, Pg.is_in, Pg.is_sn, Pg.is_tn, Pg.is_rn, Pg.isnt_bb, Pg.isnt_nn, Pg.isnt_in, Pg.isnt_sn, Pg.isnt_tn, Pg.isnt_rn, Pg.fld_ap, Pg.kFld_ap, Pg.kFldO_i, Pg.meth_ap, Pg.kMeth_ap, Pg.kMethO_i, Pg.kMethA_ap, Pg.make_ap, Pg.sl_ap, Pg.kSl1_ap, Pg.kSl2_ap, Pg.kSl3_ap, Pg.pNo_ap, Pg.pYes_ap, Pg.kPart_ap, Pg.revL_ap, Pg.kRvL_ap, Pg.kRvO_some, String.reduceEq, Int.reduceEq, if_true, if_false, Nat.reduceEqDiff, decide_not, beq_self_eq_true, true_and, and_true, decide_true, decide_false, Int.reduceLT, Int.reduceLE, Int.reduceNeg, Int.reduceAdd, Int.reduceSub, Int.reduceMul, Int.reducePow, Nat.reduceAdd, Nat.reduceSub, Nat.reduceLT, Nat.reduceLeDiff, Int.reduceToNat, Bool.not_true, Bool.not_false, G_start hl]
  refine nx_spec hl GS.ok0 (by omega) (by omega) fun v q1 hq1 h0 h1 => ?_
  simp (implicitDefEqProofs := false) (disch := first | assumption | omega | (simp only [Pf.l_lenS, Pf.l_len0] <;> omega)) only [Pf.kOpt_some, Pf.look_ap, Pf.lkO_l, Pf.lkO_r, Pf.var_ap, Pf.c_ap, Pf.op_ap, Pf.op1_ap, Pf.op2_ap, Pf.tst_ap, Pf.kB_ap, Pf.asB_ap, Pf.kTo_some, Pf.tru_ap, Pf.kTru_ap, Pf.truB_bl, Pf.truB_non, Pf.truB_int, Pf.truB_tup, Pf.andV_ap, Pf.kAndV_ap, Pf.kAndB_t, Pf.kAndB_f, Pf.orV_ap, Pf.kOrV_ap, Pf.kOrB_t, Pf.kOrB_f, Pf.notV_ap, Pf.kNotV_ap, Pf.kNotB_ap, Pf.and_ap, Pf.kAnd_t, Pf.kAnd_f, Pf.or_ap, Pf.kOr_t, Pf.kOr_f, Pf.not_ap, Pf.kNot_ap, Pf.if_ap, Pf.kIf_t, Pf.kIf_f, Pf.un_ap, Pf.kUn_ap, Pf.neg_ap, Pf.chain_ap, Pf.kCh1_ap, Pf.kCh2_ap, Pf.kCh3_t, Pf.kCh3_f, Pf.maNil_ap, Pf.maCons_ap, Pf.kArg_ap, Pf.kArg2_ap, Pf.tup_ap, Pf.kTup_ap, Pf.lst_ap, Pf.kLst_ap, Pf.call_ap, Pf.kCall_ap, Pf.cb_ap, Pf.kCB_ap, Pf.isi_ap, Pf.kIsi_ap, Pf.kIsi2_some, Pf.tyN_int, Pf.tyN_bl, Pf.tyN_non, Pf.tyN_str, Pf.tyN_tup, Pf.tyB_ii, Pf.tyB_ib, Pf.tyB_bi, Pf.tyB_bb, Pf.tyB_tt, Pf.bm_ap, Pf.kBM_ap, Pf.kBM2_ap, Pf.msNil_ap, Pf.seq_ap, Pf.nx_mk, Pf.rt_mk, Pf.bk_mk, Pf.ct_mk, Pf.ret_ap, Pf.retN_ap, Pf.brk_ap, Pf.cont_ap, Pf.set_ap, Pf.kSet_ap, Pf.expr_ap, Pf.kDrop_ap, Pf.ifS_ap, Pf.kIfS_t, Pf.kIfS_f, Pf.sub_ap, Pf.kSub1_ap, Pf.kSub2_ap, Pf.kSub3_ap, Pf.defW_ap, Pf.add_ii, Pf.add_tt, Pf.sub_ii, Pf.mul_lt, Pf.mul_rt, Pf.mod_ii, Pf.fdiv_ii, Pf.lt_ii, Pf.le_ii, Pf.gt_ii, Pf.ge_ii, Pf.bId_ap, Pf.eq_ap, Pf.ne_ap, Pf.kEq_some, Pf.dat_int, Pf.dat_bl, Pf.dat_non, Pf.dat_str, Pf.dat_tup, Pf.eqv_ii, Pf.eqv_ss, Pf.eqv_bb, Pf.kO_some, Pf.ix_t, Pf.kL_some, Pf.at_0, Pf.at_1, Pf.at_2, Pf.at_3, Pf.at_4, Pf.at_5, Pf.len_t, Pf.list_t, Pf.list_f, Pf.tuple_t, Pf.int_i, Pf.int_b, Pf.l_set0, Pf.l_setS, Pf.l_get0, Pf.l_getS, Pf.l_len0, Pf.l_lenS, Pf.l_app0, Pf.l_appS, Pf.l_map0, Pf.l_mapS, Pf.l_len_map, Pf.l_rep0, Pf.l_repS, Pf.start_ap, Pf.wipe_nil, Pf.wipe_cons, Pf.supd_same, Pf.supd_ne, Pf.supd_supd, Pf.o_map_some, Pf.ixN_0, Pf.ixN_1, Pf.ixN_2, Pf.ixN_3, Pf.for_ap, Pf.kFor_ap, Pf.iter_ap, Pf.kIter_t, Pf.rng1_ap, Pf.kRng1_ap, Pf.rng2_ap, Pf.kRng2_ap, Pf.rev_ap, Pf.kRev_t, Pf.kNew_ap, Pf.lc_ap, Pf.kLc_ap, Pf.yes_ap, Pf.bind_nm, Pf.bind_tp, Pf.bindL_nil, Pf.bindL_cons, Pf.kBL_ap, Pf.pat_ap, Pf.kPat_ap, Pf.aug_ap, Pf.kAugO_ap, Pf.kAug1_ap, Pf.iadd_ii, Pf.rng_len, Pf.isL_r, Pf.kIsL_some, Pf.ix_r, Pf.kIx_some, Pf.len_r, Pf.kLen_some, Pf.list_r, Pf.kList_some, Pf.tuple_r, Pf.kTuple_some, Pf.put_r, Pf.kPut_l, Pf.kPutO_some, Pf.append_r, Pf.kApp_l, Pf.pop0_r, Pf.kPop0_l, Pf.kIter_r, Pf.kRev_r, Pf.kIterO_some, Pf.id_ap, Pf.dat_r, Pf.kDatL_some, Pf.bind_tpr, Pf.kBindO_some, Pg.disp_ap, Pg.dictN_ap, Pg.zip_nil, Pg.zip_cons, Pg.dget_ap, Pg.kDg_d, Pg.look_if, Pg.is_bb, Pg.is_nn, Pg.is_in, Pg.is_sn, Pg.is_tn, Pg.is_rn, Pg.isnt_bb, Pg.isnt_nn, Pg.isnt_in, Pg.isnt_sn, Pg.isnt_tn, Pg.isnt_rn, Pg.fld_ap, Pg.kFld_ap, Pg.kFldO_i, Pg.meth_ap, Pg.kMeth_ap, Pg.kMethO_i, Pg.kMethA_ap, Pg.make_ap, Pg.sl_ap, Pg.kSl1_ap, Pg.kSl2_ap, Pg.kSl3_ap, Pg.pNo_ap, Pg.pYes_ap, Pg.kPart_ap, Pg.revL_ap, Pg.kRvL_ap, Pg.kRvO_some, String.reduceEq, Int.reduceEq, if_true, if_false, Nat.reduceEqDiff, decide_not, beq_self_eq_true, true_and, and_true, decide_true, decide_false, Int.reduceLT, Int.reduceLE, Int.reduceNeg, Int.reduceAdd, Int.reduceSub, Int.reduceMul, Int.reducePow, Nat.reduceAdd, Nat.reduceSub, Nat.reduceLT, Nat.reduceLeDiff, Int.reduceToNat, Bool.not_true, Bool.not_false]
  refine for_rule (I := fun i ρ S => ∃ S0 q x0 x2 x3 x4 x5 x6 x7 x8 x9 x10 x11 x12, ρ = [x0, some (.ref st), x2, x3, x4, x5, x6, x7, x8, x9, x10, x11, x12] ∧ S = G st l S0 q ∧ q.ok) (fun _ _ _ _ => keep_nil) ?step ?done ?init
  case init => exact ⟨_, _, _, _, _, _, _, _, _, _, _, _, _, _, rfl, rfl, hq1⟩
  case done =>
    rintro ρ S ⟨S0, q, x0, x2, x3, x4, x5, x6, x7, x8, x9, x10, x11, x12, rfl, rfl, hq⟩
    simp (implicitDefEqProofs := false) (disch := first | assumption | omega | (simp only [Pf.l_lenS, Pf.l_len0] <;> omega)) only [Pf.kOpt_some, Pf.look_ap, Pf.lkO_l, Pf.lkO_r, Pf.var_ap, Pf.c_ap, Pf.op_ap, Pf.op1_ap, Pf.op2_ap, Pf.tst_ap, Pf.kB_ap, Pf.asB_ap, Pf.kTo_some, Pf.tru_ap, Pf.kTru_ap, Pf.truB_bl, Pf.truB_non, Pf.truB_int, Pf.truB_tup, Pf.andV_ap, Pf.kAndV_ap, Pf.kAndB_t, Pf.kAndB_f, Pf.orV_ap, Pf.kOrV_ap, Pf.kOrB_t, Pf.kOrB_f, Pf.notV_ap, Pf.kNotV_ap, Pf.kNotB_ap, Pf.and_ap, Pf.kAnd_t, Pf.kAnd_f, Pf.or_ap, Pf.kOr_t, Pf.kOr_f, Pf.not_ap, Pf.kNot_ap, Pf.if_ap, Pf.kIf_t, Pf.kIf_f, Pf.un_ap, Pf.kUn_ap, Pf.neg_ap, Pf.chain_ap, Pf.kCh1_ap, Pf.kCh2_ap, Pf.kCh3_t, Pf.kCh3_f, Pf.maNil_ap, Pf.maCons_ap, Pf.kArg_ap, Pf.kArg2_ap, Pf.tup_ap, Pf.kTup_ap, Pf.lst_ap, Pf.kLst_ap, Pf.call_ap, Pf.kCall_ap, Pf.cb_ap, Pf.kCB_ap, Pf.isi_ap, Pf.kIsi_ap, Pf.kIsi2_some, Pf.tyN_int, Pf.tyN_bl, Pf.tyN_non, Pf.tyN_str, Pf.tyN_tup, Pf.tyB_ii, Pf.tyB_ib, Pf.tyB_bi, Pf.tyB_bb, Pf.tyB_tt, Pf.bm_ap, Pf.kBM_ap, Pf.kBM2_ap, Pf.msNil_ap, Pf.seq_ap, Pf.nx_mk, Pf.rt_mk, Pf.bk_mk, Pf.ct_mk, Pf.ret_ap, Pf.retN_ap, Pf.brk_ap, Pf.cont_ap, Pf.set_ap, Pf.kSet_ap, Pf.expr_ap, Pf.kDrop_ap, Pf.ifS_ap, Pf.kIfS_t, Pf.kIfS_f, Pf.sub_ap, Pf.kSub1_ap, Pf.kSub2_ap, Pf.kSub3_ap, Pf.defW_ap, Pf.add_ii, Pf.add_tt, Pf.sub_ii, Pf.mul_lt, Pf.mul_rt, Pf.mod_ii, Pf.fdiv_ii, Pf.lt_ii, Pf.le_ii, Pf.gt_ii, Pf.ge_ii, Pf.bId_ap, Pf.eq_ap, Pf.ne_ap, Pf.kEq_some, Pf.dat_int, Pf.dat_bl, Pf.dat_non, Pf.dat_str, Pf.dat_tup, Pf.eqv_ii, Pf.eqv_ss, Pf.eqv_bb, Pf.kO_some, Pf.ix_t, Pf.kL_some, Pf.at_0, Pf.at_1, Pf.at_2, Pf.at_3, Pf.at_4, Pf.at_5, Pf.len_t, Pf.list_t, Pf.list_f, Pf.tuple_t, Pf.int_i, Pf.int_b, Pf.l_set0, Pf.l_setS, Pf.l_get0, Pf.l_getS, Pf.l_len0, Pf.l_lenS, Pf.l_app0, Pf.l_appS, Pf.l_map0, Pf.l_mapS, Pf.l_len_map, Pf.l_rep0, Pf.l_repS, Pf.start_ap, Pf.wipe_nil, Pf.wipe_cons, Pf.supd_same, Pf.supd_ne, Pf.supd_supd, Pf.o_map_some, Pf.ixN_0, Pf.ixN_1, Pf.ixN_2, Pf.ixN_3, Pf.for_ap, Pf.kFor_ap, Pf.iter_ap, Pf.kIter_t, Pf.rng1_ap, Pf.kRng1_ap, Pf.rng2_ap, Pf.kRng2_ap, Pf.rev_ap, Pf.kRev_t, Pf.kNew_ap, Pf.lc_ap, Pf.kLc_ap, Pf.yes_ap, Pf.bind_nm, Pf.bind_tp, Pf.bindL_nil, Pf.bindL_cons, Pf.kBL_ap, Pf.pat_ap, Pf.kPat_ap, Pf.aug_ap, Pf.kAugO_ap, Pf.kAug1_ap, Pf.iadd_ii, Pf.rng_len, Pf.isL_r, Pf.kIsL_some, Pf.ix_r, Pf.kIx_some, Pf.len_r, Pf.kLen_some, Pf.list_r, Pf.kList_some, Pf.tuple_r, Pf.kTuple_some, Pf.put_r, Pf.kPut_l, Pf.kPutO_some, Pf.append_r, Pf.kApp_l, Pf.pop0_r, Pf.kPop0_l, Pf.kIter_r, Pf.kRev_r, Pf.kIterO_some, Pf.id_ap, Pf.dat_r, Pf.kDatL_some, Pf.bind_tpr, Pf.kBindO_some, Pg.disp_ap, Pg.dictN_ap, Pg.zip_nil, Pg.zip_cons, Pg.dget_ap, Pg.kDg_d, Pg.look_if, Pg.is_bb, Pg.is_nn, Pg.is_in, Pg.is_sn, Pg.is_tn, Pg.is_rn, Pg.isnt_bb, Pg.isnt_nn, Pg.isnt_in, Pg.isnt_sn, Pg.isnt_tn, Pg.isnt_rn, Pg.fld_ap, Pg.kFld_ap, Pg.kFldO_i, Pg.meth_ap, Pg.kMeth_ap, Pg.kMethO_i, Pg.kMethA_ap, Pg.make_ap, Pg.sl_ap, Pg.kSl1_ap, Pg.kSl2_ap, Pg.kSl3_ap, Pg.pNo_ap, Pg.pYes_ap, Pg.kPart_ap, Pg.revL_ap, Pg.kRvL_ap, Pg.kRvO_some, String.reduceEq, Int.reduceEq, if_true, if_false, Nat.reduceEqDiff, decide_not, beq_self_eq_true, true_and, and_true, decide_true, decide_false, Int.reduceLT, Int.reduceLE, Int.reduceNeg, Int.reduceAdd, Int.reduceSub, Int.reduceMul, Int.reducePow, Nat.reduceAdd, Nat.reduceSub, Nat.reduceLT, Nat.reduceLeDiff, Int.reduceToNat, Bool.not_true, Bool.not_false]
  case step =>
    rintro i v ρ S D' hv ⟨S0, q, x0, x2, x3, x4, x5, x6, x7, x8, x9, x10, x11, x12, rfl, rfl, hq⟩ hnx _ _ _
    simp (implicitDefEqProofs := false) (disch := first | assumption | omega | (simp only [Pf.l_lenS, Pf.l_len0] <;> omega)) only [Pf.kOpt_some, Pf.look_ap, Pf.lkO_l, Pf.lkO_r, Pf.var_ap, Pf.c_ap, Pf.op_ap, Pf.op1_ap, Pf.op2_ap, Pf.tst_ap, Pf.kB_ap, Pf.asB_ap, Pf.kTo_some, Pf.tru_ap, Pf.kTru_ap, Pf.truB_bl, Pf.truB_non, Pf.truB_int, Pf.truB_tup, Pf.andV_ap, Pf.kAndV_ap, Pf.kAndB_t, Pf.kAndB_f, Pf.orV_ap, Pf.kOrV_ap, Pf.kOrB_t, Pf.kOrB_f, Pf.notV_ap, Pf.kNotV_ap, Pf.kNotB_ap, Pf.and_ap, Pf.kAnd_t, Pf.kAnd_f, Pf.or_ap, Pf.kOr_t, Pf.kOr_f, Pf.not_ap, Pf.kNot_ap, Pf.if_ap, Pf.kIf_t, Pf.kIf_f, Pf.un_ap, Pf.kUn_ap, Pf.neg_ap, Pf.chain_ap, Pf.kCh1_ap, Pf.kCh2_ap, Pf.kCh3_t, Pf.kCh3_f, Pf.maNil_ap, Pf.maCons_ap, Pf.kArg_ap, Pf.kArg2_ap, Pf.tup_ap, Pf.kTup_ap, Pf.lst_ap, Pf.kLst_ap, Pf.call_ap, Pf.kCall_ap, Pf.cb_ap, Pf.kCB_ap, Pf.isi_ap, Pf.kIsi_ap, Pf.kIsi2_some, Pf.tyN_int, Pf.tyN_bl, Pf.tyN_non, Pf.tyN_str, Pf.tyN_tup, Pf.tyB_ii, Pf.tyB_ib, Pf.tyB_bi, Pf.tyB_bb, Pf.tyB_tt, Pf.bm_ap, Pf.kBM_ap, Pf.kBM2_ap, Pf.msNil_ap, Pf.seq_ap, Pf.nx_mk, Pf.rt_mk, Pf.bk_mk, Pf.ct_mk, Pf.ret_ap, Pf.retN_ap, Pf.brk_ap, Pf.cont_ap, Pf.set_ap, Pf.kSet_ap, Pf.expr_ap, Pf.kDrop_ap, Pf.ifS_ap, Pf.kIfS_t, Pf.kIfS_f, Pf.sub_ap, Pf.kSub1_ap, Pf.kSub2_ap, Pf.kSub3_ap, Pf.defW_ap, Pf.add_ii, Pf.add_tt, Pf.sub_ii, Pf.mul_lt, Pf.mul_rt, Pf.mod_ii, Pf.fdiv_ii, Pf.lt_ii, Pf.le_ii, Pf.gt_ii, Pf.ge_ii, Pf.bId_ap, Pf.eq_ap, Pf.ne_ap, Pf.kEq_some, Pf.dat_int, Pf.dat_bl, Pf.dat_non, Pf.dat_str, Pf.dat_tup, Pf.eqv_ii, Pf.eqv_ss, Pf.eqv_bb, Pf.kO_some, Pf.ix_t, Pf.kL_some, Pf.at_0, Pf.at_1, Pf.at_2, Pf.at_3, Pf.at_4, Pf.at_5, Pf.len_t, Pf.list_t, Pf.list_f, Pf.tuple_t, Pf.int_i, Pf.int_b, Pf.l_set0, Pf.l_setS, Pf.l_get0, Pf.l_getS, Pf.l_len0, Pf.l_lenS, Pf.l_app0, Pf.l_appS, Pf.l_map0, Pf.l_mapS, Pf.l_len_map, Pf.l_rep0, Pf.l_repS, Pf.start_ap, Pf.wipe_nil, Pf.wipe_cons, Pf.supd_same, Pf.supd_ne, Pf.supd_supd, Pf.o_map_some, Pf.ixN_0, Pf.ixN_1, Pf.ixN_2, Pf.ixN_3, Pf.for_ap, Pf.kFor_ap, Pf.iter_ap, Pf.kIter_t, Pf.rng1_ap, Pf.kRng1_ap, Pf.rng2_ap, Pf.kRng2_ap, Pf.rev_ap, Pf.kRev_t, Pf.kNew_ap, Pf.lc_ap, Pf.kLc_ap, Pf.yes_ap, Pf.bind_nm, Pf.bind_tp, Pf.bindL_nil, Pf.bindL_cons, Pf.kBL_ap, Pf.pat_ap, Pf.kPat_ap, Pf.aug_ap, Pf.kAugO_ap, Pf.kAug1_ap, Pf.iadd_ii, Pf.rng_len, Pf.isL_r, Pf.kIsL_some, Pf.ix_r, Pf.kIx_some, Pf.len_r, Pf.kLen_some, Pf.list_r, Pf.kList_some, Pf.tuple_r, Pf.kTuple_some, Pf.put_r, Pf.kPut_l, Pf.kPutO_some, Pf.append_r, Pf.kApp_l, Pf.pop0_r, Pf.kPop0_l, Pf.kIter_r, Pf.kRev_r, Pf.kIterO_some, Pf.id_ap, Pf.dat_r, Pf.kDatL_some, Pf.bind_tpr, Pf.kBindO_some, Pg.disp_ap, Pg.dictN_ap, Pg.zip_nil, Pg.zip_cons, Pg.dget_ap, Pg.kDg_d, Pg.look_if, Pg.is_bb, Pg.is_nn, Pg.is_in, Pg.is_sn, Pg.is_tn, Pg.is_rn, Pg.isnt_bb, Pg.isnt_nn, Pg.isnt_in, Pg.isnt_sn, Pg.isnt_tn, Pg.isnt_rn, Pg.fld_ap, Pg.kFld_ap, Pg.kFldO_i, Pg.meth_ap, Pg.kMeth_ap, Pg.kMethO_i, Pg.kMethA_ap, Pg.make_ap, Pg.sl_ap, Pg.kSl1_ap, Pg.kSl2_ap, Pg.kSl3_ap, Pg.pNo_ap, Pg.pYes_ap, Pg.kPart_ap, Pg.revL_ap, Pg.kRvL_ap, Pg.kRvO_some, String.reduceEq, Int.reduceEq, if_true, if_false, Nat.reduceEqDiff, decide_not, beq_self_eq_true, true_and, and_true, decide_true, decide_false, Int.reduceLT, Int.reduceLE, Int.reduceNeg, Int.reduceAdd, Int.reduceSub, Int.reduceMul, Int.reducePow, Nat.reduceAdd, Nat.reduceSub, Nat.reduceLT, Nat.reduceLeDiff, Int.reduceToNat, Bool.not_true, Bool.not_false]
    refine nx_spec hl hq (by omega) (by omega) fun v2 q2 hq2 h2 h3 => ?_
    simp (implicitDefEqProofs := false) (disch := first | assumption | omega | (simp only [Pf.l_lenS, Pf.l_len0] <;> omega)) only [Pf.kOpt_some, Pf.look_ap, Pf.lkO_l, Pf.lkO_r, Pf.var_ap, Pf.c_ap, Pf.op_ap, Pf.op1_ap, Pf.op2_ap, Pf.tst_ap, Pf.kB_ap, Pf.asB_ap, Pf.kTo_some, Pf.tru_ap, Pf.kTru_ap, Pf.truB_bl, Pf.truB_non, Pf.truB_int, Pf.truB_tup, Pf.andV_ap, Pf.kAndV_ap, Pf.kAndB_t, Pf.kAndB_f, Pf.orV_ap, Pf.kOrV_ap, Pf.kOrB_t, Pf.kOrB_f, Pf.notV_ap, Pf.kNotV_ap, Pf.kNotB_ap, Pf.and_ap, Pf.kAnd_t, Pf.kAnd_f, Pf.or_ap, Pf.kOr_t, Pf.kOr_f, Pf.not_ap, Pf.kNot_ap, Pf.if_ap, Pf.kIf_t, Pf.kIf_f, Pf.un_ap, Pf.kUn_ap, Pf.neg_ap, Pf.chain_ap, Pf.kCh1_ap, Pf.kCh2_ap, Pf.kCh3_t, Pf.kCh3_f, Pf.maNil_ap, Pf.maCons_ap, Pf.kArg_ap, Pf.kArg2_ap, Pf.tup_ap, Pf.kTup_ap, Pf.lst_ap, Pf.kLst_ap, Pf.call_ap, Pf.kCall_ap, Pf.cb_ap, Pf.kCB_ap, Pf.isi_ap, Pf.kIsi_ap, Pf.kIsi2_some, Pf.tyN_int, Pf.tyN_bl, Pf.tyN_non, Pf.tyN_str, Pf.tyN_tup, Pf.tyB_ii, Pf.tyB_ib, Pf.tyB_bi, Pf.tyB_bb, Pf.tyB_tt, Pf.bm_ap, Pf.kBM_ap, Pf.kBM2_ap, Pf.msNil_ap, Pf.seq_ap, Pf.nx_mk, Pf.rt_mk, Pf.bk_mk, Pf.ct_mk, Pf.ret_ap, Pf.retN_ap, Pf.brk_ap, Pf.cont_ap, Pf.set_ap, Pf.kSet_ap, Pf.expr_ap, Pf.kDrop_ap, Pf.ifS_ap, Pf.kIfS_t, Pf.kIfS_f, Pf.sub_ap, Pf.kSub1_ap, Pf.kSub2_ap, Pf.kSub3_ap, Pf.defW_ap, Pf.add_ii, Pf.add_tt, Pf.sub_ii, Pf.mul_lt, Pf.mul_rt, Pf.mod_ii, Pf.fdiv_ii, Pf.lt_ii, Pf.le_ii, Pf.gt_ii, Pf.ge_ii, Pf.bId_ap, Pf.eq_ap, Pf.ne_ap, Pf.kEq_some, Pf.dat_int, Pf.dat_bl, Pf.dat_non, Pf.dat_str, Pf.dat_tup, Pf.eqv_ii, Pf.eqv_ss, Pf.eqv_bb, Pf.kO_some, Pf.ix_t, Pf.kL_some, Pf.at_0, Pf.at_1, Pf.at_2, Pf.at_3, Pf.at_4, Pf.at_5, Pf.len_t, Pf.list_t, Pf.list_f, Pf.tuple_t, Pf.int_i, Pf.int_b, Pf.l_set0, Pf.l_setS, Pf.l_get0, Pf.l_getS, Pf.l_len0, Pf.l_lenS, Pf.l_app0, Pf.l_appS, Pf.l_map0, Pf.l_mapS, Pf.l_len_map, Pf.l_rep0, Pf.l_repS, Pf.start_ap, Pf.wipe_nil, Pf.wipe_cons, Pf.supd_same, Pf.supd_ne, Pf.supd_supd, Pf.o_map_some, Pf.ixN_0, Pf.ixN_1, Pf.ixN_2, Pf.ixN_3, Pf.for_ap, Pf.kFor_ap, Pf.iter_ap, Pf.kIter_t, Pf.rng1_ap, Pf.kRng1_ap, Pf.rng2_ap, Pf.kRng2_ap, Pf.rev_ap, Pf.kRev_t, Pf.kNew_ap, Pf.lc_ap, Pf.kLc_ap, Pf.yes_ap, Pf.bind_nm, Pf.bind_tp, Pf.bindL_nil, Pf.bindL_cons, Pf.kBL_ap, Pf.pat_ap, Pf.kPat_ap, Pf.aug_ap, Pf.kAugO_ap, Pf.kAug1_ap, Pf.iadd_ii, Pf.rng_len, Pf.isL_r, Pf.kIsL_some, Pf.ix_r, Pf.kIx_some, Pf.len_r, Pf.kLen_some, Pf.list_r, Pf.kList_some, Pf.tuple_r, Pf.kTuple_some, Pf.put_r, Pf.kPut_l, Pf.kPutO_some, Pf.append_r, Pf.kApp_l, Pf.pop0_r, Pf.kPop0_l, Pf.kIter_r, Pf.kRev_r, Pf.kIterO_some, Pf.id_ap, Pf.dat_r, Pf.kDatL_some, Pf.bind_tpr, Pf.kBindO_some, Pg.disp_ap, Pg.dictN_ap, Pg.zip_nil, Pg.zip_cons, Pg.dget_ap, Pg.kDg_d, Pg.look_if, Pg.is_bb, Pg.is_nn, Pg.is_in, Pg.is_sn, Pg.is_tn, Pg.is_rn, Pg.isnt_bb, Pg.isnt_nn, Pg.isnt_in, Pg.isnt_sn, Pg.isnt_tn, Pg.isnt_rn, Pg.fld_ap, Pg.kFld_ap, Pg.kFldO_i, Pg.meth_ap, Pg.kMeth_ap, Pg.kMethO_i, Pg.kMethA_ap, Pg.make_ap, Pg.sl_ap, Pg.kSl1_ap, Pg.kSl2_ap, Pg.kSl3_ap, Pg.pNo_ap, Pg.pYes_ap, Pg.kPart_ap, Pg.revL_ap, Pg.kRvL_ap, Pg.kRvO_some, String.reduceEq, Int.reduceEq, if_true, if_false, Nat.reduceEqDiff, decide_not, beq_self_eq_true, true_and, and_true, decide_true, decide_false, Int.reduceLT, Int.reduceLE, Int.reduceNeg, Int.reduceAdd, Int.reduceSub, Int.reduceMul, Int.reducePow, Nat.reduceAdd, Nat.reduceSub, Nat.reduceLT, Nat.reduceLeDiff, Int.reduceToNat, Bool.not_true, Bool.not_false]
    refine draws_spec (many := 4) hl hq2 (by omega) (by omega) (by omega) (fun v S R => by simp (implicitDefEqProofs := false) (disch := first | assumption | omega | (simp only [Pf.l_lenS, Pf.l_len0] <;> omega)) only [Pf.kOpt_some, Pf.look_ap, Pf.lkO_l, Pf.lkO_r, Pf.var_ap, Pf.c_ap, Pf.op_ap, Pf.op1_ap, Pf.op2_ap, Pf.tst_ap, Pf.kB_ap, Pf.asB_ap, Pf.kTo_some, Pf.tru_ap, Pf.kTru_ap, Pf.truB_bl, Pf.truB_non, Pf.truB_int, Pf.truB_tup, Pf.andV_ap, Pf.kAndV_ap, Pf.kAndB_t, Pf.kAndB_f, Pf.orV_ap, Pf.kOrV_ap, Pf.kOrB_t, Pf.kOrB_f, Pf.notV_ap, Pf.kNotV_ap, Pf.kNotB_ap, Pf.and_ap, Pf.kAnd_t, Pf.kAnd_f, Pf.or_ap, Pf.kOr_t, Pf.kOr_f, Pf.not_ap, Pf.kNot_ap, Pf.if_ap, Pf.kIf_t, Pf.kIf_f, Pf.un_ap, Pf.kUn_ap, Pf.neg_ap, Pf.chain_ap, Pf.kCh1_ap, Pf.kCh2_ap, Pf.kCh3_t, Pf.kCh3_f, Pf.maNil_ap, Pf.maCons_ap, Pf.kArg_ap, Pf.kArg2_ap, Pf.tup_ap, Pf.kTup_ap, Pf.lst_ap, Pf.kLst_ap, Pf.call_ap, Pf.kCall_ap, Pf.cb_ap, Pf.kCB_ap, Pf.isi_ap, Pf.kIsi_ap, Pf.kIsi2_some, Pf.tyN_int, Pf.tyN_bl, Pf.tyN_non, Pf.tyN_str, Pf.tyN_tup, Pf.tyB_ii, Pf.tyB_ib, Pf.tyB_bi, Pf.tyB_bb, Pf.tyB_tt, Pf.bm_ap, Pf.kBM_ap, Pf.kBM2_ap, Pf.msNil_ap, Pf.seq_ap, Pf.nx_mk, Pf.rt_mk, Pf.bk_mk, Pf.ct_mk, Pf.ret_ap, Pf.retN_ap, Pf.brk_ap, Pf.cont_ap, Pf.set_ap, Pf.kSet_ap, Pf.expr_ap, Pf.kDrop_ap, Pf.ifS_ap, Pf.kIfS_t, Pf.kIfS_f, Pf.sub_ap, Pf.kSub1_ap, Pf.kSub2_ap, Pf.kSub3_ap, Pf.defW_ap, Pf.add_ii, Pf.add_tt, Pf.sub_ii, Pf.mul_lt, Pf.mul_rt, Pf.mod_ii, Pf.fdiv_ii, Pf.lt_ii, Pf.le_ii, Pf.gt_ii, Pf.ge_ii, Pf.bId_ap, Pf.eq_ap, Pf.ne_ap, Pf.kEq_some, Pf.dat_int, Pf.dat_bl, Pf.dat_non, Pf.dat_str, Pf.dat_tup, Pf.eqv_ii, Pf.eqv_ss, Pf.eqv_bb, Pf.kO_some, Pf.ix_t, Pf.kL_some, Pf.at_0, Pf.at_1, Pf.at_2, Pf.at_3, Pf.at_4, Pf.at_5, Pf.len_t, Pf.list_t, Pf.list_f, Pf.tuple_t, Pf.int_i, Pf.int_b, Pf.l_set0, Pf.l_setS, Pf.l_get0, Pf.l_getS, Pf.l_len0, Pf.l_lenS, Pf.l_app0, Pf.l_appS, Pf.l_map0, Pf.l_mapS, Pf.l_len_map, Pf.l_rep0, Pf.l_repS, Pf.start_ap, Pf.wipe_nil, Pf.wipe_cons, Pf.supd_same, Pf.supd_ne, Pf.supd_supd, Pf.o_map_some, Pf.ixN_0, Pf.ixN_1, Pf.ixN_2, Pf.ixN_3, Pf.for_ap, Pf.kFor_ap, Pf.iter_ap, Pf.kIter_t, Pf.rng1_ap, Pf.kRng1_ap, Pf.rng2_ap, Pf.kRng2_ap, Pf.rev_ap, Pf.kRev_t, Pf.kNew_ap, Pf.lc_ap, Pf.kLc_ap, Pf.yes_ap, Pf.bind_nm, Pf.bind_tp, Pf.bindL_nil, Pf.bindL_cons, Pf.kBL_ap, Pf.pat_ap, Pf.kPat_ap, Pf.aug_ap, Pf.kAugO_ap, Pf.kAug1_ap, Pf.iadd_ii, Pf.rng_len, Pf.isL_r, Pf.kIsL_some, Pf.ix_r, Pf.kIx_some, Pf.len_r, Pf.kLen_some, Pf.list_r, Pf.kList_some, Pf.tuple_r, Pf.kTuple_some, Pf.put_r, Pf.kPut_l, Pf.kPutO_some, Pf.append_r, Pf.kApp_l, Pf.pop0_r, Pf.kPop0_l, Pf.kIter_r, Pf.kRev_r, Pf.kIterO_some, Pf.id_ap, Pf.dat_r, Pf.kDatL_some, Pf.bind_tpr, Pf.kBindO_some, Pg.disp_ap, Pg.dictN_ap, Pg.zip_nil, Pg.zip_cons, Pg.dget_ap, Pg.kDg_d, Pg.look_if, Pg.is_bb, Pg.is_nn, Pg.is_in, Pg.is_sn, Pg.is_tn, Pg.is_rn, Pg.isnt_bb, Pg.isnt_nn, Pg.isnt_in, Pg.isnt_sn, Pg.isnt_tn, Pg.isnt_rn, Pg.fld_ap, Pg.kFld_ap, Pg.kFldO_i, Pg.meth_ap, Pg.kMeth_ap, Pg.kMethO_i, Pg.kMethA_ap, Pg.make_ap, Pg.sl_ap, Pg.kSl1_ap, Pg.kSl2_ap, Pg.kSl3_ap, Pg.pNo_ap, Pg.pYes_ap, Pg.kPart_ap, Pg.revL_ap, Pg.kRvL_ap, Pg.kRvO_some, String.reduceEq, Int.reduceEq, if_true, if_false, Nat.reduceEqDiff, decide_not, beq_self_eq_true, true_and, and_true, decide_true, decide_false, Int.reduceLT, Int.reduceLE, Int.reduceNeg, Int.reduceAdd, Int.reduceSub, Int.reduceMul, Int.reducePow, Nat.reduceAdd, Nat.reduceSub, Nat.reduceLT, Nat.reduceLeDiff, Int.reduceToNat, Bool.not_true, Bool.not_false]) fun fs q3 hq3 hfl hfb => ?_
    simp (implicitDefEqProofs := false) (disch := first | assumption | omega | (simp only [Pf.l_lenS, Pf.l_len0] <;> omega)) only [Pf.kOpt_some, Pf.look_ap, Pf.lkO_l, Pf.lkO_r, Pf.var_ap, Pf.c_ap, Pf.op_ap, Pf.op1_ap, Pf.op2_ap, Pf.tst_ap, Pf.kB_ap, Pf.asB_ap, Pf.kTo_some, Pf.tru_ap, Pf.kTru_ap, Pf.truB_bl, Pf.truB_non, Pf.truB_int, Pf.truB_tup, Pf.andV_ap, Pf.kAndV_ap, Pf.kAndB_t, Pf.kAndB_f, Pf.orV_ap, Pf.kOrV_ap, Pf.kOrB_t, Pf.kOrB_f, Pf.notV_ap, Pf.kNotV_ap, Pf.kNotB_ap, Pf.and_ap, Pf.kAnd_t, Pf.kAnd_f, Pf.or_ap, Pf.kOr_t, Pf.kOr_f, Pf.not_ap, Pf.kNot_ap, Pf.if_ap, Pf.kIf_t, Pf.kIf_f, Pf.un_ap, Pf.kUn_ap, Pf.neg_ap, Pf.chain_ap, Pf.kCh1_ap, Pf.kCh2_ap, Pf.kCh3_t, Pf.kCh3_f, Pf.maNil_ap, Pf.maCons_ap, Pf.kArg_ap, Pf.kArg2_ap, Pf.tup_ap, Pf.kTup_ap, Pf.lst_ap, Pf.kLst_ap, Pf.call_ap, Pf.kCall_ap, Pf.cb_ap, Pf.kCB_ap, Pf.isi_ap, Pf.kIsi_ap, Pf.kIsi2_some, Pf.tyN_int, Pf.tyN_bl, Pf.tyN_non, Pf.tyN_str, Pf.tyN_tup, Pf.tyB_ii, Pf.tyB_ib, Pf.tyB_bi, Pf.tyB_bb, Pf.tyB_tt, Pf.bm_ap, Pf.kBM_ap, Pf.kBM2_ap, Pf.msNil_ap, Pf.seq_ap, Pf.nx_mk, Pf.rt_mk, Pf.bk_mk, Pf.ct_mk, Pf.ret_ap, Pf.retN_ap, Pf.brk_ap, Pf.cont_ap, Pf.set_ap, Pf.kSet_ap, Pf.expr_ap, Pf.kDrop_ap, Pf.ifS_ap, Pf.kIfS_t, Pf.kIfS_f, Pf.sub_ap, Pf.kSub1_ap, Pf.kSub2_ap, Pf.kSub3_ap, Pf.defW_ap, Pf.add_ii, Pf.add_tt, Pf.sub_ii, Pf.mul_lt, Pf.mul_rt, Pf.mod_ii, Pf.fdiv_ii, Pf.lt_ii, Pf.le_ii, Pf.gt_ii, Pf.ge_ii, Pf.bId_ap, Pf.eq_ap, Pf.ne_ap, Pf.kEq_some, Pf.dat_int, Pf.dat_bl, Pf.dat_non, Pf.dat_str, Pf.dat_tup, Pf.eqv_ii, Pf.eqv_ss, Pf.eqv_bb, Pf.kO_some, Pf.ix_t, Pf.kL_some, Pf.at_0, Pf.at_1, Pf.at_2, Pf.at_3, Pf.at_4, Pf.at_5, Pf.len_t, Pf.list_t, Pf.list_f, Pf.tuple_t, Pf.int_i, Pf.int_b, Pf.l_set0, Pf.l_setS, Pf.l_get0, Pf.l_getS, Pf.l_len0, Pf.l_lenS, Pf.l_app0, Pf.l_appS, Pf.l_map0, Pf.l_mapS, Pf.l_len_map, Pf.l_rep0, Pf.l_repS, Pf.start_ap, Pf.wipe_nil, Pf.wipe_cons, Pf.supd_same, Pf.supd_ne, Pf.supd_supd, Pf.o_map_some, Pf.ixN_0, Pf.ixN_1, Pf.ixN_2, Pf.ixN_3, Pf.for_ap, Pf.kFor_ap, Pf.iter_ap, Pf.kIter_t, Pf.rng1_ap, Pf.kRng1_ap, Pf.rng2_ap, Pf.kRng2_ap, Pf.rev_ap, Pf.kRev_t, Pf.kNew_ap, Pf.lc_ap, Pf.kLc_ap, Pf.yes_ap, Pf.bind_nm, Pf.bind_tp, Pf.bindL_nil, Pf.bindL_cons, Pf.kBL_ap, Pf.pat_ap, Pf.kPat_ap, Pf.aug_ap, Pf.kAugO_ap, Pf.kAug1_ap, Pf.iadd_ii, Pf.rng_len, Pf.isL_r, Pf.kIsL_some, Pf.ix_r, Pf.kIx_some, Pf.len_r, Pf.kLen_some, Pf.list_r, Pf.kList_some, Pf.tuple_r, Pf.kTuple_some, Pf.put_r, Pf.kPut_l, Pf.kPutO_some, Pf.append_r, Pf.kApp_l, Pf.pop0_r, Pf.kPop0_l, Pf.kIter_r, Pf.kRev_r, Pf.kIterO_some, Pf.id_ap, Pf.dat_r, Pf.kDatL_some, Pf.bind_tpr, Pf.kBindO_some, Pg.disp_ap, Pg.dictN_ap, Pg.zip_nil, Pg.zip_cons, Pg.dget_ap, Pg.kDg_d, Pg.look_if, Pg.is_bb, Pg.is_nn, Pg.is_in, Pg.is_sn, Pg.is_tn, Pg.is_rn, Pg.isnt_bb, Pg.isnt_nn, Pg.isnt_in, Pg.isnt_sn, Pg.isnt_tn, Pg.isnt_rn, Pg.fld_ap, Pg.kFld_ap, Pg.kFldO_i, Pg.meth_ap, Pg.kMeth_ap, Pg.kMethO_i, Pg.kMethA_ap, Pg.make_ap, Pg.sl_ap, Pg.kSl1_ap, Pg.kSl2_ap, Pg.kSl3_ap, Pg.pNo_ap, Pg.pYes_ap, Pg.kPart_ap, Pg.revL_ap, Pg.kRvL_ap, Pg.kRvO_some, String.reduceEq, Int.reduceEq, if_true, if_false, Nat.reduceEqDiff, decide_not, beq_self_eq_true, true_and, and_true, decide_true, decide_false, Int.reduceLT, Int.reduceLE, Int.reduceNeg, Int.reduceAdd, Int.reduceSub, Int.reduceMul, Int.reducePow, Nat.reduceAdd, Nat.reduceSub, Nat.reduceLT, Nat.reduceLeDiff, Int.reduceToNat, Bool.not_true, Bool.not_false]
    refine new_spec hl fun pf S3 hpf1 hpf2 _ hpf hS3 => ?_
    simp (implicitDefEqProofs := false) (disch := first | assumption | omega | (simp only [Pf.l_lenS, Pf.l_len0] <;> omega)) only [Pf.kOpt_some, Pf.look_ap, Pf.lkO_l, Pf.lkO_r, Pf.var_ap, Pf.c_ap, Pf.op_ap, Pf.op1_ap, Pf.op2_ap, Pf.tst_ap, Pf.kB_ap, Pf.asB_ap, Pf.kTo_some, Pf.tru_ap, Pf.kTru_ap, Pf.truB_bl, Pf.truB_non, Pf.truB_int, Pf.truB_tup, Pf.andV_ap, Pf.kAndV_ap, Pf.kAndB_t, Pf.kAndB_f, Pf.orV_ap, Pf.kOrV_ap, Pf.kOrB_t, Pf.kOrB_f, Pf.notV_ap, Pf.kNotV_ap, Pf.kNotB_ap, Pf.and_ap, Pf.kAnd_t, Pf.kAnd_f, Pf.or_ap, Pf.kOr_t, Pf.kOr_f, Pf.not_ap, Pf.kNot_ap, Pf.if_ap, Pf.kIf_t, Pf.kIf_f, Pf.un_ap, Pf.kUn_ap, Pf.neg_ap, Pf.chain_ap, Pf.kCh1_ap, Pf.kCh2_ap, Pf.kCh3_t, Pf.kCh3_f, Pf.maNil_ap, Pf.maCons_ap, Pf.kArg_ap, Pf.kArg2_ap, Pf.tup_ap, Pf.kTup_ap, Pf.lst_ap, Pf.kLst_ap, Pf.call_ap, Pf.kCall_ap, Pf.cb_ap, Pf.kCB_ap, Pf.isi_ap, Pf.kIsi_ap, Pf.kIsi2_some, Pf.tyN_int, Pf.tyN_bl, Pf.tyN_non, Pf.tyN_str, Pf.tyN_tup, Pf.tyB_ii, Pf.tyB_ib, Pf.tyB_bi, Pf.tyB_bb, Pf.tyB_tt, Pf.bm_ap, Pf.kBM_ap, Pf.kBM2_ap, Pf.msNil_ap, Pf.seq_ap, Pf.nx_mk, Pf.rt_mk, Pf.bk_mk, Pf.ct_mk, Pf.ret_ap, Pf.retN_ap, Pf.brk_ap, Pf.cont_ap, Pf.set_ap, Pf.kSet_ap, Pf.expr_ap, Pf.kDrop_ap, Pf.ifS_ap, Pf.kIfS_t, Pf.kIfS_f, Pf.sub_ap, Pf.kSub1_ap, Pf.kSub2_ap, Pf.kSub3_ap, Pf.defW_ap, Pf.add_ii, Pf.add_tt, Pf.sub_ii, Pf.mul_lt, Pf.mul_rt, Pf.mod_ii, Pf.fdiv_ii, Pf.lt_ii, Pf.le_ii, Pf.gt_ii, Pf.ge_ii, Pf.bId_ap, Pf.eq_ap, Pf.ne_ap, Pf.kEq_some, Pf.dat_int, Pf.dat_bl, Pf.dat_non, Pf.dat_str, Pf.dat_tup, Pf.eqv_ii, Pf.eqv_ss, Pf.eqv_bb, Pf.kO_some, Pf.ix_t, Pf.kL_some, Pf.at_0, Pf.at_1, Pf.at_2, Pf.at_3, Pf.at_4, Pf.at_5, Pf.len_t, Pf.list_t, Pf.list_f, Pf.tuple_t, Pf.int_i, Pf.int_b, Pf.l_set0, Pf.l_setS, Pf.l_get0, Pf.l_getS, Pf.l_len0, Pf.l_lenS, Pf.l_app0, Pf.l_appS, Pf.l_map0, Pf.l_mapS, Pf.l_len_map, Pf.l_rep0, Pf.l_repS, Pf.start_ap, Pf.wipe_nil, Pf.wipe_cons, Pf.supd_same, Pf.supd_ne, Pf.supd_supd, Pf.o_map_some, Pf.ixN_0, Pf.ixN_1, Pf.ixN_2, Pf.ixN_3, Pf.for_ap, Pf.kFor_ap, Pf.iter_ap, Pf.kIter_t, Pf.rng1_ap, Pf.kRng1_ap, Pf.rng2_ap, Pf.kRng2_ap, Pf.rev_ap, Pf.kRev_t, Pf.kNew_ap, Pf.lc_ap, Pf.kLc_ap, Pf.yes_ap, Pf.bind_nm, Pf.bind_tp, Pf.bindL_nil, Pf.bindL_cons, Pf.kBL_ap, Pf.pat_ap, Pf.kPat_ap, Pf.aug_ap, Pf.kAugO_ap, Pf.kAug1_ap, Pf.iadd_ii, Pf.rng_len, Pf.isL_r, Pf.kIsL_some, Pf.ix_r, Pf.kIx_some, Pf.len_r, Pf.kLen_some, Pf.list_r, Pf.kList_some, Pf.tuple_r, Pf.kTuple_some, Pf.put_r, Pf.kPut_l, Pf.kPutO_some, Pf.append_r, Pf.kApp_l, Pf.pop0_r, Pf.kPop0_l, Pf.kIter_r, Pf.kRev_r, Pf.kIterO_some, Pf.id_ap, Pf.dat_r, Pf.kDatL_some, Pf.bind_tpr, Pf.kBindO_some, Pg.disp_ap, Pg.dictN_ap, Pg.zip_nil, Pg.zip_cons, Pg.dget_ap, Pg.kDg_d, Pg.look_if, Pg.is_bb, Pg.is_nn, Pg.is_in, Pg.is_sn, Pg.is_tn, Pg.is_rn, Pg.isnt_bb, Pg.isnt_nn, Pg.isnt_in, Pg.isnt_sn, Pg.isnt_tn, Pg.isnt_rn, Pg.fld_ap, Pg.kFld_ap, Pg.kFldO_i, Pg.meth_ap, Pg.kMeth_ap, Pg.kMethO_i, Pg.kMethA_ap, Pg.make_ap, Pg.sl_ap, Pg.kSl1_ap, Pg.kSl2_ap, Pg.kSl3_ap, Pg.pNo_ap, Pg.pYes_ap, Pg.kPart_ap, Pg.revL_ap, Pg.kRvL_ap, Pg.kRvO_some, String.reduceEq, Int.reduceEq, if_true, if_false, Nat.reduceEqDiff, decide_not, beq_self_eq_true, true_and, and_true, decide_true, decide_false, Int.reduceLT, Int.reduceLE, Int.reduceNeg, Int.reduceAdd, Int.reduceSub, Int.reduceMul, Int.reducePow, Nat.reduceAdd, Nat.reduceSub, Nat.reduceLT, Nat.reduceLeDiff, Int.reduceToNat, Bool.not_true, Bool.not_false]
    refine nx_spec hl hq3 (by omega) (by omega) fun v4 q4 hq4 h4 h5 => ?_
    simp (implicitDefEqProofs := false) (disch := first | assumption | omega | (simp only [Pf.l_lenS, Pf.l_len0] <;> omega)) only [Pf.kOpt_some, Pf.look_ap, Pf.lkO_l, Pf.lkO_r, Pf.var_ap, Pf.c_ap, Pf.op_ap, Pf.op1_ap, Pf.op2_ap, Pf.tst_ap, Pf.kB_ap, Pf.asB_ap, Pf.kTo_some, Pf.tru_ap, Pf.kTru_ap, Pf.truB_bl, Pf.truB_non, Pf.truB_int, Pf.truB_tup, Pf.andV_ap, Pf.kAndV_ap, Pf.kAndB_t, Pf.kAndB_f, Pf.orV_ap, Pf.kOrV_ap, Pf.kOrB_t, Pf.kOrB_f, Pf.notV_ap, Pf.kNotV_ap, Pf.kNotB_ap, Pf.and_ap, Pf.kAnd_t, Pf.kAnd_f, Pf.or_ap, Pf.kOr_t, Pf.kOr_f, Pf.not_ap, Pf.kNot_ap, Pf.if_ap, Pf.kIf_t, Pf.kIf_f, Pf.un_ap, Pf.kUn_ap, Pf.neg_ap, Pf.chain_ap, Pf.kCh1_ap, Pf.kCh2_ap, Pf.kCh3_t, Pf.kCh3_f, Pf.maNil_ap, Pf.maCons_ap, Pf.kArg_ap, Pf.kArg2_ap, Pf.tup_ap, Pf.kTup_ap, Pf.lst_ap, Pf.kLst_ap, Pf.call_ap, Pf.kCall_ap, Pf.cb_ap, Pf.kCB_ap, Pf.isi_ap, Pf.kIsi_ap, Pf.kIsi2_some, Pf.tyN_int, Pf.tyN_bl, Pf.tyN_non, Pf.tyN_str, Pf.tyN_tup, Pf.tyB_ii, Pf.tyB_ib, Pf.tyB_bi, Pf.tyB_bb, Pf.tyB_tt, Pf.bm_ap, Pf.kBM_ap, Pf.kBM2_ap, Pf.msNil_ap, Pf.seq_ap, Pf.nx_mk, Pf.rt_mk, Pf.bk_mk, Pf.ct_mk, Pf.ret_ap, Pf.retN_ap, Pf.brk_ap, Pf.cont_ap, Pf.set_ap, Pf.kSet_ap, Pf.expr_ap, Pf.kDrop_ap, Pf.ifS_ap, Pf.kIfS_t, Pf.kIfS_f, Pf.sub_ap, Pf.kSub1_ap, Pf.kSub2_ap, Pf.kSub3_ap, Pf.defW_ap, Pf.add_ii, Pf.add_tt, Pf.sub_ii, Pf.mul_lt, Pf.mul_rt, Pf.mod_ii, Pf.fdiv_ii, Pf.lt_ii, Pf.le_ii, Pf.gt_ii, Pf.ge_ii, Pf.bId_ap, Pf.eq_ap, Pf.ne_ap, Pf.kEq_some, Pf.dat_int, Pf.dat_bl, Pf.dat_non, Pf.dat_str, Pf.dat_tup, Pf.eqv_ii, Pf.eqv_ss, Pf.eqv_bb, Pf.kO_some, Pf.ix_t, Pf.kL_some, Pf.at_0, Pf.at_1, Pf.at_2, Pf.at_3, Pf.at_4, Pf.at_5, Pf.len_t, Pf.list_t, Pf.list_f, Pf.tuple_t, Pf.int_i, Pf.int_b, Pf.l_set0, Pf.l_setS, Pf.l_get0, Pf.l_getS, Pf.l_len0, Pf.l_lenS, Pf.l_app0, Pf.l_appS, Pf.l_map0, Pf.l_mapS, Pf.l_len_map, Pf.l_rep0, Pf.l_repS, Pf.start_ap, Pf.wipe_nil, Pf.wipe_cons, Pf.supd_same, Pf.supd_ne, Pf.supd_supd, Pf.o_map_some, Pf.ixN_0, Pf.ixN_1, Pf.ixN_2, Pf.ixN_3, Pf.for_ap, Pf.kFor_ap, Pf.iter_ap, Pf.kIter_t, Pf.rng1_ap, Pf.kRng1_ap, Pf.rng2_ap, Pf.kRng2_ap, Pf.rev_ap, Pf.kRev_t, Pf.kNew_ap, Pf.lc_ap, Pf.kLc_ap, Pf.yes_ap, Pf.bind_nm, Pf.bind_tp, Pf.bindL_nil, Pf.bindL_cons, Pf.kBL_ap, Pf.pat_ap, Pf.kPat_ap, Pf.aug_ap, Pf.kAugO_ap, Pf.kAug1_ap, Pf.iadd_ii, Pf.rng_len, Pf.isL_r, Pf.kIsL_some, Pf.ix_r, Pf.kIx_some, Pf.len_r, Pf.kLen_some, Pf.list_r, Pf.kList_some, Pf.tuple_r, Pf.kTuple_some, Pf.put_r, Pf.kPut_l, Pf.kPutO_some, Pf.append_r, Pf.kApp_l, Pf.pop0_r, Pf.kPop0_l, Pf.kIter_r, Pf.kRev_r, Pf.kIterO_some, Pf.id_ap, Pf.dat_r, Pf.kDatL_some, Pf.bind_tpr, Pf.kBindO_some, Pg.disp_ap, Pg.dictN_ap, Pg.zip_nil, Pg.zip_cons, Pg.dget_ap, Pg.kDg_d, Pg.look_if, Pg.is_bb, Pg.is_nn, Pg.is_in, Pg.is_sn, Pg.is_tn, Pg.is_rn, Pg.isnt_bb, Pg.isnt_nn, Pg.isnt_in, Pg.isnt_sn, Pg.isnt_tn, Pg.isnt_rn, Pg.fld_ap, Pg.kFld_ap, Pg.kFldO_i, Pg.meth_ap, Pg.kMeth_ap, Pg.kMethO_i, Pg.kMethA_ap, Pg.make_ap, Pg.sl_ap, Pg.kSl1_ap, Pg.kSl2_ap, Pg.kSl3_ap, Pg.pNo_ap, Pg.pYes_ap, Pg.kPart_ap, Pg.revL_ap, Pg.kRvL_ap, Pg.kRvO_some, String.reduceEq, Int.reduceEq, if_true, if_false, Nat.reduceEqDiff, decide_not, beq_self_eq_true, true_and, and_true, decide_true, decide_false, Int.reduceLT, Int.reduceLE, Int.reduceNeg, Int.reduceAdd, Int.reduceSub, Int.reduceMul, Int.reducePow, Nat.reduceAdd, Nat.reduceSub, Nat.reduceLT, Nat.reduceLeDiff, Int.reduceToNat, Bool.not_true, Bool.not_false]
    refine draws_spec (many := 2) hl hq4 (by omega) (by omega) (by omega) (fun v S R => by simp (implicitDefEqProofs := false) (disch := first | assumption | omega | (simp only [Pf.l_lenS, Pf.l_len0] <;> omega)) only [Pf.kOpt_some, Pf.look_ap, Pf.lkO_l, Pf.lkO_r, Pf.var_ap, Pf.c_ap, Pf.op_ap, Pf.op1_ap, Pf.op2_ap, Pf.tst_ap, Pf.kB_ap, Pf.asB_ap, Pf.kTo_some, Pf.tru_ap, Pf.kTru_ap, Pf.truB_bl, Pf.truB_non, Pf.truB_int, Pf.truB_tup, Pf.andV_ap, Pf.kAndV_ap, Pf.kAndB_t, Pf.kAndB_f, Pf.orV_ap, Pf.kOrV_ap, Pf.kOrB_t, Pf.kOrB_f, Pf.notV_ap, Pf.kNotV_ap, Pf.kNotB_ap, Pf.and_ap, Pf.kAnd_t, Pf.kAnd_f, Pf.or_ap, Pf.kOr_t, Pf.kOr_f, Pf.not_ap, Pf.kNot_ap, Pf.if_ap, Pf.kIf_t, Pf.kIf_f, Pf.un_ap, Pf.kUn_ap, Pf.neg_ap, Pf.chain_ap, Pf.kCh1_ap, Pf.kCh2_ap, Pf.kCh3_t, Pf.kCh3_f, Pf.maNil_ap, Pf.maCons_ap, Pf.kArg_ap, Pf.kArg2_ap, Pf.tup_ap, Pf.kTup_ap, Pf.lst_ap, Pf.kLst_ap, Pf.call_ap, Pf.kCall_ap, Pf.cb_ap, Pf.kCB_ap, Pf.isi_ap, Pf.kIsi_ap, Pf.kIsi2_some, Pf.tyN_int, Pf.tyN_bl, Pf.tyN_non, Pf.tyN_str, Pf.tyN_tup, Pf.tyB_ii, Pf.tyB_ib, Pf.tyB_bi, Pf.tyB_bb, Pf.tyB_tt, Pf.bm_ap, Pf.kBM_ap, Pf.kBM2_ap, Pf.msNil_ap, Pf.seq_ap, Pf.nx_mk, Pf.rt_mk, Pf.bk_mk, Pf.ct_mk, Pf.ret_ap, Pf.retN_ap, Pf.brk_ap, Pf.cont_ap, Pf.set_ap, Pf.kSet_ap, Pf.expr_ap, Pf.kDrop_ap, Pf.ifS_ap, Pf.kIfS_t, Pf.kIfS_f, Pf.sub_ap, Pf.kSub1_ap, Pf.kSub2_ap, Pf.kSub3_ap, Pf.defW_ap, Pf.add_ii, Pf.add_tt, Pf.sub_ii, Pf.mul_lt, Pf.mul_rt, Pf.mod_ii, Pf.fdiv_ii, Pf.lt_ii, Pf.le_ii, Pf.gt_ii, Pf.ge_ii, Pf.bId_ap, Pf.eq_ap, Pf.ne_ap, Pf.kEq_some, Pf.dat_int, Pf.dat_bl, Pf.dat_non, Pf.dat_str, Pf.dat_tup, Pf.eqv_ii, Pf.eqv_ss, Pf.eqv_bb, Pf.kO_some, Pf.ix_t, Pf.kL_some, Pf.at_0, Pf.at_1, Pf.at_2, Pf.at_3, Pf.at_4, Pf.at_5, Pf.len_t, Pf.list_t, Pf.list_f, Pf.tuple_t, Pf.int_i, Pf.int_b, Pf.l_set0, Pf.l_setS, Pf.l_get0, Pf.l_getS, Pf.l_len0, Pf.l_lenS, Pf.l_app0, Pf.l_appS, Pf.l_map0, Pf.l_mapS, Pf.l_len_map, Pf.l_rep0, Pf.l_repS, Pf.start_ap, Pf.wipe_nil, Pf.wipe_cons, Pf.supd_same, Pf.supd_ne, Pf.supd_supd, Pf.o_map_some, Pf.ixN_0, Pf.ixN_1, Pf.ixN_2, Pf.ixN_3, Pf.for_ap, Pf.kFor_ap, Pf.iter_ap, Pf.kIter_t, Pf.rng1_ap, Pf.kRng1_ap, Pf.rng2_ap, Pf.kRng2_ap, Pf.rev_ap, Pf.kRev_t, Pf.kNew_ap, Pf.lc_ap, Pf.kLc_ap, Pf.yes_ap, Pf.bind_nm, Pf.bind_tp, Pf.bindL_nil, Pf.bindL_cons, Pf.kBL_ap, Pf.pat_ap, Pf.kPat_ap, Pf.aug_ap, Pf.kAugO_ap, Pf.kAug1_ap, Pf.iadd_ii, Pf.rng_len, Pf.isL_r, Pf.kIsL_some, Pf.ix_r, Pf.kIx_some, Pf.len_r, Pf.kLen_some, Pf.list_r, Pf.kList_some, Pf.tuple_r, Pf.kTuple_some, Pf.put_r, Pf.kPut_l, Pf.kPutO_some, Pf.append_r, Pf.kApp_l, Pf.pop0_r, Pf.kPop0_l, Pf.kIter_r, Pf.kRev_r, Pf.kIterO_some, Pf.id_ap, Pf.dat_r, Pf.kDatL_some, Pf.bind_tpr, Pf.kBindO_some, Pg.disp_ap, Pg.dictN_ap, Pg.zip_nil, Pg.zip_cons, Pg.dget_ap, Pg.kDg_d, Pg.look_if, Pg.is_bb, Pg.is_nn, Pg.is_in, Pg.is_sn, Pg.is_tn, Pg.is_rn, Pg.isnt_bb, Pg.isnt_nn, Pg.isnt_in, Pg.isnt_sn, Pg.isnt_tn, Pg.isnt_rn, Pg.fld_ap, Pg.kFld_ap, Pg.kFldO_i, Pg.meth_ap, Pg.kMeth_ap, Pg.kMethO_i, Pg.kMethA_ap, Pg.make_ap, Pg.sl_ap, Pg.kSl1_ap, Pg.kSl2_ap, Pg.kSl3_ap, Pg.pNo_ap, Pg.pYes_ap, Pg.kPart_ap, Pg.revL_ap, Pg.kRvL_ap, Pg.kRvO_some, String.reduceEq, Int.reduceEq, if_true, if_false, Nat.reduceEqDiff, decide_not, beq_self_eq_true, true_and, and_true, decide_true, decide_false, Int.reduceLT, Int.reduceLE, Int.reduceNeg, Int.reduceAdd, Int.reduceSub, Int.reduceMul, Int.reducePow, Nat.reduceAdd, Nat.reduceSub, Nat.reduceLT, Nat.reduceLeDiff, Int.reduceToNat, Bool.not_true, Bool.not_false]) fun ss q5 hq5 hsl hsb => ?_
    simp (implicitDefEqProofs := false) (disch := first | assumption | omega | (simp only [Pf.l_lenS, Pf.l_len0] <;> omega)) only [Pf.kOpt_some, Pf.look_ap, Pf.lkO_l, Pf.lkO_r, Pf.var_ap, Pf.c_ap, Pf.op_ap, Pf.op1_ap, Pf.op2_ap, Pf.tst_ap, Pf.kB_ap, Pf.asB_ap, Pf.kTo_some, Pf.tru_ap, Pf.kTru_ap, Pf.truB_bl, Pf.truB_non, Pf.truB_int, Pf.truB_tup, Pf.andV_ap, Pf.kAndV_ap, Pf.kAndB_t, Pf.kAndB_f, Pf.orV_ap, Pf.kOrV_ap, Pf.kOrB_t, Pf.kOrB_f, Pf.notV_ap, Pf.kNotV_ap, Pf.kNotB_ap, Pf.and_ap, Pf.kAnd_t, Pf.kAnd_f, Pf.or_ap, Pf.kOr_t, Pf.kOr_f, Pf.not_ap, Pf.kNot_ap, Pf.if_ap, Pf.kIf_t, Pf.kIf_f, Pf.un_ap, Pf.kUn_ap, Pf.neg_ap, Pf.chain_ap, Pf.kCh1_ap, Pf.kCh2_ap, Pf.kCh3_t, Pf.kCh3_f, Pf.maNil_ap, Pf.maCons_ap, Pf.kArg_ap, Pf.kArg2_ap, Pf.tup_ap, Pf.kTup_ap, Pf.lst_ap, Pf.kLst_ap, Pf.call_ap, Pf.kCall_ap, Pf.cb_ap, Pf.kCB_ap, Pf.isi_ap, Pf.kIsi_ap, Pf.kIsi2_some, Pf.tyN_int, Pf.tyN_bl, Pf.tyN_non, Pf.tyN_str, Pf.tyN_tup, Pf.tyB_ii, Pf.tyB_ib, Pf.tyB_bi, Pf.tyB_bb, Pf.tyB_tt, Pf.bm_ap, Pf.kBM_ap, Pf.kBM2_ap, Pf.msNil_ap, Pf.seq_ap, Pf.nx_mk, Pf.rt_mk, Pf.bk_mk, Pf.ct_mk, Pf.ret_ap, Pf.retN_ap, Pf.brk_ap, Pf.cont_ap, Pf.set_ap, Pf.kSet_ap, Pf.expr_ap, Pf.kDrop_ap, Pf.ifS_ap, Pf.kIfS_t, Pf.kIfS_f, Pf.sub_ap, Pf.kSub1_ap, Pf.kSub2_ap, Pf.kSub3_ap, Pf.defW_ap, Pf.add_ii, Pf.add_tt, Pf.sub_ii, Pf.mul_lt, Pf.mul_rt, Pf.mod_ii, Pf.fdiv_ii, Pf.lt_ii, Pf.le_ii, Pf.gt_ii, Pf.ge_ii, Pf.bId_ap, Pf.eq_ap, Pf.ne_ap, Pf.kEq_some, Pf.dat_int, Pf.dat_bl, Pf.dat_non, Pf.dat_str, Pf.dat_tup, Pf.eqv_ii, Pf.eqv_ss, Pf.eqv_bb, Pf.kO_some, Pf.ix_t, Pf.kL_some, Pf.at_0, Pf.at_1, Pf.at_2, Pf.at_3, Pf.at_4, Pf.at_5, Pf.len_t, Pf.list_t, Pf.list_f, Pf.tuple_t, Pf.int_i, Pf.int_b, Pf.l_set0, Pf.l_setS, Pf.l_get0, Pf.l_getS, Pf.l_len0, Pf.l_lenS, Pf.l_app0, Pf.l_appS, Pf.l_map0, Pf.l_mapS, Pf.l_len_map, Pf.l_rep0, Pf.l_repS, Pf.start_ap, Pf.wipe_nil, Pf.wipe_cons, Pf.supd_same, Pf.supd_ne, Pf.supd_supd, Pf.o_map_some, Pf.ixN_0, Pf.ixN_1, Pf.ixN_2, Pf.ixN_3, Pf.for_ap, Pf.kFor_ap, Pf.iter_ap, Pf.kIter_t, Pf.rng1_ap, Pf.kRng1_ap, Pf.rng2_ap, Pf.kRng2_ap, Pf.rev_ap, Pf.kRev_t, Pf.kNew_ap, Pf.lc_ap, Pf.kLc_ap, Pf.yes_ap, Pf.bind_nm, Pf.bind_tp, Pf.bindL_nil, Pf.bindL_cons, Pf.kBL_ap, Pf.pat_ap, Pf.kPat_ap, Pf.aug_ap, Pf.kAugO_ap, Pf.kAug1_ap, Pf.iadd_ii, Pf.rng_len, Pf.isL_r, Pf.kIsL_some, Pf.ix_r, Pf.kIx_some, Pf.len_r, Pf.kLen_some, Pf.list_r, Pf.kList_some, Pf.tuple_r, Pf.kTuple_some, Pf.put_r, Pf.kPut_l, Pf.kPutO_some, Pf.append_r, Pf.kApp_l, Pf.pop0_r, Pf.kPop0_l, Pf.kIter_r, Pf.kRev_r, Pf.kIterO_some, Pf.id_ap, Pf.dat_r, Pf.kDatL_some, Pf.bind_tpr, Pf.kBindO_some, Pg.disp_ap, Pg.dictN_ap, Pg.zip_nil, Pg.zip_cons, Pg.dget_ap, Pg.kDg_d, Pg.look_if, Pg.is_bb, Pg.is_nn, Pg.is_in, Pg.is_sn, Pg.is_tn, Pg.is_rn, Pg.isnt_bb, Pg.isnt_nn, Pg.isnt_in, Pg.isnt_sn, Pg.isnt_tn, Pg.isnt_rn, Pg.fld_ap, Pg.kFld_ap, Pg.kFldO_i, Pg.meth_ap, Pg.kMeth_ap, Pg.kMethO_i, Pg.kMethA_ap, Pg.make_ap, Pg.sl_ap, Pg.kSl1_ap, Pg.kSl2_ap, Pg.kSl3_ap, Pg.pNo_ap, Pg.pYes_ap, Pg.kPart_ap, Pg.revL_ap, Pg.kRvL_ap, Pg.kRvO_some, String.reduceEq, Int.reduceEq, if_true, if_false, Nat.reduceEqDiff, decide_not, beq_self_eq_true, true_and, and_true, decide_true, decide_false, Int.reduceLT, Int.reduceLE, Int.reduceNeg, Int.reduceAdd, Int.reduceSub, Int.reduceMul, Int.reducePow, Nat.reduceAdd, Nat.reduceSub, Nat.reduceLT, Nat.reduceLeDiff, Int.reduceToNat, Bool.not_true, Bool.not_false]
    refine new_spec hl fun ps S5 hps1 hps2 hps0 hps hS5 => ?_
    have hpf5 := (hS5 _ _ hpf).1
    simp (implicitDefEqProofs := false) (disch := first | assumption | omega | (simp only [Pf.l_lenS, Pf.l_len0] <;> omega)) only [Pf.kOpt_some, Pf.look_ap, Pf.lkO_l, Pf.lkO_r, Pf.var_ap, Pf.c_ap, Pf.op_ap, Pf.op1_ap, Pf.op2_ap, Pf.tst_ap, Pf.kB_ap, Pf.asB_ap, Pf.kTo_some, Pf.tru_ap, Pf.kTru_ap, Pf.truB_bl, Pf.truB_non, Pf.truB_int, Pf.truB_tup, Pf.andV_ap, Pf.kAndV_ap, Pf.kAndB_t, Pf.kAndB_f, Pf.orV_ap, Pf.kOrV_ap, Pf.kOrB_t, Pf.kOrB_f, Pf.notV_ap, Pf.kNotV_ap, Pf.kNotB_ap, Pf.and_ap, Pf.kAnd_t, Pf.kAnd_f, Pf.or_ap, Pf.kOr_t, Pf.kOr_f, Pf.not_ap, Pf.kNot_ap, Pf.if_ap, Pf.kIf_t, Pf.kIf_f, Pf.un_ap, Pf.kUn_ap, Pf.neg_ap, Pf.chain_ap, Pf.kCh1_ap, Pf.kCh2_ap, Pf.kCh3_t, Pf.kCh3_f, Pf.maNil_ap, Pf.maCons_ap, Pf.kArg_ap, Pf.kArg2_ap, Pf.tup_ap, Pf.kTup_ap, Pf.lst_ap, Pf.kLst_ap, Pf.call_ap, Pf.kCall_ap, Pf.cb_ap, Pf.kCB_ap, Pf.isi_ap, Pf.kIsi_ap, Pf.kIsi2_some, Pf.tyN_int, Pf.tyN_bl, Pf.tyN_non, Pf.tyN_str, Pf.tyN_tup, Pf.tyB_ii, Pf.tyB_ib, Pf.tyB_bi, Pf.tyB_bb, Pf.tyB_tt, Pf.bm_ap, Pf.kBM_ap, Pf.kBM2_ap, Pf.msNil_ap, Pf.seq_ap, Pf.nx_mk, Pf.rt_mk, Pf.bk_mk, Pf.ct_mk, Pf.ret_ap, Pf.retN_ap, Pf.brk_ap, Pf.cont_ap, Pf.set_ap, Pf.kSet_ap, Pf.expr_ap, Pf.kDrop_ap, Pf.ifS_ap, Pf.kIfS_t, Pf.kIfS_f, Pf.sub_ap, Pf.kSub1_ap, Pf.kSub2_ap, Pf.kSub3_ap, Pf.defW_ap, Pf.add_ii, Pf.add_tt, Pf.sub_ii, Pf.mul_lt, Pf.mul_rt, Pf.mod_ii, Pf.fdiv_ii, Pf.lt_ii, Pf.le_ii, Pf.gt_ii, Pf.ge_ii, Pf.bId_ap, Pf.eq_ap, Pf.ne_ap, Pf.kEq_some, Pf.dat_int, Pf.dat_bl, Pf.dat_non, Pf.dat_str, Pf.dat_tup, Pf.eqv_ii, Pf.eqv_ss, Pf.eqv_bb, Pf.kO_some, Pf.ix_t, Pf.kL_some, Pf.at_0, Pf.at_1, Pf.at_2, Pf.at_3, Pf.at_4, Pf.at_5, Pf.len_t, Pf.list_t, Pf.list_f, Pf.tuple_t, Pf.int_i, Pf.int_b, Pf.l_set0, Pf.l_setS, Pf.l_get0, Pf.l_getS, Pf.l_len0, Pf.l_lenS, Pf.l_app0, Pf.l_appS, Pf.l_map0, Pf.l_mapS, Pf.l_len_map, Pf.l_rep0, Pf.l_repS, Pf.start_ap, Pf.wipe_nil, Pf.wipe_cons, Pf.supd_same, Pf.supd_ne, Pf.supd_supd, Pf.o_map_some, Pf.ixN_0, Pf.ixN_1, Pf.ixN_2, Pf.ixN_3, Pf.for_ap, Pf.kFor_ap, Pf.iter_ap, Pf.kIter_t, Pf.rng1_ap, Pf.kRng1_ap, Pf.rng2_ap, Pf.kRng2_ap, Pf.rev_ap, Pf.kRev_t, Pf.kNew_ap, Pf.lc_ap, Pf.kLc_ap, Pf.yes_ap, Pf.bind_nm, Pf.bind_tp, Pf.bindL_nil, Pf.bindL_cons, Pf.kBL_ap, Pf.pat_ap, Pf.kPat_ap, Pf.aug_ap, Pf.kAugO_ap, Pf.kAug1_ap, Pf.iadd_ii, Pf.rng_len, Pf.isL_r, Pf.kIsL_some, Pf.ix_r, Pf.kIx_some, Pf.len_r, Pf.kLen_some, Pf.list_r, Pf.kList_some, Pf.tuple_r, Pf.kTuple_some, Pf.put_r, Pf.kPut_l, Pf.kPutO_some, Pf.append_r, Pf.kApp_l, Pf.pop0_r, Pf.kPop0_l, Pf.kIter_r, Pf.kRev_r, Pf.kIterO_some, Pf.id_ap, Pf.dat_r, Pf.kDatL_some, Pf.bind_tpr, Pf.kBindO_some, Pg.disp_ap, Pg.dictN_ap, Pg.zip_nil, Pg.zip_cons, Pg.dget_ap, Pg.kDg_d, Pg.look_if, Pg.is_bb, Pg.is_nn, Pg.is_in, Pg.is_sn, Pg.is_tn, Pg.is_rn, Pg.isnt_bb, Pg.isnt_nn, Pg.isnt_in, Pg.isnt_sn, Pg.isnt_tn, Pg.isnt_rn, Pg.fld_ap, Pg.kFld_ap, Pg.kFldO_i, Pg.meth_ap, Pg.kMeth_ap, Pg.kMethO_i, Pg.kMethA_ap, Pg.make_ap, Pg.sl_ap, Pg.kSl1_ap, Pg.kSl2_ap, Pg.kSl3_ap, Pg.pNo_ap, Pg.pYes_ap, Pg.kPart_ap, Pg.revL_ap, Pg.kRvL_ap, Pg.kRvO_some, String.reduceEq, Int.reduceEq, if_true, if_false, Nat.reduceEqDiff, decide_not, beq_self_eq_true, true_and, and_true, decide_true, decide_false, Int.reduceLT, Int.reduceLE, Int.reduceNeg, Int.reduceAdd, Int.reduceSub, Int.reduceMul, Int.reducePow, Nat.reduceAdd, Nat.reduceSub, Nat.reduceLT, Nat.reduceLeDiff, Int.reduceToNat, Bool.not_true, Bool.not_false, G_ne hps1 hps2, hps]
    refine nx_spec hl hq5 (by omega) (by omega) fun arg q6 hq6 h6 h7 => ?_
    simp (implicitDefEqProofs := false) (disch := first | assumption | omega | (simp only [Pf.l_lenS, Pf.l_len0] <;> omega)) only [Pf.kOpt_some, Pf.look_ap, Pf.lkO_l, Pf.lkO_r, Pf.var_ap, Pf.c_ap, Pf.op_ap, Pf.op1_ap, Pf.op2_ap, Pf.tst_ap, Pf.kB_ap, Pf.asB_ap, Pf.kTo_some, Pf.tru_ap, Pf.kTru_ap, Pf.truB_bl, Pf.truB_non, Pf.truB_int, Pf.truB_tup, Pf.andV_ap, Pf.kAndV_ap, Pf.kAndB_t, Pf.kAndB_f, Pf.orV_ap, Pf.kOrV_ap, Pf.kOrB_t, Pf.kOrB_f, Pf.notV_ap, Pf.kNotV_ap, Pf.kNotB_ap, Pf.and_ap, Pf.kAnd_t, Pf.kAnd_f, Pf.or_ap, Pf.kOr_t, Pf.kOr_f, Pf.not_ap, Pf.kNot_ap, Pf.if_ap, Pf.kIf_t, Pf.kIf_f, Pf.un_ap, Pf.kUn_ap, Pf.neg_ap, Pf.chain_ap, Pf.kCh1_ap, Pf.kCh2_ap, Pf.kCh3_t, Pf.kCh3_f, Pf.maNil_ap, Pf.maCons_ap, Pf.kArg_ap, Pf.kArg2_ap, Pf.tup_ap, Pf.kTup_ap, Pf.lst_ap, Pf.kLst_ap, Pf.call_ap, Pf.kCall_ap, Pf.cb_ap, Pf.kCB_ap, Pf.isi_ap, Pf.kIsi_ap, Pf.kIsi2_some, Pf.tyN_int, Pf.tyN_bl, Pf.tyN_non, Pf.tyN_str, Pf.tyN_tup, Pf.tyB_ii, Pf.tyB_ib, Pf.tyB_bi, Pf.tyB_bb, Pf.tyB_tt, Pf.bm_ap, Pf.kBM_ap, Pf.kBM2_ap, Pf.msNil_ap, Pf.seq_ap, Pf.nx_mk, Pf.rt_mk, Pf.bk_mk, Pf.ct_mk, Pf.ret_ap, Pf.retN_ap, Pf.brk_ap, Pf.cont_ap, Pf.set_ap, Pf.kSet_ap, Pf.expr_ap, Pf.kDrop_ap, Pf.ifS_ap, Pf.kIfS_t, Pf.kIfS_f, Pf.sub_ap, Pf.kSub1_ap, Pf.kSub2_ap, Pf.kSub3_ap, Pf.defW_ap, Pf.add_ii, Pf.add_tt, Pf.sub_ii, Pf.mul_lt, Pf.mul_rt, Pf.mod_ii, Pf.fdiv_ii, Pf.lt_ii, Pf.le_ii, Pf.gt_ii, Pf.ge_ii, Pf.bId_ap, Pf.eq_ap, Pf.ne_ap, Pf.kEq_some, Pf.dat_int, Pf.dat_bl, Pf.dat_non, Pf.dat_str, Pf.dat_tup, Pf.eqv_ii, Pf.eqv_ss, Pf.eqv_bb, Pf.kO_some, Pf.ix_t, Pf.kL_some, Pf.at_0, Pf.at_1, Pf.at_2, Pf.at_3, Pf.at_4, Pf.at_5, Pf.len_t, Pf.list_t, Pf.list_f, Pf.tuple_t, Pf.int_i, Pf.int_b, Pf.l_set0, Pf.l_setS, Pf.l_get0, Pf.l_getS, Pf.l_len0, Pf.l_lenS, Pf.l_app0, Pf.l_appS, Pf.l_map0, Pf.l_mapS, Pf.l_len_map, Pf.l_rep0, Pf.l_repS, Pf.start_ap, Pf.wipe_nil, Pf.wipe_cons, Pf.supd_same, Pf.supd_ne, Pf.supd_supd, Pf.o_map_some, Pf.ixN_0, Pf.ixN_1, Pf.ixN_2, Pf.ixN_3, Pf.for_ap, Pf.kFor_ap, Pf.iter_ap, Pf.kIter_t, Pf.rng1_ap, Pf.kRng1_ap, Pf.rng2_ap, Pf.kRng2_ap, Pf.rev_ap, Pf.kRev_t, Pf.kNew_ap, Pf.lc_ap, Pf.kLc_ap, Pf.yes_ap, Pf.bind_nm, Pf.bind_tp, Pf.bindL_nil, Pf.bindL_cons, Pf.kBL_ap, Pf.pat_ap, Pf.kPat_ap, Pf.aug_ap, Pf.kAugO_ap, Pf.kAug1_ap, Pf.iadd_ii, Pf.rng_len, Pf.isL_r, Pf.kIsL_some, Pf.ix_r, Pf.kIx_some, Pf.len_r, Pf.kLen_some, Pf.list_r, Pf.kList_some, Pf.tuple_r, Pf.kTuple_some, Pf.put_r, Pf.kPut_l, Pf.kPutO_some, Pf.append_r, Pf.kApp_l, Pf.pop0_r, Pf.kPop0_l, Pf.kIter_r, Pf.kRev_r, Pf.kIterO_some, Pf.id_ap, Pf.dat_r, Pf.kDatL_some, Pf.bind_tpr, Pf.kBindO_some, Pg.disp_ap, Pg.dictN_ap, Pg.zip_nil, Pg.zip_cons, Pg.dget_ap, Pg.kDg_d, Pg.look_if, Pg.is_bb, Pg.is_nn, Pg.is_in, Pg.is_sn, Pg.is_tn, Pg.is_rn, Pg.isnt_bb, Pg.isnt_nn, Pg.isnt_in, Pg.isnt_sn, Pg.isnt_tn, Pg.isnt_rn, Pg.fld_ap, Pg.kFld_ap, Pg.kFldO_i, Pg.meth_ap, Pg.kMeth_ap, Pg.kMethO_i, Pg.kMethA_ap, Pg.make_ap, Pg.sl_ap, Pg.kSl1_ap, Pg.kSl2_ap, Pg.kSl3_ap, Pg.pNo_ap, Pg.pYes_ap, Pg.kPart_ap, Pg.revL_ap, Pg.kRvL_ap, Pg.kRvO_some, String.reduceEq, Int.reduceEq, if_true, if_false, Nat.reduceEqDiff, decide_not, beq_self_eq_true, true_and, and_true, decide_true, decide_false, Int.reduceLT, Int.reduceLE, Int.reduceNeg, Int.reduceAdd, Int.reduceSub, Int.reduceMul, Int.reducePow, Nat.reduceAdd, Nat.reduceSub, Nat.reduceLT, Nat.reduceLeDiff, Int.reduceToNat, Bool.not_true, Bool.not_false]
    refine nx_spec hl hq6 (by omega) (by omega) fun got q7 hq7 h8 h9 => ?_
    simp (implicitDefEqProofs := false) (disch := first | assumption | omega | (simp only [Pf.l_lenS, Pf.l_len0] <;> omega)) only [Pf.kOpt_some, Pf.look_ap, Pf.lkO_l, Pf.lkO_r, Pf.var_ap, Pf.c_ap, Pf.op_ap, Pf.op1_ap, Pf.op2_ap, Pf.tst_ap, Pf.kB_ap, Pf.asB_ap, Pf.kTo_some, Pf.tru_ap, Pf.kTru_ap, Pf.truB_bl, Pf.truB_non, Pf.truB_int, Pf.truB_tup, Pf.andV_ap, Pf.kAndV_ap, Pf.kAndB_t, Pf.kAndB_f, Pf.orV_ap, Pf.kOrV_ap, Pf.kOrB_t, Pf.kOrB_f, Pf.notV_ap, Pf.kNotV_ap, Pf.kNotB_ap, Pf.and_ap, Pf.kAnd_t, Pf.kAnd_f, Pf.or_ap, Pf.kOr_t, Pf.kOr_f, Pf.not_ap, Pf.kNot_ap, Pf.if_ap, Pf.kIf_t, Pf.kIf_f, Pf.un_ap, Pf.kUn_ap, Pf.neg_ap, Pf.chain_ap, Pf.kCh1_ap, Pf.kCh2_ap, Pf.kCh3_t, Pf.kCh3_f, Pf.maNil_ap, Pf.maCons_ap, Pf.kArg_ap, Pf.kArg2_ap, Pf.tup_ap, Pf.kTup_ap, Pf.lst_ap, Pf.kLst_ap, Pf.call_ap, Pf.kCall_ap, Pf.cb_ap, Pf.kCB_ap, Pf.isi_ap, Pf.kIsi_ap, Pf.kIsi2_some, Pf.tyN_int, Pf.tyN_bl, Pf.tyN_non, Pf.tyN_str, Pf.tyN_tup, Pf.tyB_ii, Pf.tyB_ib, Pf.tyB_bi, Pf.tyB_bb, Pf.tyB_tt, Pf.bm_ap, Pf.kBM_ap, Pf.kBM2_ap, Pf.msNil_ap, Pf.seq_ap, Pf.nx_mk, Pf.rt_mk, Pf.bk_mk, Pf.ct_mk, Pf.ret_ap, Pf.retN_ap, Pf.brk_ap, Pf.cont_ap, Pf.set_ap, Pf.kSet_ap, Pf.expr_ap, Pf.kDrop_ap, Pf.ifS_ap, Pf.kIfS_t, Pf.kIfS_f, Pf.sub_ap, Pf.kSub1_ap, Pf.kSub2_ap, Pf.kSub3_ap, Pf.defW_ap, Pf.add_ii, Pf.add_tt, Pf.sub_ii, Pf.mul_lt, Pf.mul_rt, Pf.mod_ii, Pf.fdiv_ii, Pf.lt_ii, Pf.le_ii, Pf.gt_ii, Pf.ge_ii, Pf.bId_ap, Pf.eq_ap, Pf.ne_ap, Pf.kEq_some, Pf.dat_int, Pf.dat_bl, Pf.dat_non, Pf.dat_str, Pf.dat_tup, Pf.eqv_ii, Pf.eqv_ss, Pf.eqv_bb, Pf.kO_some, Pf.ix_t, Pf.kL_some, Pf.at_0, Pf.at_1, Pf.at_2, Pf.at_3, Pf.at_4, Pf.at_5, Pf.len_t, Pf.list_t, Pf.list_f, Pf.tuple_t, Pf.int_i, Pf.int_b, Pf.l_set0, Pf.l_setS, Pf.l_get0, Pf.l_getS, Pf.l_len0, Pf.l_lenS, Pf.l_app0, Pf.l_appS, Pf.l_map0, Pf.l_mapS, Pf.l_len_map, Pf.l_rep0, Pf.l_repS, Pf.start_ap, Pf.wipe_nil, Pf.wipe_cons, Pf.supd_same, Pf.supd_ne, Pf.supd_supd, Pf.o_map_some, Pf.ixN_0, Pf.ixN_1, Pf.ixN_2, Pf.ixN_3, Pf.for_ap, Pf.kFor_ap, Pf.iter_ap, Pf.kIter_t, Pf.rng1_ap, Pf.kRng1_ap, Pf.rng2_ap, Pf.kRng2_ap, Pf.rev_ap, Pf.kRev_t, Pf.kNew_ap, Pf.lc_ap, Pf.kLc_ap, Pf.yes_ap, Pf.bind_nm, Pf.bind_tp, Pf.bindL_nil, Pf.bindL_cons, Pf.kBL_ap, Pf.pat_ap, Pf.kPat_ap, Pf.aug_ap, Pf.kAugO_ap, Pf.kAug1_ap, Pf.iadd_ii, Pf.rng_len, Pf.isL_r, Pf.kIsL_some, Pf.ix_r, Pf.kIx_some, Pf.len_r, Pf.kLen_some, Pf.list_r, Pf.kList_some, Pf.tuple_r, Pf.kTuple_some, Pf.put_r, Pf.kPut_l, Pf.kPutO_some, Pf.append_r, Pf.kApp_l, Pf.pop0_r, Pf.kPop0_l, Pf.kIter_r, Pf.kRev_r, Pf.kIterO_some, Pf.id_ap, Pf.dat_r, Pf.kDatL_some, Pf.bind_tpr, Pf.kBindO_some, Pg.disp_ap, Pg.dictN_ap, Pg.zip_nil, Pg.zip_cons, Pg.dget_ap, Pg.kDg_d, Pg.look_if, Pg.is_bb, Pg.is_nn, Pg.is_in, Pg.is_sn, Pg.is_tn, Pg.is_rn, Pg.isnt_bb, Pg.isnt_nn, Pg.isnt_in, Pg.isnt_sn, Pg.isnt_tn, Pg.isnt_rn, Pg.fld_ap, Pg.kFld_ap, Pg.kFldO_i, Pg.meth_ap, Pg.kMeth_ap, Pg.kMethO_i, Pg.kMethA_ap, Pg.make_ap, Pg.sl_ap, Pg.kSl1_ap, Pg.kSl2_ap, Pg.kSl3_ap, Pg.pNo_ap, Pg.pYes_ap, Pg.kPart_ap, Pg.revL_ap, Pg.kRvL_ap, Pg.kRvO_some, String.reduceEq, Int.reduceEq, if_true, if_false, Nat.reduceEqDiff, decide_not, beq_self_eq_true, true_and, and_true, decide_true, decide_false, Int.reduceLT, Int.reduceLE, Int.reduceNeg, Int.reduceAdd, Int.reduceSub, Int.reduceMul, Int.reducePow, Nat.reduceAdd, Nat.reduceSub, Nat.reduceLT, Nat.reduceLeDiff, Int.reduceToNat, Bool.not_true, Bool.not_false]
    refine any_spec hl hq7 hpf1 hpf2 hpf5 (by omega) (by omega) (by omega) fun e1 q8 hq8 he1 => ?_
    simp (implicitDefEqProofs := false) (disch := first | assumption | omega | (simp only [Pf.l_lenS, Pf.l_len0] <;> omega)) only [Pf.kOpt_some, Pf.look_ap, Pf.lkO_l, Pf.lkO_r, Pf.var_ap, Pf.c_ap, Pf.op_ap, Pf.op1_ap, Pf.op2_ap, Pf.tst_ap, Pf.kB_ap, Pf.asB_ap, Pf.kTo_some, Pf.tru_ap, Pf.kTru_ap, Pf.truB_bl, Pf.truB_non, Pf.truB_int, Pf.truB_tup, Pf.andV_ap, Pf.kAndV_ap, Pf.kAndB_t, Pf.kAndB_f, Pf.orV_ap, Pf.kOrV_ap, Pf.kOrB_t, Pf.kOrB_f, Pf.notV_ap, Pf.kNotV_ap, Pf.kNotB_ap, Pf.and_ap, Pf.kAnd_t, Pf.kAnd_f, Pf.or_ap, Pf.kOr_t, Pf.kOr_f, Pf.not_ap, Pf.kNot_ap, Pf.if_ap, Pf.kIf_t, Pf.kIf_f, Pf.un_ap, Pf.kUn_ap, Pf.neg_ap, Pf.chain_ap, Pf.kCh1_ap, Pf.kCh2_ap, Pf.kCh3_t, Pf.kCh3_f, Pf.maNil_ap, Pf.maCons_ap, Pf.kArg_ap, Pf.kArg2_ap, Pf.tup_ap, Pf.kTup_ap, Pf.lst_ap, Pf.kLst_ap, Pf.call_ap, Pf.kCall_ap, Pf.cb_ap, Pf.kCB_ap, Pf.isi_ap, Pf.kIsi_ap, Pf.kIsi2_some, Pf.tyN_int, Pf.tyN_bl, Pf.tyN_non, Pf.tyN_str, Pf.tyN_tup, Pf.tyB_ii, Pf.tyB_ib, Pf.tyB_bi, Pf.tyB_bb, Pf.tyB_tt, Pf.bm_ap, Pf.kBM_ap, Pf.kBM2_ap, Pf.msNil_ap, Pf.seq_ap, Pf.nx_mk, Pf.rt_mk, Pf.bk_mk, Pf.ct_mk, Pf.ret_ap, Pf.retN_ap, Pf.brk_ap, Pf.cont_ap, Pf.set_ap, Pf.kSet_ap, Pf.expr_ap, Pf.kDrop_ap, Pf.ifS_ap, Pf.kIfS_t, Pf.kIfS_f, Pf.sub_ap, Pf.kSub1_ap, Pf.kSub2_ap, Pf.kSub3_ap, Pf.defW_ap, Pf.add_ii, Pf.add_tt, Pf.sub_ii, Pf.mul_lt, Pf.mul_rt, Pf.mod_ii, Pf.fdiv_ii, Pf.lt_ii, Pf.le_ii, Pf.gt_ii, Pf.ge_ii, Pf.bId_ap, Pf.eq_ap, Pf.ne_ap, Pf.kEq_some, Pf.dat_int, Pf.dat_bl, Pf.dat_non, Pf.dat_str, Pf.dat_tup, Pf.eqv_ii, Pf.eqv_ss, Pf.eqv_bb, Pf.kO_some, Pf.ix_t, Pf.kL_some, Pf.at_0, Pf.at_1, Pf.at_2, Pf.at_3, Pf.at_4, Pf.at_5, Pf.len_t, Pf.list_t, Pf.list_f, Pf.tuple_t, Pf.int_i, Pf.int_b, Pf.l_set0, Pf.l_setS, Pf.l_get0, Pf.l_getS, Pf.l_len0, Pf.l_lenS, Pf.l_app0, Pf.l_appS, Pf.l_map0, Pf.l_mapS, Pf.l_len_map, Pf.l_rep0, Pf.l_repS, Pf.start_ap, Pf.wipe_nil, Pf.wipe_cons, Pf.supd_same, Pf.supd_ne, Pf.supd_supd, Pf.o_map_some, Pf.ixN_0, Pf.ixN_1, Pf.ixN_2, Pf.ixN_3, Pf.for_ap, Pf.kFor_ap, Pf.iter_ap, Pf.kIter_t, Pf.rng1_ap, Pf.kRng1_ap, Pf.rng2_ap, Pf.kRng2_ap, Pf.rev_ap, Pf.kRev_t, Pf.kNew_ap, Pf.lc_ap, Pf.kLc_ap, Pf.yes_ap, Pf.bind_nm, Pf.bind_tp, Pf.bindL_nil, Pf.bindL_cons, Pf.kBL_ap, Pf.pat_ap, Pf.kPat_ap, Pf.aug_ap, Pf.kAugO_ap, Pf.kAug1_ap, Pf.iadd_ii, Pf.rng_len, Pf.isL_r, Pf.kIsL_some, Pf.ix_r, Pf.kIx_some, Pf.len_r, Pf.kLen_some, Pf.list_r, Pf.kList_some, Pf.tuple_r, Pf.kTuple_some, Pf.put_r, Pf.kPut_l, Pf.kPutO_some, Pf.append_r, Pf.kApp_l, Pf.pop0_r, Pf.kPop0_l, Pf.kIter_r, Pf.kRev_r, Pf.kIterO_some, Pf.id_ap, Pf.dat_r, Pf.kDatL_some, Pf.bind_tpr, Pf.kBindO_some, Pg.disp_ap, Pg.dictN_ap, Pg.zip_nil, Pg.zip_cons, Pg.dget_ap, Pg.kDg_d, Pg.look_if, Pg.is_bb, Pg.is_nn, Pg.is_in, Pg.is_sn, Pg.is_tn, Pg.is_rn, Pg.isnt_bb, Pg.isnt_nn, Pg.isnt_in, Pg.isnt_sn, Pg.isnt_tn, Pg.isnt_rn, Pg.fld_ap, Pg.kFld_ap, Pg.kFldO_i, Pg.meth_ap, Pg.kMeth_ap, Pg.kMethO_i, Pg.kMethA_ap, Pg.make_ap, Pg.sl_ap, Pg.kSl1_ap, Pg.kSl2_ap, Pg.kSl3_ap, Pg.pNo_ap, Pg.pYes_ap, Pg.kPart_ap, Pg.revL_ap, Pg.kRvL_ap, Pg.kRvO_some, String.reduceEq, Int.reduceEq, if_true, if_false, Nat.reduceEqDiff, decide_not, beq_self_eq_true, true_and, and_true, decide_true, decide_false, Int.reduceLT, Int.reduceLE, Int.reduceNeg, Int.reduceAdd, Int.reduceSub, Int.reduceMul, Int.reducePow, Nat.reduceAdd, Nat.reduceSub, Nat.reduceLT, Nat.reduceLeDiff, Int.reduceToNat, Bool.not_true, Bool.not_false]
    refine any_spec hl hq8 hpf1 hpf2 hpf5 (by omega) (by omega) (by omega) fun e2 q9 hq9 he2 => ?_
    simp (implicitDefEqProofs := false) (disch := first | assumption | omega | (simp only [Pf.l_lenS, Pf.l_len0] <;> omega)) only [Pf.kOpt_some, Pf.look_ap, Pf.lkO_l, Pf.lkO_r, Pf.var_ap, Pf.c_ap, Pf.op_ap, Pf.op1_ap, Pf.op2_ap, Pf.tst_ap, Pf.kB_ap, Pf.asB_ap, Pf.kTo_some, Pf.tru_ap, Pf.kTru_ap, Pf.truB_bl, Pf.truB_non, Pf.truB_int, Pf.truB_tup, Pf.andV_ap, Pf.kAndV_ap, Pf.kAndB_t, Pf.kAndB_f, Pf.orV_ap, Pf.kOrV_ap, Pf.kOrB_t, Pf.kOrB_f, Pf.notV_ap, Pf.kNotV_ap, Pf.kNotB_ap, Pf.and_ap, Pf.kAnd_t, Pf.kAnd_f, Pf.or_ap, Pf.kOr_t, Pf.kOr_f, Pf.not_ap, Pf.kNot_ap, Pf.if_ap, Pf.kIf_t, Pf.kIf_f, Pf.un_ap, Pf.kUn_ap, Pf.neg_ap, Pf.chain_ap, Pf.kCh1_ap, Pf.kCh2_ap, Pf.kCh3_t, Pf.kCh3_f, Pf.maNil_ap, Pf.maCons_ap, Pf.kArg_ap, Pf.kArg2_ap, Pf.tup_ap, Pf.kTup_ap, Pf.lst_ap, Pf.kLst_ap, Pf.call_ap, Pf.kCall_ap, Pf.cb_ap, Pf.kCB_ap, Pf.isi_ap, Pf.kIsi_ap, Pf.kIsi2_some, Pf.tyN_int, Pf.tyN_bl, Pf.tyN_non, Pf.tyN_str, Pf.tyN_tup, Pf.tyB_ii, Pf.tyB_ib, Pf.tyB_bi, Pf.tyB_bb, Pf.tyB_tt, Pf.bm_ap, Pf.kBM_ap, Pf.kBM2_ap, Pf.msNil_ap, Pf.seq_ap, Pf.nx_mk, Pf.rt_mk, Pf.bk_mk, Pf.ct_mk, Pf.ret_ap, Pf.retN_ap, Pf.brk_ap, Pf.cont_ap, Pf.set_ap, Pf.kSet_ap, Pf.expr_ap, Pf.kDrop_ap, Pf.ifS_ap, Pf.kIfS_t, Pf.kIfS_f, Pf.sub_ap, Pf.kSub1_ap, Pf.kSub2_ap, Pf.kSub3_ap, Pf.defW_ap, Pf.add_ii, Pf.add_tt, Pf.sub_ii, Pf.mul_lt, Pf.mul_rt, Pf.mod_ii, Pf.fdiv_ii, Pf.lt_ii, Pf.le_ii, Pf.gt_ii, Pf.ge_ii, Pf.bId_ap, Pf.eq_ap, Pf.ne_ap, Pf.kEq_some, Pf.dat_int, Pf.dat_bl, Pf.dat_non, Pf.dat_str, Pf.dat_tup, Pf.eqv_ii, Pf.eqv_ss, Pf.eqv_bb, Pf.kO_some, Pf.ix_t, Pf.kL_some, Pf.at_0, Pf.at_1, Pf.at_2, Pf.at_3, Pf.at_4, Pf.at_5, Pf.len_t, Pf.list_t, Pf.list_f, Pf.tuple_t, Pf.int_i, Pf.int_b, Pf.l_set0, Pf.l_setS, Pf.l_get0, Pf.l_getS, Pf.l_len0, Pf.l_lenS, Pf.l_app0, Pf.l_appS, Pf.l_map0, Pf.l_mapS, Pf.l_len_map, Pf.l_rep0, Pf.l_repS, Pf.start_ap, Pf.wipe_nil, Pf.wipe_cons, Pf.supd_same, Pf.supd_ne, Pf.supd_supd, Pf.o_map_some, Pf.ixN_0, Pf.ixN_1, Pf.ixN_2, Pf.ixN_3, Pf.for_ap, Pf.kFor_ap, Pf.iter_ap, Pf.kIter_t, Pf.rng1_ap, Pf.kRng1_ap, Pf.rng2_ap, Pf.kRng2_ap, Pf.rev_ap, Pf.kRev_t, Pf.kNew_ap, Pf.lc_ap, Pf.kLc_ap, Pf.yes_ap, Pf.bind_nm, Pf.bind_tp, Pf.bindL_nil, Pf.bindL_cons, Pf.kBL_ap, Pf.pat_ap, Pf.kPat_ap, Pf.aug_ap, Pf.kAugO_ap, Pf.kAug1_ap, Pf.iadd_ii, Pf.rng_len, Pf.isL_r, Pf.kIsL_some, Pf.ix_r, Pf.kIx_some, Pf.len_r, Pf.kLen_some, Pf.list_r, Pf.kList_some, Pf.tuple_r, Pf.kTuple_some, Pf.put_r, Pf.kPut_l, Pf.kPutO_some, Pf.append_r, Pf.kApp_l, Pf.pop0_r, Pf.kPop0_l, Pf.kIter_r, Pf.kRev_r, Pf.kIterO_some, Pf.id_ap, Pf.dat_r, Pf.kDatL_some, Pf.bind_tpr, Pf.kBindO_some, Pg.disp_ap, Pg.dictN_ap, Pg.zip_nil, Pg.zip_cons, Pg.dget_ap, Pg.kDg_d, Pg.look_if, Pg.is_bb, Pg.is_nn, Pg.is_in, Pg.is_sn, Pg.is_tn, Pg.is_rn, Pg.isnt_bb, Pg.isnt_nn, Pg.isnt_in, Pg.isnt_sn, Pg.isnt_tn, Pg.isnt_rn, Pg.fld_ap, Pg.kFld_ap, Pg.kFldO_i, Pg.meth_ap, Pg.kMeth_ap, Pg.kMethO_i, Pg.kMethA_ap, Pg.make_ap, Pg.sl_ap, Pg.kSl1_ap, Pg.kSl2_ap, Pg.kSl3_ap, Pg.pNo_ap, Pg.pYes_ap, Pg.kPart_ap, Pg.revL_ap, Pg.kRvL_ap, Pg.kRvO_some, String.reduceEq, Int.reduceEq, if_true, if_false, Nat.reduceEqDiff, decide_not, beq_self_eq_true, true_and, and_true, decide_true, decide_false, Int.reduceLT, Int.reduceLE, Int.reduceNeg, Int.reduceAdd, Int.reduceSub, Int.reduceMul, Int.reducePow, Nat.reduceAdd, Nat.reduceSub, Nat.reduceLT, Nat.reduceLeDiff, Int.reduceToNat, Bool.not_true, Bool.not_false]
    refine nx_spec hl hq9 (by omega) (by omega) fun eq q10 hq10 h10 h11 => ?_
    obtain ⟨w1, r1⟩ := he1 arg (got - 1)
    obtain ⟨w2, r2⟩ := he2 arg (got - 1)
    by_cases e : eq = 0
    · simp (implicitDefEqProofs := false) (disch := first | assumption | omega | (simp only [Pf.l_lenS, Pf.l_len0] <;> omega)) only [Pf.kOpt_some, Pf.look_ap, Pf.lkO_l, Pf.lkO_r, Pf.var_ap, Pf.c_ap, Pf.op_ap, Pf.op1_ap, Pf.op2_ap, Pf.tst_ap, Pf.kB_ap, Pf.asB_ap, Pf.kTo_some, Pf.tru_ap, Pf.kTru_ap, Pf.truB_bl, Pf.truB_non, Pf.truB_int, Pf.truB_tup, Pf.andV_ap, Pf.kAndV_ap, Pf.kAndB_t, Pf.kAndB_f, Pf.orV_ap, Pf.kOrV_ap, Pf.kOrB_t, Pf.kOrB_f, Pf.notV_ap, Pf.kNotV_ap, Pf.kNotB_ap, Pf.and_ap, Pf.kAnd_t, Pf.kAnd_f, Pf.or_ap, Pf.kOr_t, Pf.kOr_f, Pf.not_ap, Pf.kNot_ap, Pf.if_ap, Pf.kIf_t, Pf.kIf_f, Pf.un_ap, Pf.kUn_ap, Pf.neg_ap, Pf.chain_ap, Pf.kCh1_ap, Pf.kCh2_ap, Pf.kCh3_t, Pf.kCh3_f, Pf.maNil_ap, Pf.maCons_ap, Pf.kArg_ap, Pf.kArg2_ap, Pf.tup_ap, Pf.kTup_ap, Pf.lst_ap, Pf.kLst_ap, Pf.call_ap, Pf.kCall_ap, Pf.cb_ap, Pf.kCB_ap, Pf.isi_ap, Pf.kIsi_ap, Pf.kIsi2_some, Pf.tyN_int, Pf.tyN_bl, Pf.tyN_non, Pf.tyN_str, Pf.tyN_tup, Pf.tyB_ii, Pf.tyB_ib, Pf.tyB_bi, Pf.tyB_bb, Pf.tyB_tt, Pf.bm_ap, Pf.kBM_ap, Pf.kBM2_ap, Pf.msNil_ap, Pf.seq_ap, Pf.nx_mk, Pf.rt_mk, Pf.bk_mk, Pf.ct_mk, Pf.ret_ap, Pf.retN_ap, Pf.brk_ap, Pf.cont_ap, Pf.set_ap, Pf.kSet_ap, Pf.expr_ap, Pf.kDrop_ap, Pf.ifS_ap, Pf.kIfS_t, Pf.kIfS_f, Pf.sub_ap, Pf.kSub1_ap, Pf.kSub2_ap, Pf.kSub3_ap, Pf.defW_ap, Pf.add_ii, Pf.add_tt, Pf.sub_ii, Pf.mul_lt, Pf.mul_rt, Pf.mod_ii, Pf.fdiv_ii, Pf.lt_ii, Pf.le_ii, Pf.gt_ii, Pf.ge_ii, Pf.bId_ap, Pf.eq_ap, Pf.ne_ap, Pf.kEq_some, Pf.dat_int, Pf.dat_bl, Pf.dat_non, Pf.dat_str, Pf.dat_tup, Pf.eqv_ii, Pf.eqv_ss, Pf.eqv_bb, Pf.kO_some, Pf.ix_t, Pf.kL_some, Pf.at_0, Pf.at_1, Pf.at_2, Pf.at_3, Pf.at_4, Pf.at_5, Pf.len_t, Pf.list_t, Pf.list_f, Pf.tuple_t, Pf.int_i, Pf.int_b, Pf.l_set0, Pf.l_setS, Pf.l_get0, Pf.l_getS, Pf.l_len0, Pf.l_lenS, Pf.l_app0, Pf.l_appS, Pf.l_map0, Pf.l_mapS, Pf.l_len_map, Pf.l_rep0, Pf.l_repS, Pf.start_ap, Pf.wipe_nil, Pf.wipe_cons, Pf.supd_same, Pf.supd_ne, Pf.supd_supd, Pf.o_map_some, Pf.ixN_0, Pf.ixN_1, Pf.ixN_2, Pf.ixN_3, Pf.for_ap, Pf.kFor_ap, Pf.iter_ap, Pf.kIter_t, Pf.rng1_ap, Pf.kRng1_ap, Pf.rng2_ap, Pf.kRng2_ap, Pf.rev_ap, Pf.kRev_t, Pf.kNew_ap, Pf.lc_ap, Pf.kLc_ap, Pf.yes_ap, Pf.bind_nm, Pf.bind_tp, Pf.bindL_nil, Pf.bindL_cons, Pf.kBL_ap, Pf.pat_ap, Pf.kPat_ap, Pf.aug_ap, Pf.kAugO_ap, Pf.kAug1_ap, Pf.iadd_ii, Pf.rng_len, Pf.isL_r, Pf.kIsL_some, Pf.ix_r, Pf.kIx_some, Pf.len_r, Pf.kLen_some, Pf.list_r, Pf.kList_some, Pf.tuple_r, Pf.kTuple_some, Pf.put_r, Pf.kPut_l, Pf.kPutO_some, Pf.append_r, Pf.kApp_l, Pf.pop0_r, Pf.kPop0_l, Pf.kIter_r, Pf.kRev_r, Pf.kIterO_some, Pf.id_ap, Pf.dat_r, Pf.kDatL_some, Pf.bind_tpr, Pf.kBindO_some, Pg.disp_ap, Pg.dictN_ap, Pg.zip_nil, Pg.zip_cons, Pg.dget_ap, Pg.kDg_d, Pg.look_if, Pg.is_bb, Pg.is_nn, Pg.is_in, Pg.is_sn, Pg.is_tn, Pg.is_rn, Pg.isnt_bb, Pg.isnt_nn, Pg.isnt_in, Pg.isnt_sn, Pg.isnt_tn, Pg.isnt_rn, Pg.fld_ap, Pg.kFld_ap, Pg.kFldO_i, Pg.meth_ap, Pg.kMeth_ap, Pg.kMethO_i, Pg.kMethA_ap, Pg.make_ap, Pg.sl_ap, Pg.kSl1_ap, Pg.kSl2_ap, Pg.kSl3_ap, Pg.pNo_ap, Pg.pYes_ap, Pg.kPart_ap, Pg.revL_ap, Pg.kRvL_ap, Pg.kRvO_some, String.reduceEq, Int.reduceEq, if_true, if_false, Nat.reduceEqDiff, decide_not, beq_self_eq_true, true_and, and_true, decide_true, decide_false, Int.reduceLT, Int.reduceLE, Int.reduceNeg, Int.reduceAdd, Int.reduceSub, Int.reduceMul, Int.reducePow, Nat.reduceAdd, Nat.reduceSub, Nat.reduceLT, Nat.reduceLeDiff, Int.reduceToNat, Bool.not_true, Bool.not_false, e]
      refine new_spec hl fun pg S9 hpg1 hpg2 _ hpg hS9 => ?_
      have hpf9 := (hS9 _ _ hpf5).1
      simp (implicitDefEqProofs := false) (disch := first | assumption | omega | (simp only [Pf.l_lenS, Pf.l_len0] <;> omega)) only [Pf.kOpt_some, Pf.look_ap, Pf.lkO_l, Pf.lkO_r, Pf.var_ap, Pf.c_ap, Pf.op_ap, Pf.op1_ap, Pf.op2_ap, Pf.tst_ap, Pf.kB_ap, Pf.asB_ap, Pf.kTo_some, Pf.tru_ap, Pf.kTru_ap, Pf.truB_bl, Pf.truB_non, Pf.truB_int, Pf.truB_tup, Pf.andV_ap, Pf.kAndV_ap, Pf.kAndB_t, Pf.kAndB_f, Pf.orV_ap, Pf.kOrV_ap, Pf.kOrB_t, Pf.kOrB_f, Pf.notV_ap, Pf.kNotV_ap, Pf.kNotB_ap, Pf.and_ap, Pf.kAnd_t, Pf.kAnd_f, Pf.or_ap, Pf.kOr_t, Pf.kOr_f, Pf.not_ap, Pf.kNot_ap, Pf.if_ap, Pf.kIf_t, Pf.kIf_f, Pf.un_ap, Pf.kUn_ap, Pf.neg_ap, Pf.chain_ap, Pf.kCh1_ap, Pf.kCh2_ap, Pf.kCh3_t, Pf.kCh3_f, Pf.maNil_ap, Pf.maCons_ap, Pf.kArg_ap, Pf.kArg2_ap, Pf.tup_ap, Pf.kTup_ap, Pf.lst_ap, Pf.kLst_ap, Pf.call_ap, Pf.kCall_ap, Pf.cb_ap, Pf.kCB_ap, Pf.isi_ap, Pf.kIsi_ap, Pf.kIsi2_some, Pf.tyN_int, Pf.tyN_bl, Pf.tyN_non, Pf.tyN_str, Pf.tyN_tup, Pf.tyB_ii, Pf.tyB_ib, Pf.tyB_bi, Pf.tyB_bb, Pf.tyB_tt, Pf.bm_ap, Pf.kBM_ap, Pf.kBM2_ap, Pf.msNil_ap, Pf.seq_ap, Pf.nx_mk, Pf.rt_mk, Pf.bk_mk, Pf.ct_mk, Pf.ret_ap, Pf.retN_ap, Pf.brk_ap, Pf.cont_ap, Pf.set_ap, Pf.kSet_ap, Pf.expr_ap, Pf.kDrop_ap, Pf.ifS_ap, Pf.kIfS_t, Pf.kIfS_f, Pf.sub_ap, Pf.kSub1_ap, Pf.kSub2_ap, Pf.kSub3_ap, Pf.defW_ap, Pf.add_ii, Pf.add_tt, Pf.sub_ii, Pf.mul_lt, Pf.mul_rt, Pf.mod_ii, Pf.fdiv_ii, Pf.lt_ii, Pf.le_ii, Pf.gt_ii, Pf.ge_ii, Pf.bId_ap, Pf.eq_ap, Pf.ne_ap, Pf.kEq_some, Pf.dat_int, Pf.dat_bl, Pf.dat_non, Pf.dat_str, Pf.dat_tup, Pf.eqv_ii, Pf.eqv_ss, Pf.eqv_bb, Pf.kO_some, Pf.ix_t, Pf.kL_some, Pf.at_0, Pf.at_1, Pf.at_2, Pf.at_3, Pf.at_4, Pf.at_5, Pf.len_t, Pf.list_t, Pf.list_f, Pf.tuple_t, Pf.int_i, Pf.int_b, Pf.l_set0, Pf.l_setS, Pf.l_get0, Pf.l_getS, Pf.l_len0, Pf.l_lenS, Pf.l_app0, Pf.l_appS, Pf.l_map0, Pf.l_mapS, Pf.l_len_map, Pf.l_rep0, Pf.l_repS, Pf.start_ap, Pf.wipe_nil, Pf.wipe_cons, Pf.supd_same, Pf.supd_ne, Pf.supd_supd, Pf.o_map_some, Pf.ixN_0, Pf.ixN_1, Pf.ixN_2, Pf.ixN_3, Pf.for_ap, Pf.kFor_ap, Pf.iter_ap, Pf.kIter_t, Pf.rng1_ap, Pf.kRng1_ap, Pf.rng2_ap, Pf.kRng2_ap, Pf.rev_ap, Pf.kRev_t, Pf.kNew_ap, Pf.lc_ap, Pf.kLc_ap, Pf.yes_ap, Pf.bind_nm, Pf.bind_tp, Pf.bindL_nil, Pf.bindL_cons, Pf.kBL_ap, Pf.pat_ap, Pf.kPat_ap, Pf.aug_ap, Pf.kAugO_ap, Pf.kAug1_ap, Pf.iadd_ii, Pf.rng_len, Pf.isL_r, Pf.kIsL_some, Pf.ix_r, Pf.kIx_some, Pf.len_r, Pf.kLen_some, Pf.list_r, Pf.kList_some, Pf.tuple_r, Pf.kTuple_some, Pf.put_r, Pf.kPut_l, Pf.kPutO_some, Pf.append_r, Pf.kApp_l, Pf.pop0_r, Pf.kPop0_l, Pf.kIter_r, Pf.kRev_r, Pf.kIterO_some, Pf.id_ap, Pf.dat_r, Pf.kDatL_some, Pf.bind_tpr, Pf.kBindO_some, Pg.disp_ap, Pg.dictN_ap, Pg.zip_nil, Pg.zip_cons, Pg.dget_ap, Pg.kDg_d, Pg.look_if, Pg.is_bb, Pg.is_nn, Pg.is_in, Pg.is_sn, Pg.is_tn, Pg.is_rn, Pg.isnt_bb, Pg.isnt_nn, Pg.isnt_in, Pg.isnt_sn, Pg.isnt_tn, Pg.isnt_rn, Pg.fld_ap, Pg.kFld_ap, Pg.kFldO_i, Pg.meth_ap, Pg.kMeth_ap, Pg.kMethO_i, Pg.kMethA_ap, Pg.make_ap, Pg.sl_ap, Pg.kSl1_ap, Pg.kSl2_ap, Pg.kSl3_ap, Pg.pNo_ap, Pg.pYes_ap, Pg.kPart_ap, Pg.revL_ap, Pg.kRvL_ap, Pg.kRvO_some, String.reduceEq, Int.reduceEq, if_true, if_false, Nat.reduceEqDiff, decide_not, beq_self_eq_true, true_and, and_true, decide_true, decide_false, Int.reduceLT, Int.reduceLE, Int.reduceNeg, Int.reduceAdd, Int.reduceSub, Int.reduceMul, Int.reducePow, Nat.reduceAdd, Nat.reduceSub, Nat.reduceLT, Nat.reduceLeDiff, Int.reduceToNat, Bool.not_true, Bool.not_false, G_ne hpg1 hpg2, hpg]
      refine for_rule (I := fun i ρ S => ∃ S' x9 x10 x11 x12, ρ = [x0, some (.ref st), some v, some (.ref pf), some (.tup (ss.map .int)), some (.int arg), some (.int (got - 1)), some e1, some e1, x9, x10, x11, x12] ∧ S = G st l S' q10 ∧ S' pf = some (.lst (fs.map .int)) ∧ S' pg = some (.lst [.str "==", .str "!=", .str "<"])) ?keep ?step ?done ?init
      case keep =>
        rintro i ρ S ⟨S', x9, x10, x11, x12, rfl, rfl, e1, e2⟩
        exact keep_one (look_l (by rw [G_ne hpg1 hpg2]; exact e2))
      case init => exact ⟨_, _, _, _, _, rfl, rfl, hpf9, hpg⟩
      case done =>
        rintro ρ S ⟨S', x9, x10, x11, x12, rfl, rfl, e1, e2⟩
        simp (implicitDefEqProofs := false) (disch := first | assumption | omega | (simp only [Pf.l_lenS, Pf.l_len0] <;> omega)) only [Pf.kOpt_some, Pf.look_ap, Pf.lkO_l, Pf.lkO_r, Pf.var_ap, Pf.c_ap, Pf.op_ap, Pf.op1_ap, Pf.op2_ap, Pf.tst_ap, Pf.kB_ap, Pf.asB_ap, Pf.kTo_some, Pf.tru_ap, Pf.kTru_ap, Pf.truB_bl, Pf.truB_non, Pf.truB_int, Pf.truB_tup, Pf.andV_ap, Pf.kAndV_ap, Pf.kAndB_t, Pf.kAndB_f, Pf.orV_ap, Pf.kOrV_ap, Pf.kOrB_t, Pf.kOrB_f, Pf.notV_ap, Pf.kNotV_ap, Pf.kNotB_ap, Pf.and_ap, Pf.kAnd_t, Pf.kAnd_f, Pf.or_ap, Pf.kOr_t, Pf.kOr_f, Pf.not_ap, Pf.kNot_ap, Pf.if_ap, Pf.kIf_t, Pf.kIf_f, Pf.un_ap, Pf.kUn_ap, Pf.neg_ap, Pf.chain_ap, Pf.kCh1_ap, Pf.kCh2_ap, Pf.kCh3_t, Pf.kCh3_f, Pf.maNil_ap, Pf.maCons_ap, Pf.kArg_ap, Pf.kArg2_ap, Pf.tup_ap, Pf.kTup_ap, Pf.lst_ap, Pf.kLst_ap, Pf.call_ap, Pf.kCall_ap, Pf.cb_ap, Pf.kCB_ap, Pf.isi_ap, Pf.kIsi_ap, Pf.kIsi2_some, Pf.tyN_int, Pf.tyN_bl, Pf.tyN_non, Pf.tyN_str, Pf.tyN_tup, Pf.tyB_ii, Pf.tyB_ib, Pf.tyB_bi, Pf.tyB_bb, Pf.tyB_tt, Pf.bm_ap, Pf.kBM_ap, Pf.kBM2_ap, Pf.msNil_ap, Pf.seq_ap, Pf.nx_mk, Pf.rt_mk, Pf.bk_mk, Pf.ct_mk, Pf.ret_ap, Pf.retN_ap, Pf.brk_ap, Pf.cont_ap, Pf.set_ap, Pf.kSet_ap, Pf.expr_ap, Pf.kDrop_ap, Pf.ifS_ap, Pf.kIfS_t, Pf.kIfS_f, Pf.sub_ap, Pf.kSub1_ap, Pf.kSub2_ap, Pf.kSub3_ap, Pf.defW_ap, Pf.add_ii, Pf.add_tt, Pf.sub_ii, Pf.mul_lt, Pf.mul_rt, Pf.mod_ii, Pf.fdiv_ii, Pf.lt_ii, Pf.le_ii, Pf.gt_ii, Pf.ge_ii, Pf.bId_ap, Pf.eq_ap, Pf.ne_ap, Pf.kEq_some, Pf.dat_int, Pf.dat_bl, Pf.dat_non, Pf.dat_str, Pf.dat_tup, Pf.eqv_ii, Pf.eqv_ss, Pf.eqv_bb, Pf.kO_some, Pf.ix_t, Pf.kL_some, Pf.at_0, Pf.at_1, Pf.at_2, Pf.at_3, Pf.at_4, Pf.at_5, Pf.len_t, Pf.list_t, Pf.list_f, Pf.tuple_t, Pf.int_i, Pf.int_b, Pf.l_set0, Pf.l_setS, Pf.l_get0, Pf.l_getS, Pf.l_len0, Pf.l_lenS, Pf.l_app0, Pf.l_appS, Pf.l_map0, Pf.l_mapS, Pf.l_len_map, Pf.l_rep0, Pf.l_repS, Pf.start_ap, Pf.wipe_nil, Pf.wipe_cons, Pf.supd_same, Pf.supd_ne, Pf.supd_supd, Pf.o_map_some, Pf.ixN_0, Pf.ixN_1, Pf.ixN_2, Pf.ixN_3, Pf.for_ap, Pf.kFor_ap, Pf.iter_ap, Pf.kIter_t, Pf.rng1_ap, Pf.kRng1_ap, Pf.rng2_ap, Pf.kRng2_ap, Pf.rev_ap, Pf.kRev_t, Pf.kNew_ap, Pf.lc_ap, Pf.kLc_ap, Pf.yes_ap, Pf.bind_nm, Pf.bind_tp, Pf.bindL_nil, Pf.bindL_cons, Pf.kBL_ap, Pf.pat_ap, Pf.kPat_ap, Pf.aug_ap, Pf.kAugO_ap, Pf.kAug1_ap, Pf.iadd_ii, Pf.rng_len, Pf.isL_r, Pf.kIsL_some, Pf.ix_r, Pf.kIx_some, Pf.len_r, Pf.kLen_some, Pf.list_r, Pf.kList_some, Pf.tuple_r, Pf.kTuple_some, Pf.put_r, Pf.kPut_l, Pf.kPutO_some, Pf.append_r, Pf.kApp_l, Pf.pop0_r, Pf.kPop0_l, Pf.kIter_r, Pf.kRev_r, Pf.kIterO_some, Pf.id_ap, Pf.dat_r, Pf.kDatL_some, Pf.bind_tpr, Pf.kBindO_some, Pg.disp_ap, Pg.dictN_ap, Pg.zip_nil, Pg.zip_cons, Pg.dget_ap, Pg.kDg_d, Pg.look_if, Pg.is_bb, Pg.is_nn, Pg.is_in, Pg.is_sn, Pg.is_tn, Pg.is_rn, Pg.isnt_bb, Pg.isnt_nn, Pg.isnt_in, Pg.isnt_sn, Pg.isnt_tn, Pg.isnt_rn, Pg.fld_ap, Pg.kFld_ap, Pg.kFldO_i, Pg.meth_ap, Pg.kMeth_ap, Pg.kMethO_i, Pg.kMethA_ap, Pg.make_ap, Pg.sl_ap, Pg.kSl1_ap, Pg.kSl2_ap, Pg.kSl3_ap, Pg.pNo_ap, Pg.pYes_ap, Pg.kPart_ap, Pg.revL_ap, Pg.kRvL_ap, Pg.kRvO_some, String.reduceEq, Int.reduceEq, if_true, if_false, Nat.reduceEqDiff, decide_not, beq_self_eq_true, true_and, and_true, decide_true, decide_false, Int.reduceLT, Int.reduceLE, Int.reduceNeg, Int.reduceAdd, Int.reduceSub, Int.reduceMul, Int.reducePow, Nat.reduceAdd, Nat.reduceSub, Nat.reduceLT, Nat.reduceLeDiff, Int.reduceToNat, Bool.not_true, Bool.not_false]
        refine holds_non ?_
        simp (implicitDefEqProofs := false) (disch := first | assumption | omega | (simp only [Pf.l_lenS, Pf.l_len0] <;> omega)) only [Pf.kOpt_some, Pf.look_ap, Pf.lkO_l, Pf.lkO_r, Pf.var_ap, Pf.c_ap, Pf.op_ap, Pf.op1_ap, Pf.op2_ap, Pf.tst_ap, Pf.kB_ap, Pf.asB_ap, Pf.kTo_some, Pf.tru_ap, Pf.kTru_ap, Pf.truB_bl, Pf.truB_non, Pf.truB_int, Pf.truB_tup, Pf.andV_ap, Pf.kAndV_ap, Pf.kAndB_t, Pf.kAndB_f, Pf.orV_ap, Pf.kOrV_ap, Pf.kOrB_t, Pf.kOrB_f, Pf.notV_ap, Pf.kNotV_ap, Pf.kNotB_ap, Pf.and_ap, Pf.kAnd_t, Pf.kAnd_f, Pf.or_ap, Pf.kOr_t, Pf.kOr_f, Pf.not_ap, Pf.kNot_ap, Pf.if_ap, Pf.kIf_t, Pf.kIf_f, Pf.un_ap, Pf.kUn_ap, Pf.neg_ap, Pf.chain_ap, Pf.kCh1_ap, Pf.kCh2_ap, Pf.kCh3_t, Pf.kCh3_f, Pf.maNil_ap, Pf.maCons_ap, Pf.kArg_ap, Pf.kArg2_ap, Pf.tup_ap, Pf.kTup_ap, Pf.lst_ap, Pf.kLst_ap, Pf.call_ap, Pf.kCall_ap, Pf.cb_ap, Pf.kCB_ap, Pf.isi_ap, Pf.kIsi_ap, Pf.kIsi2_some, Pf.tyN_int, Pf.tyN_bl, Pf.tyN_non, Pf.tyN_str, Pf.tyN_tup, Pf.tyB_ii, Pf.tyB_ib, Pf.tyB_bi, Pf.tyB_bb, Pf.tyB_tt, Pf.bm_ap, Pf.kBM_ap, Pf.kBM2_ap, Pf.msNil_ap, Pf.seq_ap, Pf.nx_mk, Pf.rt_mk, Pf.bk_mk, Pf.ct_mk, Pf.ret_ap, Pf.retN_ap, Pf.brk_ap, Pf.cont_ap, Pf.set_ap, Pf.kSet_ap, Pf.expr_ap, Pf.kDrop_ap, Pf.ifS_ap, Pf.kIfS_t, Pf.kIfS_f, Pf.sub_ap, Pf.kSub1_ap, Pf.kSub2_ap, Pf.kSub3_ap, Pf.defW_ap, Pf.add_ii, Pf.add_tt, Pf.sub_ii, Pf.mul_lt, Pf.mul_rt, Pf.mod_ii, Pf.fdiv_ii, Pf.lt_ii, Pf.le_ii, Pf.gt_ii, Pf.ge_ii, Pf.bId_ap, Pf.eq_ap, Pf.ne_ap, Pf.kEq_some, Pf.dat_int, Pf.dat_bl, Pf.dat_non, Pf.dat_str, Pf.dat_tup, Pf.eqv_ii, Pf.eqv_ss, Pf.eqv_bb, Pf.kO_some, Pf.ix_t, Pf.kL_some, Pf.at_0, Pf.at_1, Pf.at_2, Pf.at_3, Pf.at_4, Pf.at_5, Pf.len_t, Pf.list_t, Pf.list_f, Pf.tuple_t, Pf.int_i, Pf.int_b, Pf.l_set0, Pf.l_setS, Pf.l_get0, Pf.l_getS, Pf.l_len0, Pf.l_lenS, Pf.l_app0, Pf.l_appS, Pf.l_map0, Pf.l_mapS, Pf.l_len_map, Pf.l_rep0, Pf.l_repS, Pf.start_ap, Pf.wipe_nil, Pf.wipe_cons, Pf.supd_same, Pf.supd_ne, Pf.supd_supd, Pf.o_map_some, Pf.ixN_0, Pf.ixN_1, Pf.ixN_2, Pf.ixN_3, Pf.for_ap, Pf.kFor_ap, Pf.iter_ap, Pf.kIter_t, Pf.rng1_ap, Pf.kRng1_ap, Pf.rng2_ap, Pf.kRng2_ap, Pf.rev_ap, Pf.kRev_t, Pf.kNew_ap, Pf.lc_ap, Pf.kLc_ap, Pf.yes_ap, Pf.bind_nm, Pf.bind_tp, Pf.bindL_nil, Pf.bindL_cons, Pf.kBL_ap, Pf.pat_ap, Pf.kPat_ap, Pf.aug_ap, Pf.kAugO_ap, Pf.kAug1_ap, Pf.iadd_ii, Pf.rng_len, Pf.isL_r, Pf.kIsL_some, Pf.ix_r, Pf.kIx_some, Pf.len_r, Pf.kLen_some, Pf.list_r, Pf.kList_some, Pf.tuple_r, Pf.kTuple_some, Pf.put_r, Pf.kPut_l, Pf.kPutO_some, Pf.append_r, Pf.kApp_l, Pf.pop0_r, Pf.kPop0_l, Pf.kIter_r, Pf.kRev_r, Pf.kIterO_some, Pf.id_ap, Pf.dat_r, Pf.kDatL_some, Pf.bind_tpr, Pf.kBindO_some, Pg.disp_ap, Pg.dictN_ap, Pg.zip_nil, Pg.zip_cons, Pg.dget_ap, Pg.kDg_d, Pg.look_if, Pg.is_bb, Pg.is_nn, Pg.is_in, Pg.is_sn, Pg.is_tn, Pg.is_rn, Pg.isnt_bb, Pg.isnt_nn, Pg.isnt_in, Pg.isnt_sn, Pg.isnt_tn, Pg.isnt_rn, Pg.fld_ap, Pg.kFld_ap, Pg.kFldO_i, Pg.meth_ap, Pg.kMeth_ap, Pg.kMethO_i, Pg.kMethA_ap, Pg.make_ap, Pg.sl_ap, Pg.kSl1_ap, Pg.kSl2_ap, Pg.kSl3_ap, Pg.pNo_ap, Pg.pYes_ap, Pg.kPart_ap, Pg.revL_ap, Pg.kRvL_ap, Pg.kRvO_some, String.reduceEq, Int.reduceEq, if_true, if_false, Nat.reduceEqDiff, decide_not, beq_self_eq_true, true_and, and_true, decide_true, decide_false, Int.reduceLT, Int.reduceLE, Int.reduceNeg, Int.reduceAdd, Int.reduceSub, Int.reduceMul, Int.reducePow, Nat.reduceAdd, Nat.reduceSub, Nat.reduceLT, Nat.reduceLeDiff, Int.reduceToNat, Bool.not_true, Bool.not_false]
        exact hnx _ _ ⟨_, _, _, _, _, _, _, _, _, _, _, _, _, _, rfl, rfl, hq10⟩
      case step =>
        rintro j vj ρ S E hvj ⟨S', x9, x10, x11, x12, rfl, rfl, g1, g2⟩ hnx2 _ _ _
        obtain ⟨s, rfl, hs⟩ : ∃ s, vj = .str s ∧ (s = "==" ∨ s = "!=" ∨ s = "<") := by
          have := List.mem_of_getElem? hvj
          rcases this with _ | ⟨_, _ | ⟨_, _ | ⟨_, h⟩⟩⟩
          · exact ⟨_, rfl, .inl rfl⟩
          · exact ⟨_, rfl, .inr (.inl rfl)⟩
          · exact ⟨_, rfl, .inr (.inr rfl)⟩
          · cases h
        simp (implicitDefEqProofs := false) (disch := first | assumption | omega | (simp only [Pf.l_lenS, Pf.l_len0] <;> omega)) only [Pf.kOpt_some, Pf.look_ap, Pf.lkO_l, Pf.lkO_r, Pf.var_ap, Pf.c_ap, Pf.op_ap, Pf.op1_ap, Pf.op2_ap, Pf.tst_ap, Pf.kB_ap, Pf.asB_ap, Pf.kTo_some, Pf.tru_ap, Pf.kTru_ap, Pf.truB_bl, Pf.truB_non, Pf.truB_int, Pf.truB_tup, Pf.andV_ap, Pf.kAndV_ap, Pf.kAndB_t, Pf.kAndB_f, Pf.orV_ap, Pf.kOrV_ap, Pf.kOrB_t, Pf.kOrB_f, Pf.notV_ap, Pf.kNotV_ap, Pf.kNotB_ap, Pf.and_ap, Pf.kAnd_t, Pf.kAnd_f, Pf.or_ap, Pf.kOr_t, Pf.kOr_f, Pf.not_ap, Pf.kNot_ap, Pf.if_ap, Pf.kIf_t, Pf.kIf_f, Pf.un_ap, Pf.kUn_ap, Pf.neg_ap, Pf.chain_ap, Pf.kCh1_ap, Pf.kCh2_ap, Pf.kCh3_t, Pf.kCh3_f, Pf.maNil_ap, Pf.maCons_ap, Pf.kArg_ap, Pf.kArg2_ap, Pf.tup_ap, Pf.kTup_ap, Pf.lst_ap, Pf.kLst_ap, Pf.call_ap, Pf.kCall_ap, Pf.cb_ap, Pf.kCB_ap, Pf.isi_ap, Pf.kIsi_ap, Pf.kIsi2_some, Pf.tyN_int, Pf.tyN_bl, Pf.tyN_non, Pf.tyN_str, Pf.tyN_tup, Pf.tyB_ii, Pf.tyB_ib, Pf.tyB_bi, Pf.tyB_bb, Pf.tyB_tt, Pf.bm_ap, Pf.kBM_ap, Pf.kBM2_ap, Pf.msNil_ap, Pf.seq_ap, Pf.nx_mk, Pf.rt_mk, Pf.bk_mk, Pf.ct_mk, Pf.ret_ap, Pf.retN_ap, Pf.brk_ap, Pf.cont_ap, Pf.set_ap, Pf.kSet_ap, Pf.expr_ap, Pf.kDrop_ap, Pf.ifS_ap, Pf.kIfS_t, Pf.kIfS_f, Pf.sub_ap, Pf.kSub1_ap, Pf.kSub2_ap, Pf.kSub3_ap, Pf.defW_ap, Pf.add_ii, Pf.add_tt, Pf.sub_ii, Pf.mul_lt, Pf.mul_rt, Pf.mod_ii, Pf.fdiv_ii, Pf.lt_ii, Pf.le_ii, Pf.gt_ii, Pf.ge_ii, Pf.bId_ap, Pf.eq_ap, Pf.ne_ap, Pf.kEq_some, Pf.dat_int, Pf.dat_bl, Pf.dat_non, Pf.dat_str, Pf.dat_tup, Pf.eqv_ii, Pf.eqv_ss, Pf.eqv_bb, Pf.kO_some, Pf.ix_t, Pf.kL_some, Pf.at_0, Pf.at_1, Pf.at_2, Pf.at_3, Pf.at_4, Pf.at_5, Pf.len_t, Pf.list_t, Pf.list_f, Pf.tuple_t, Pf.int_i, Pf.int_b, Pf.l_set0, Pf.l_setS, Pf.l_get0, Pf.l_getS, Pf.l_len0, Pf.l_lenS, Pf.l_app0, Pf.l_appS, Pf.l_map0, Pf.l_mapS, Pf.l_len_map, Pf.l_rep0, Pf.l_repS, Pf.start_ap, Pf.wipe_nil, Pf.wipe_cons, Pf.supd_same, Pf.supd_ne, Pf.supd_supd, Pf.o_map_some, Pf.ixN_0, Pf.ixN_1, Pf.ixN_2, Pf.ixN_3, Pf.for_ap, Pf.kFor_ap, Pf.iter_ap, Pf.kIter_t, Pf.rng1_ap, Pf.kRng1_ap, Pf.rng2_ap, Pf.kRng2_ap, Pf.rev_ap, Pf.kRev_t, Pf.kNew_ap, Pf.lc_ap, Pf.kLc_ap, Pf.yes_ap, Pf.bind_nm, Pf.bind_tp, Pf.bindL_nil, Pf.bindL_cons, Pf.kBL_ap, Pf.pat_ap, Pf.kPat_ap, Pf.aug_ap, Pf.kAugO_ap, Pf.kAug1_ap, Pf.iadd_ii, Pf.rng_len, Pf.isL_r, Pf.kIsL_some, Pf.ix_r, Pf.kIx_some, Pf.len_r, Pf.kLen_some, Pf.list_r, Pf.kList_some, Pf.tuple_r, Pf.kTuple_some, Pf.put_r, Pf.kPut_l, Pf.kPutO_some, Pf.append_r, Pf.kApp_l, Pf.pop0_r, Pf.kPop0_l, Pf.kIter_r, Pf.kRev_r, Pf.kIterO_some, Pf.id_ap, Pf.dat_r, Pf.kDatL_some, Pf.bind_tpr, Pf.kBindO_some, Pg.disp_ap, Pg.dictN_ap, Pg.zip_nil, Pg.zip_cons, Pg.dget_ap, Pg.kDg_d, Pg.look_if, Pg.is_bb, Pg.is_nn, Pg.is_in, Pg.is_sn, Pg.is_tn, Pg.is_rn, Pg.isnt_bb, Pg.isnt_nn, Pg.isnt_in, Pg.isnt_sn, Pg.isnt_tn, Pg.isnt_rn, Pg.fld_ap, Pg.kFld_ap, Pg.kFldO_i, Pg.meth_ap, Pg.kMeth_ap, Pg.kMethO_i, Pg.kMethA_ap, Pg.make_ap, Pg.sl_ap, Pg.kSl1_ap, Pg.kSl2_ap, Pg.kSl3_ap, Pg.pNo_ap, Pg.pYes_ap, Pg.kPart_ap, Pg.revL_ap, Pg.kRvL_ap, Pg.kRvO_some, String.reduceEq, Int.reduceEq, if_true, if_false, Nat.reduceEqDiff, decide_not, beq_self_eq_true, true_and, and_true, decide_true, decide_false, Int.reduceLT, Int.reduceLE, Int.reduceNeg, Int.reduceAdd, Int.reduceSub, Int.reduceMul, Int.reducePow, Nat.reduceAdd, Nat.reduceSub, Nat.reduceLT, Nat.reduceLeDiff, Int.reduceToNat, Bool.not_true, Bool.not_false, G_ne hpf1 hpf2, g1]
        refine new_spec hl fun pc Sc hpc1 hpc2 _ hpc hSc => ?_
        have g1' := (hSc _ _ g1).1
        have g2' := (hSc _ _ g2).1
        simp (implicitDefEqProofs := false) (disch := first | assumption | omega | (simp only [Pf.l_lenS, Pf.l_len0] <;> omega)) only [Pf.kOpt_some, Pf.look_ap, Pf.lkO_l, Pf.lkO_r, Pf.var_ap, Pf.c_ap, Pf.op_ap, Pf.op1_ap, Pf.op2_ap, Pf.tst_ap, Pf.kB_ap, Pf.asB_ap, Pf.kTo_some, Pf.tru_ap, Pf.kTru_ap, Pf.truB_bl, Pf.truB_non, Pf.truB_int, Pf.truB_tup, Pf.andV_ap, Pf.kAndV_ap, Pf.kAndB_t, Pf.kAndB_f, Pf.orV_ap, Pf.kOrV_ap, Pf.kOrB_t, Pf.kOrB_f, Pf.notV_ap, Pf.kNotV_ap, Pf.kNotB_ap, Pf.and_ap, Pf.kAnd_t, Pf.kAnd_f, Pf.or_ap, Pf.kOr_t, Pf.kOr_f, Pf.not_ap, Pf.kNot_ap, Pf.if_ap, Pf.kIf_t, Pf.kIf_f, Pf.un_ap, Pf.kUn_ap, Pf.neg_ap, Pf.chain_ap, Pf.kCh1_ap, Pf.kCh2_ap, Pf.kCh3_t, Pf.kCh3_f, Pf.maNil_ap, Pf.maCons_ap, Pf.kArg_ap, Pf.kArg2_ap, Pf.tup_ap, Pf.kTup_ap, Pf.lst_ap, Pf.kLst_ap, Pf.call_ap, Pf.kCall_ap, Pf.cb_ap, Pf.kCB_ap, Pf.isi_ap, Pf.kIsi_ap, Pf.kIsi2_some, Pf.tyN_int, Pf.tyN_bl, Pf.tyN_non, Pf.tyN_str, Pf.tyN_tup, Pf.tyB_ii, Pf.tyB_ib, Pf.tyB_bi, Pf.tyB_bb, Pf.tyB_tt, Pf.bm_ap, Pf.kBM_ap, Pf.kBM2_ap, Pf.msNil_ap, Pf.seq_ap, Pf.nx_mk, Pf.rt_mk, Pf.bk_mk, Pf.ct_mk, Pf.ret_ap, Pf.retN_ap, Pf.brk_ap, Pf.cont_ap, Pf.set_ap, Pf.kSet_ap, Pf.expr_ap, Pf.kDrop_ap, Pf.ifS_ap, Pf.kIfS_t, Pf.kIfS_f, Pf.sub_ap, Pf.kSub1_ap, Pf.kSub2_ap, Pf.kSub3_ap, Pf.defW_ap, Pf.add_ii, Pf.add_tt, Pf.sub_ii, Pf.mul_lt, Pf.mul_rt, Pf.mod_ii, Pf.fdiv_ii, Pf.lt_ii, Pf.le_ii, Pf.gt_ii, Pf.ge_ii, Pf.bId_ap, Pf.eq_ap, Pf.ne_ap, Pf.kEq_some, Pf.dat_int, Pf.dat_bl, Pf.dat_non, Pf.dat_str, Pf.dat_tup, Pf.eqv_ii, Pf.eqv_ss, Pf.eqv_bb, Pf.kO_some, Pf.ix_t, Pf.kL_some, Pf.at_0, Pf.at_1, Pf.at_2, Pf.at_3, Pf.at_4, Pf.at_5, Pf.len_t, Pf.list_t, Pf.list_f, Pf.tuple_t, Pf.int_i, Pf.int_b, Pf.l_set0, Pf.l_setS, Pf.l_get0, Pf.l_getS, Pf.l_len0, Pf.l_lenS, Pf.l_app0, Pf.l_appS, Pf.l_map0, Pf.l_mapS, Pf.l_len_map, Pf.l_rep0, Pf.l_repS, Pf.start_ap, Pf.wipe_nil, Pf.wipe_cons, Pf.supd_same, Pf.supd_ne, Pf.supd_supd, Pf.o_map_some, Pf.ixN_0, Pf.ixN_1, Pf.ixN_2, Pf.ixN_3, Pf.for_ap, Pf.kFor_ap, Pf.iter_ap, Pf.kIter_t, Pf.rng1_ap, Pf.kRng1_ap, Pf.rng2_ap, Pf.kRng2_ap, Pf.rev_ap, Pf.kRev_t, Pf.kNew_ap, Pf.lc_ap, Pf.kLc_ap, Pf.yes_ap, Pf.bind_nm, Pf.bind_tp, Pf.bindL_nil, Pf.bindL_cons, Pf.kBL_ap, Pf.pat_ap, Pf.kPat_ap, Pf.aug_ap, Pf.kAugO_ap, Pf.kAug1_ap, Pf.iadd_ii, Pf.rng_len, Pf.isL_r, Pf.kIsL_some, Pf.ix_r, Pf.kIx_some, Pf.len_r, Pf.kLen_some, Pf.list_r, Pf.kList_some, Pf.tuple_r, Pf.kTuple_some, Pf.put_r, Pf.kPut_l, Pf.kPutO_some, Pf.append_r, Pf.kApp_l, Pf.pop0_r, Pf.kPop0_l, Pf.kIter_r, Pf.kRev_r, Pf.kIterO_some, Pf.id_ap, Pf.dat_r, Pf.kDatL_some, Pf.bind_tpr, Pf.kBindO_some, Pg.disp_ap, Pg.dictN_ap, Pg.zip_nil, Pg.zip_cons, Pg.dget_ap, Pg.kDg_d, Pg.look_if, Pg.is_bb, Pg.is_nn, Pg.is_in, Pg.is_sn, Pg.is_tn, Pg.is_rn, Pg.isnt_bb, Pg.isnt_nn, Pg.isnt_in, Pg.isnt_sn, Pg.isnt_tn, Pg.isnt_rn, Pg.fld_ap, Pg.kFld_ap, Pg.kFldO_i, Pg.meth_ap, Pg.kMeth_ap, Pg.kMethO_i, Pg.kMethA_ap, Pg.make_ap, Pg.sl_ap, Pg.kSl1_ap, Pg.kSl2_ap, Pg.kSl3_ap, Pg.pNo_ap, Pg.pYes_ap, Pg.kPart_ap, Pg.revL_ap, Pg.kRvL_ap, Pg.kRvO_some, String.reduceEq, Int.reduceEq, if_true, if_false, Nat.reduceEqDiff, decide_not, beq_self_eq_true, true_and, and_true, decide_true, decide_false, Int.reduceLT, Int.reduceLE, Int.reduceNeg, Int.reduceAdd, Int.reduceSub, Int.reduceMul, Int.reducePow, Nat.reduceAdd, Nat.reduceSub, Nat.reduceLT, Nat.reduceLeDiff, Int.reduceToNat, Bool.not_true, Bool.not_false]
        refine holds_spec hs r1 r1 (.inr ⟨pc, rfl, by rw [G_ne hpc1 hpc2]; exact hpc⟩) ?_
        simp (implicitDefEqProofs := false) (disch := first | assumption | omega | (simp only [Pf.l_lenS, Pf.l_len0] <;> omega)) only [Pf.kOpt_some, Pf.look_ap, Pf.lkO_l, Pf.lkO_r, Pf.var_ap, Pf.c_ap, Pf.op_ap, Pf.op1_ap, Pf.op2_ap, Pf.tst_ap, Pf.kB_ap, Pf.asB_ap, Pf.kTo_some, Pf.tru_ap, Pf.kTru_ap, Pf.truB_bl, Pf.truB_non, Pf.truB_int, Pf.truB_tup, Pf.andV_ap, Pf.kAndV_ap, Pf.kAndB_t, Pf.kAndB_f, Pf.orV_ap, Pf.kOrV_ap, Pf.kOrB_t, Pf.kOrB_f, Pf.notV_ap, Pf.kNotV_ap, Pf.kNotB_ap, Pf.and_ap, Pf.kAnd_t, Pf.kAnd_f, Pf.or_ap, Pf.kOr_t, Pf.kOr_f, Pf.not_ap, Pf.kNot_ap, Pf.if_ap, Pf.kIf_t, Pf.kIf_f, Pf.un_ap, Pf.kUn_ap, Pf.neg_ap, Pf.chain_ap, Pf.kCh1_ap, Pf.kCh2_ap, Pf.kCh3_t, Pf.kCh3_f, Pf.maNil_ap, Pf.maCons_ap, Pf.kArg_ap, Pf.kArg2_ap, Pf.tup_ap, Pf.kTup_ap, Pf.lst_ap, Pf.kLst_ap, Pf.call_ap, Pf.kCall_ap, Pf.cb_ap, Pf.kCB_ap, Pf.isi_ap, Pf.kIsi_ap, Pf.kIsi2_some, Pf.tyN_int, Pf.tyN_bl, Pf.tyN_non, Pf.tyN_str, Pf.tyN_tup, Pf.tyB_ii, Pf.tyB_ib, Pf.tyB_bi, Pf.tyB_bb, Pf.tyB_tt, Pf.bm_ap, Pf.kBM_ap, Pf.kBM2_ap, Pf.msNil_ap, Pf.seq_ap, Pf.nx_mk, Pf.rt_mk, Pf.bk_mk, Pf.ct_mk, Pf.ret_ap, Pf.retN_ap, Pf.brk_ap, Pf.cont_ap, Pf.set_ap, Pf.kSet_ap, Pf.expr_ap, Pf.kDrop_ap, Pf.ifS_ap, Pf.kIfS_t, Pf.kIfS_f, Pf.sub_ap, Pf.kSub1_ap, Pf.kSub2_ap, Pf.kSub3_ap, Pf.defW_ap, Pf.add_ii, Pf.add_tt, Pf.sub_ii, Pf.mul_lt, Pf.mul_rt, Pf.mod_ii, Pf.fdiv_ii, Pf.lt_ii, Pf.le_ii, Pf.gt_ii, Pf.ge_ii, Pf.bId_ap, Pf.eq_ap, Pf.ne_ap, Pf.kEq_some, Pf.dat_int, Pf.dat_bl, Pf.dat_non, Pf.dat_str, Pf.dat_tup, Pf.eqv_ii, Pf.eqv_ss, Pf.eqv_bb, Pf.kO_some, Pf.ix_t, Pf.kL_some, Pf.at_0, Pf.at_1, Pf.at_2, Pf.at_3, Pf.at_4, Pf.at_5, Pf.len_t, Pf.list_t, Pf.list_f, Pf.tuple_t, Pf.int_i, Pf.int_b, Pf.l_set0, Pf.l_setS, Pf.l_get0, Pf.l_getS, Pf.l_len0, Pf.l_lenS, Pf.l_app0, Pf.l_appS, Pf.l_map0, Pf.l_mapS, Pf.l_len_map, Pf.l_rep0, Pf.l_repS, Pf.start_ap, Pf.wipe_nil, Pf.wipe_cons, Pf.supd_same, Pf.supd_ne, Pf.supd_supd, Pf.o_map_some, Pf.ixN_0, Pf.ixN_1, Pf.ixN_2, Pf.ixN_3, Pf.for_ap, Pf.kFor_ap, Pf.iter_ap, Pf.kIter_t, Pf.rng1_ap, Pf.kRng1_ap, Pf.rng2_ap, Pf.kRng2_ap, Pf.rev_ap, Pf.kRev_t, Pf.kNew_ap, Pf.lc_ap, Pf.kLc_ap, Pf.yes_ap, Pf.bind_nm, Pf.bind_tp, Pf.bindL_nil, Pf.bindL_cons, Pf.kBL_ap, Pf.pat_ap, Pf.kPat_ap, Pf.aug_ap, Pf.kAugO_ap, Pf.kAug1_ap, Pf.iadd_ii, Pf.rng_len, Pf.isL_r, Pf.kIsL_some, Pf.ix_r, Pf.kIx_some, Pf.len_r, Pf.kLen_some, Pf.list_r, Pf.kList_some, Pf.tuple_r, Pf.kTuple_some, Pf.put_r, Pf.kPut_l, Pf.kPutO_some, Pf.append_r, Pf.kApp_l, Pf.pop0_r, Pf.kPop0_l, Pf.kIter_r, Pf.kRev_r, Pf.kIterO_some, Pf.id_ap, Pf.dat_r, Pf.kDatL_some, Pf.bind_tpr, Pf.kBindO_some, Pg.disp_ap, Pg.dictN_ap, Pg.zip_nil, Pg.zip_cons, Pg.dget_ap, Pg.kDg_d, Pg.look_if, Pg.is_bb, Pg.is_nn, Pg.is_in, Pg.is_sn, Pg.is_tn, Pg.is_rn, Pg.isnt_bb, Pg.isnt_nn, Pg.isnt_in, Pg.isnt_sn, Pg.isnt_tn, Pg.isnt_rn, Pg.fld_ap, Pg.kFld_ap, Pg.kFldO_i, Pg.meth_ap, Pg.kMeth_ap, Pg.kMethO_i, Pg.kMethA_ap, Pg.make_ap, Pg.sl_ap, Pg.kSl1_ap, Pg.kSl2_ap, Pg.kSl3_ap, Pg.pNo_ap, Pg.pYes_ap, Pg.kPart_ap, Pg.revL_ap, Pg.kRvL_ap, Pg.kRvO_some, String.reduceEq, Int.reduceEq, if_true, if_false, Nat.reduceEqDiff, decide_not, beq_self_eq_true, true_and, and_true, decide_true, decide_false, Int.reduceLT, Int.reduceLE, Int.reduceNeg, Int.reduceAdd, Int.reduceSub, Int.reduceMul, Int.reducePow, Nat.reduceAdd, Nat.reduceSub, Nat.reduceLT, Nat.reduceLeDiff, Int.reduceToNat, Bool.not_true, Bool.not_false]
        refine lholds_spec hs r1 r1 (.inr ⟨pf, rfl, by rw [G_ne hpf1 hpf2]; exact g1'⟩) fun p kvs hp => ?_
        obtain ⟨hp1, hp2, hp3⟩ := G_free hp hl
        have n1 : pf ≠ p := fun e => by subst e; rw [hp3] at g1'; cases g1'
        have n2 : pg ≠ p := fun e => by subst e; rw [hp3] at g2'; cases g2'
        have n3 : pc ≠ p := fun e => by subst e; rw [hp3] at hpc; cases hpc
        simp (implicitDefEqProofs := false) (disch := first | assumption | omega | (simp only [Pf.l_lenS, Pf.l_len0] <;> omega)) only [Pf.kOpt_some, Pf.look_ap, Pf.lkO_l, Pf.lkO_r, Pf.var_ap, Pf.c_ap, Pf.op_ap, Pf.op1_ap, Pf.op2_ap, Pf.tst_ap, Pf.kB_ap, Pf.asB_ap, Pf.kTo_some, Pf.tru_ap, Pf.kTru_ap, Pf.truB_bl, Pf.truB_non, Pf.truB_int, Pf.truB_tup, Pf.andV_ap, Pf.kAndV_ap, Pf.kAndB_t, Pf.kAndB_f, Pf.orV_ap, Pf.kOrV_ap, Pf.kOrB_t, Pf.kOrB_f, Pf.notV_ap, Pf.kNotV_ap, Pf.kNotB_ap, Pf.and_ap, Pf.kAnd_t, Pf.kAnd_f, Pf.or_ap, Pf.kOr_t, Pf.kOr_f, Pf.not_ap, Pf.kNot_ap, Pf.if_ap, Pf.kIf_t, Pf.kIf_f, Pf.un_ap, Pf.kUn_ap, Pf.neg_ap, Pf.chain_ap, Pf.kCh1_ap, Pf.kCh2_ap, Pf.kCh3_t, Pf.kCh3_f, Pf.maNil_ap, Pf.maCons_ap, Pf.kArg_ap, Pf.kArg2_ap, Pf.tup_ap, Pf.kTup_ap, Pf.lst_ap, Pf.kLst_ap, Pf.call_ap, Pf.kCall_ap, Pf.cb_ap, Pf.kCB_ap, Pf.isi_ap, Pf.kIsi_ap, Pf.kIsi2_some, Pf.tyN_int, Pf.tyN_bl, Pf.tyN_non, Pf.tyN_str, Pf.tyN_tup, Pf.tyB_ii, Pf.tyB_ib, Pf.tyB_bi, Pf.tyB_bb, Pf.tyB_tt, Pf.bm_ap, Pf.kBM_ap, Pf.kBM2_ap, Pf.msNil_ap, Pf.seq_ap, Pf.nx_mk, Pf.rt_mk, Pf.bk_mk, Pf.ct_mk, Pf.ret_ap, Pf.retN_ap, Pf.brk_ap, Pf.cont_ap, Pf.set_ap, Pf.kSet_ap, Pf.expr_ap, Pf.kDrop_ap, Pf.ifS_ap, Pf.kIfS_t, Pf.kIfS_f, Pf.sub_ap, Pf.kSub1_ap, Pf.kSub2_ap, Pf.kSub3_ap, Pf.defW_ap, Pf.add_ii, Pf.add_tt, Pf.sub_ii, Pf.mul_lt, Pf.mul_rt, Pf.mod_ii, Pf.fdiv_ii, Pf.lt_ii, Pf.le_ii, Pf.gt_ii, Pf.ge_ii, Pf.bId_ap, Pf.eq_ap, Pf.ne_ap, Pf.kEq_some, Pf.dat_int, Pf.dat_bl, Pf.dat_non, Pf.dat_str, Pf.dat_tup, Pf.eqv_ii, Pf.eqv_ss, Pf.eqv_bb, Pf.kO_some, Pf.ix_t, Pf.kL_some, Pf.at_0, Pf.at_1, Pf.at_2, Pf.at_3, Pf.at_4, Pf.at_5, Pf.len_t, Pf.list_t, Pf.list_f, Pf.tuple_t, Pf.int_i, Pf.int_b, Pf.l_set0, Pf.l_setS, Pf.l_get0, Pf.l_getS, Pf.l_len0, Pf.l_lenS, Pf.l_app0, Pf.l_appS, Pf.l_map0, Pf.l_mapS, Pf.l_len_map, Pf.l_rep0, Pf.l_repS, Pf.start_ap, Pf.wipe_nil, Pf.wipe_cons, Pf.supd_same, Pf.supd_ne, Pf.supd_supd, Pf.o_map_some, Pf.ixN_0, Pf.ixN_1, Pf.ixN_2, Pf.ixN_3, Pf.for_ap, Pf.kFor_ap, Pf.iter_ap, Pf.kIter_t, Pf.rng1_ap, Pf.kRng1_ap, Pf.rng2_ap, Pf.kRng2_ap, Pf.rev_ap, Pf.kRev_t, Pf.kNew_ap, Pf.lc_ap, Pf.kLc_ap, Pf.yes_ap, Pf.bind_nm, Pf.bind_tp, Pf.bindL_nil, Pf.bindL_cons, Pf.kBL_ap, Pf.pat_ap, Pf.kPat_ap, Pf.aug_ap, Pf.kAugO_ap, Pf.kAug1_ap, Pf.iadd_ii, Pf.rng_len, Pf.isL_r, Pf.kIsL_some, Pf.ix_r, Pf.kIx_some, Pf.len_r, Pf.kLen_some, Pf.list_r, Pf.kList_some, Pf.tuple_r, Pf.kTuple_some, Pf.put_r, Pf.kPut_l, Pf.kPutO_some, Pf.append_r, Pf.kApp_l, Pf.pop0_r, Pf.kPop0_l, Pf.kIter_r, Pf.kRev_r, Pf.kIterO_some, Pf.id_ap, Pf.dat_r, Pf.kDatL_some, Pf.bind_tpr, Pf.kBindO_some, Pg.disp_ap, Pg.dictN_ap, Pg.zip_nil, Pg.zip_cons, Pg.dget_ap, Pg.kDg_d, Pg.look_if, Pg.is_bb, Pg.is_nn, Pg.is_in, Pg.is_sn, Pg.is_tn, Pg.is_rn, Pg.isnt_bb, Pg.isnt_nn, Pg.isnt_in, Pg.isnt_sn, Pg.isnt_tn, Pg.isnt_rn, Pg.fld_ap, Pg.kFld_ap, Pg.kFldO_i, Pg.meth_ap, Pg.kMeth_ap, Pg.kMethO_i, Pg.kMethA_ap, Pg.make_ap, Pg.sl_ap, Pg.kSl1_ap, Pg.kSl2_ap, Pg.kSl3_ap, Pg.pNo_ap, Pg.pYes_ap, Pg.kPart_ap, Pg.revL_ap, Pg.kRvL_ap, Pg.kRvO_some, String.reduceEq, Int.reduceEq, if_true, if_false, Nat.reduceEqDiff, decide_not, beq_self_eq_true, true_and, and_true, decide_true, decide_false, Int.reduceLT, Int.reduceLE, Int.reduceNeg, Int.reduceAdd, Int.reduceSub, Int.reduceMul, Int.reducePow, Nat.reduceAdd, Nat.reduceSub, Nat.reduceLT, Nat.reduceLeDiff, Int.reduceToNat, Bool.not_true, Bool.not_false, G_put hp1 hp2, G_ne hpf1 hpf2, G_ne hpc1 hpc2, g1', hpc, kDatL_some (fits_ints fs 59), eqvL_self (fits_ints fs 59)]
        exact hnx2 _ _ ⟨_, _, _, _, _, rfl, rfl, by rw [Mv.supd_ne n1]; exact g1', by rw [Mv.supd_ne n2]; exact g2'⟩
    · simp (implicitDefEqProofs := false) (disch := first | assumption | omega | (simp only [Pf.l_lenS, Pf.l_len0] <;> omega)) only [Pf.kOpt_some, Pf.look_ap, Pf.lkO_l, Pf.lkO_r, Pf.var_ap, Pf.c_ap, Pf.op_ap, Pf.op1_ap, Pf.op2_ap, Pf.tst_ap, Pf.kB_ap, Pf.asB_ap, Pf.kTo_some, Pf.tru_ap, Pf.kTru_ap, Pf.truB_bl, Pf.truB_non, Pf.truB_int, Pf.truB_tup, Pf.andV_ap, Pf.kAndV_ap, Pf.kAndB_t, Pf.kAndB_f, Pf.orV_ap, Pf.kOrV_ap, Pf.kOrB_t, Pf.kOrB_f, Pf.notV_ap, Pf.kNotV_ap, Pf.kNotB_ap, Pf.and_ap, Pf.kAnd_t, Pf.kAnd_f, Pf.or_ap, Pf.kOr_t, Pf.kOr_f, Pf.not_ap, Pf.kNot_ap, Pf.if_ap, Pf.kIf_t, Pf.kIf_f, Pf.un_ap, Pf.kUn_ap, Pf.neg_ap, Pf.chain_ap, Pf.kCh1_ap, Pf.kCh2_ap, Pf.kCh3_t, Pf.kCh3_f, Pf.maNil_ap, Pf.maCons_ap, Pf.kArg_ap, Pf.kArg2_ap, Pf.tup_ap, Pf.kTup_ap, Pf.lst_ap, Pf.kLst_ap, Pf.call_ap, Pf.kCall_ap, Pf.cb_ap, Pf.kCB_ap, Pf.isi_ap, Pf.kIsi_ap, Pf.kIsi2_some, Pf.tyN_int, Pf.tyN_bl, Pf.tyN_non, Pf.tyN_str, Pf.tyN_tup, Pf.tyB_ii, Pf.tyB_ib, Pf.tyB_bi, Pf.tyB_bb, Pf.tyB_tt, Pf.bm_ap, Pf.kBM_ap, Pf.kBM2_ap, Pf.msNil_ap, Pf.seq_ap, Pf.nx_mk, Pf.rt_mk, Pf.bk_mk, Pf.ct_mk, Pf.ret_ap, Pf.retN_ap, Pf.brk_ap, Pf.cont_ap, Pf.set_ap, Pf.kSet_ap, Pf.expr_ap, Pf.kDrop_ap, Pf.ifS_ap, Pf.kIfS_t, Pf.kIfS_f, Pf.sub_ap, Pf.kSub1_ap, Pf.kSub2_ap, Pf.kSub3_ap, Pf.defW_ap, Pf.add_ii, Pf.add_tt, Pf.sub_ii, Pf.mul_lt, Pf.mul_rt, Pf.mod_ii, Pf.fdiv_ii, Pf.lt_ii, Pf.le_ii, Pf.gt_ii, Pf.ge_ii, Pf.bId_ap, Pf.eq_ap, Pf.ne_ap, Pf.kEq_some, Pf.dat_int, Pf.dat_bl, Pf.dat_non, Pf.dat_str, Pf.dat_tup, Pf.eqv_ii, Pf.eqv_ss, Pf.eqv_bb, Pf.kO_some, Pf.ix_t, Pf.kL_some, Pf.at_0, Pf.at_1, Pf.at_2, Pf.at_3, Pf.at_4, Pf.at_5, Pf.len_t, Pf.list_t, Pf.list_f, Pf.tuple_t, Pf.int_i, Pf.int_b, Pf.l_set0, Pf.l_setS, Pf.l_get0, Pf.l_getS, Pf.l_len0, Pf.l_lenS, Pf.l_app0, Pf.l_appS, Pf.l_map0, Pf.l_mapS, Pf.l_len_map, Pf.l_rep0, Pf.l_repS, Pf.start_ap, Pf.wipe_nil, Pf.wipe_cons, Pf.supd_same, Pf.supd_ne, Pf.supd_supd, Pf.o_map_some, Pf.ixN_0, Pf.ixN_1, Pf.ixN_2, Pf.ixN_3, Pf.for_ap, Pf.kFor_ap, Pf.iter_ap, Pf.kIter_t, Pf.rng1_ap, Pf.kRng1_ap, Pf.rng2_ap, Pf.kRng2_ap, Pf.rev_ap, Pf.kRev_t, Pf.kNew_ap, Pf.lc_ap, Pf.kLc_ap, Pf.yes_ap, Pf.bind_nm, Pf.bind_tp, Pf.bindL_nil, Pf.bindL_cons, Pf.kBL_ap, Pf.pat_ap, Pf.kPat_ap, Pf.aug_ap, Pf.kAugO_ap, Pf.kAug1_ap, Pf.iadd_ii, Pf.rng_len, Pf.isL_r, Pf.kIsL_some, Pf.ix_r, Pf.kIx_some, Pf.len_r, Pf.kLen_some, Pf.list_r, Pf.kList_some, Pf.tuple_r, Pf.kTuple_some, Pf.put_r, Pf.kPut_l, Pf.kPutO_some, Pf.append_r, Pf.kApp_l, Pf.pop0_r, Pf.kPop0_l, Pf.kIter_r, Pf.kRev_r, Pf.kIterO_some, Pf.id_ap, Pf.dat_r, Pf.kDatL_some, Pf.bind_tpr, Pf.kBindO_some, Pg.disp_ap, Pg.dictN_ap, Pg.zip_nil, Pg.zip_cons, Pg.dget_ap, Pg.kDg_d, Pg.look_if, Pg.is_bb, Pg.is_nn, Pg.is_in, Pg.is_sn, Pg.is_tn, Pg.is_rn, Pg.isnt_bb, Pg.isnt_nn, Pg.isnt_in, Pg.isnt_sn, Pg.isnt_tn, Pg.isnt_rn, Pg.fld_ap, Pg.kFld_ap, Pg.kFldO_i, Pg.meth_ap, Pg.kMeth_ap, Pg.kMethO_i, Pg.kMethA_ap, Pg.make_ap, Pg.sl_ap, Pg.kSl1_ap, Pg.kSl2_ap, Pg.kSl3_ap, Pg.pNo_ap, Pg.pYes_ap, Pg.kPart_ap, Pg.revL_ap, Pg.kRvL_ap, Pg.kRvO_some, String.reduceEq, Int.reduceEq, if_true, if_false, Nat.reduceEqDiff, decide_not, beq_self_eq_true, true_and, and_true, decide_true, decide_false, Int.reduceLT, Int.reduceLE, Int.reduceNeg, Int.reduceAdd, Int.reduceSub, Int.reduceMul, Int.reducePow, Nat.reduceAdd, Nat.reduceSub, Nat.reduceLT, Nat.reduceLeDiff, Int.reduceToNat, Bool.not_true, Bool.not_false, e]
      refine new_spec hl fun pg S9 hpg1 hpg2 _ hpg hS9 => ?_
      have hpf9 := (hS9 _ _ hpf5).1
      simp (implicitDefEqProofs := false) (disch := first | assumption | omega | (simp only [Pf.l_lenS, Pf.l_len0] <;> omega)) only [Pf.kOpt_some, Pf.look_ap, Pf.lkO_l, Pf.lkO_r, Pf.var_ap, Pf.c_ap, Pf.op_ap, Pf.op1_ap, Pf.op2_ap, Pf.tst_ap, Pf.kB_ap, Pf.asB_ap, Pf.kTo_some, Pf.tru_ap, Pf.kTru_ap, Pf.truB_bl, Pf.truB_non, Pf.truB_int, Pf.truB_tup, Pf.andV_ap, Pf.kAndV_ap, Pf.kAndB_t, Pf.kAndB_f, Pf.orV_ap, Pf.kOrV_ap, Pf.kOrB_t, Pf.kOrB_f, Pf.notV_ap, Pf.kNotV_ap, Pf.kNotB_ap, Pf.and_ap, Pf.kAnd_t, Pf.kAnd_f, Pf.or_ap, Pf.kOr_t, Pf.kOr_f, Pf.not_ap, Pf.kNot_ap, Pf.if_ap, Pf.kIf_t, Pf.kIf_f, Pf.un_ap, Pf.kUn_ap, Pf.neg_ap, Pf.chain_ap, Pf.kCh1_ap, Pf.kCh2_ap, Pf.kCh3_t, Pf.kCh3_f, Pf.maNil_ap, Pf.maCons_ap, Pf.kArg_ap, Pf.kArg2_ap, Pf.tup_ap, Pf.kTup_ap, Pf.lst_ap, Pf.kLst_ap, Pf.call_ap, Pf.kCall_ap, Pf.cb_ap, Pf.kCB_ap, Pf.isi_ap, Pf.kIsi_ap, Pf.kIsi2_some, Pf.tyN_int, Pf.tyN_bl, Pf.tyN_non, Pf.tyN_str, Pf.tyN_tup, Pf.tyB_ii, Pf.tyB_ib, Pf.tyB_bi, Pf.tyB_bb, Pf.tyB_tt, Pf.bm_ap, Pf.kBM_ap, Pf.kBM2_ap, Pf.msNil_ap, Pf.seq_ap, Pf.nx_mk, Pf.rt_mk, Pf.bk_mk, Pf.ct_mk, Pf.ret_ap, Pf.retN_ap, Pf.brk_ap, Pf.cont_ap, Pf.set_ap, Pf.kSet_ap, Pf.expr_ap, Pf.kDrop_ap, Pf.ifS_ap, Pf.kIfS_t, Pf.kIfS_f, Pf.sub_ap, Pf.kSub1_ap, Pf.kSub2_ap, Pf.kSub3_ap, Pf.defW_ap, Pf.add_ii, Pf.add_tt, Pf.sub_ii, Pf.mul_lt, Pf.mul_rt, Pf.mod_ii, Pf.fdiv_ii, Pf.lt_ii, Pf.le_ii, Pf.gt_ii, Pf.ge_ii, Pf.bId_ap, Pf.eq_ap, Pf.ne_ap, Pf.kEq_some, Pf.dat_int, Pf.dat_bl, Pf.dat_non, Pf.dat_str, Pf.dat_tup, Pf.eqv_ii, Pf.eqv_ss, Pf.eqv_bb, Pf.kO_some, Pf.ix_t, Pf.kL_some, Pf.at_0, Pf.at_1, Pf.at_2, Pf.at_3, Pf.at_4, Pf.at_5, Pf.len_t, Pf.list_t, Pf.list_f, Pf.tuple_t, Pf.int_i, Pf.int_b, Pf.l_set0, Pf.l_setS, Pf.l_get0, Pf.l_getS, Pf.l_len0, Pf.l_lenS, Pf.l_app0, Pf.l_appS, Pf.l_map0, Pf.l_mapS, Pf.l_len_map, Pf.l_rep0, Pf.l_repS, Pf.start_ap, Pf.wipe_nil, Pf.wipe_cons, Pf.supd_same, Pf.supd_ne, Pf.supd_supd, Pf.o_map_some, Pf.ixN_0, Pf.ixN_1, Pf.ixN_2, Pf.ixN_3, Pf.for_ap, Pf.kFor_ap, Pf.iter_ap, Pf.kIter_t, Pf.rng1_ap, Pf.kRng1_ap, Pf.rng2_ap, Pf.kRng2_ap, Pf.rev_ap, Pf.kRev_t, Pf.kNew_ap, Pf.lc_ap, Pf.kLc_ap, Pf.yes_ap, Pf.bind_nm, Pf.bind_tp, Pf.bindL_nil, Pf.bindL_cons, Pf.kBL_ap, Pf.pat_ap, Pf.kPat_ap, Pf.aug_ap, Pf.kAugO_ap, Pf.kAug1_ap, Pf.iadd_ii, Pf.rng_len, Pf.isL_r, Pf.kIsL_some, Pf.ix_r, Pf.kIx_some, Pf.len_r, Pf.kLen_some, Pf.list_r, Pf.kList_some, Pf.tuple_r, Pf.kTuple_some, Pf.put_r, Pf.kPut_l, Pf.kPutO_some, Pf.append_r, Pf.kApp_l, Pf.pop0_r, Pf.kPop0_l, Pf.kIter_r, Pf.kRev_r, Pf.kIterO_some, Pf.id_ap, Pf.dat_r, Pf.kDatL_some, Pf.bind_tpr, Pf.kBindO_some, Pg.disp_ap, Pg.dictN_ap, Pg.zip_nil, Pg.zip_cons, Pg.dget_ap, Pg.kDg_d, Pg.look_if, Pg.is_bb, Pg.is_nn, Pg.is_in, Pg.is_sn, Pg.is_tn, Pg.is_rn, Pg.isnt_bb, Pg.isnt_nn, Pg.isnt_in, Pg.isnt_sn, Pg.isnt_tn, Pg.isnt_rn, Pg.fld_ap, Pg.kFld_ap, Pg.kFldO_i, Pg.meth_ap, Pg.kMeth_ap, Pg.kMethO_i, Pg.kMethA_ap, Pg.make_ap, Pg.sl_ap, Pg.kSl1_ap, Pg.kSl2_ap, Pg.kSl3_ap, Pg.pNo_ap, Pg.pYes_ap, Pg.kPart_ap, Pg.revL_ap, Pg.kRvL_ap, Pg.kRvO_some, String.reduceEq, Int.reduceEq, if_true, if_false, Nat.reduceEqDiff, decide_not, beq_self_eq_true, true_and, and_true, decide_true, decide_false, Int.reduceLT, Int.reduceLE, Int.reduceNeg, Int.reduceAdd, Int.reduceSub, Int.reduceMul, Int.reducePow, Nat.reduceAdd, Nat.reduceSub, Nat.reduceLT, Nat.reduceLeDiff, Int.reduceToNat, Bool.not_true, Bool.not_false, G_ne hpg1 hpg2, hpg]
      refine for_rule (I := fun i ρ S => ∃ S' x9 x10 x11 x12, ρ = [x0, some (.ref st), some v, some (.ref pf), some (.tup (ss.map .int)), some (.int arg), some (.int (got - 1)), some e1, some e2, x9, x10, x11, x12] ∧ S = G st l S' q10 ∧ S' pf = some (.lst (fs.map .int)) ∧ S' pg = some (.lst [.str "==", .str "!=", .str "<"])) ?keep ?step ?done ?init
      case keep =>
        rintro i ρ S ⟨S', x9, x10, x11, x12, rfl, rfl, e1, e2⟩
        exact keep_one (look_l (by rw [G_ne hpg1 hpg2]; exact e2))
      case init => exact ⟨_, _, _, _, _, rfl, rfl, hpf9, hpg⟩
      case done =>
        rintro ρ S ⟨S', x9, x10, x11, x12, rfl, rfl, e1, e2⟩
        simp (implicitDefEqProofs := false) (disch := first | assumption | omega | (simp only [Pf.l_lenS, Pf.l_len0] <;> omega)) only [Pf.kOpt_some, Pf.look_ap, Pf.lkO_l, Pf.lkO_r, Pf.var_ap, Pf.c_ap, Pf.op_ap, Pf.op1_ap, Pf.op2_ap, Pf.tst_ap, Pf.kB_ap, Pf.asB_ap, Pf.kTo_some, Pf.tru_ap, Pf.kTru_ap, Pf.truB_bl, Pf.truB_non, Pf.truB_int, Pf.truB_tup, Pf.andV_ap, Pf.kAndV_ap, Pf.kAndB_t, Pf.kAndB_f, Pf.orV_ap, Pf.kOrV_ap, Pf.kOrB_t, Pf.kOrB_f, Pf.notV_ap, Pf.kNotV_ap, Pf.kNotB_ap, Pf.and_ap, Pf.kAnd_t, Pf.kAnd_f, Pf.or_ap, Pf.kOr_t, Pf.kOr_f, Pf.not_ap, Pf.kNot_ap, Pf.if_ap, Pf.kIf_t, Pf.kIf_f, Pf.un_ap, Pf.kUn_ap, Pf.neg_ap, Pf.chain_ap, Pf.kCh1_ap, Pf.kCh2_ap, Pf.kCh3_t, Pf.kCh3_f, Pf.maNil_ap, Pf.maCons_ap, Pf.kArg_ap, Pf.kArg2_ap, Pf.tup_ap, Pf.kTup_ap, Pf.lst_ap, Pf.kLst_ap, Pf.call_ap, Pf.kCall_ap, Pf.cb_ap, Pf.kCB_ap, Pf.isi_ap, Pf.kIsi_ap, Pf.kIsi2_some, Pf.tyN_int, Pf.tyN_bl, Pf.tyN_non, Pf.tyN_str, Pf.tyN_tup, Pf.tyB_ii, Pf.tyB_ib, Pf.tyB_bi, Pf.tyB_bb, Pf.tyB_tt, Pf.bm_ap, Pf.kBM_ap, Pf.kBM2_ap, Pf.msNil_ap, Pf.seq_ap, Pf.nx_mk, Pf.rt_mk, Pf.bk_mk, Pf.ct_mk, Pf.ret_ap, Pf.retN_ap, Pf.brk_ap, Pf.cont_ap, Pf.set_ap, Pf.kSet_ap, Pf.expr_ap, Pf.kDrop_ap, Pf.ifS_ap, Pf.kIfS_t, Pf.kIfS_f, Pf.sub_ap, Pf.kSub1_ap, Pf.kSub2_ap, Pf.kSub3_ap, Pf.defW_ap, Pf.add_ii, Pf.add_tt, Pf.sub_ii, Pf.mul_lt, Pf.mul_rt, Pf.mod_ii, Pf.fdiv_ii, Pf.lt_ii, Pf.le_ii, Pf.gt_ii, Pf.ge_ii, Pf.bId_ap, Pf.eq_ap, Pf.ne_ap, Pf.kEq_some, Pf.dat_int, Pf.dat_bl, Pf.dat_non, Pf.dat_str, Pf.dat_tup, Pf.eqv_ii, Pf.eqv_ss, Pf.eqv_bb, Pf.kO_some, Pf.ix_t, Pf.kL_some, Pf.at_0, Pf.at_1, Pf.at_2, Pf.at_3, Pf.at_4, Pf.at_5, Pf.len_t, Pf.list_t, Pf.list_f, Pf.tuple_t, Pf.int_i, Pf.int_b, Pf.l_set0, Pf.l_setS, Pf.l_get0, Pf.l_getS, Pf.l_len0, Pf.l_lenS, Pf.l_app0, Pf.l_appS, Pf.l_map0, Pf.l_mapS, Pf.l_len_map, Pf.l_rep0, Pf.l_repS, Pf.start_ap, Pf.wipe_nil, Pf.wipe_cons, Pf.supd_same, Pf.supd_ne, Pf.supd_supd, Pf.o_map_some, Pf.ixN_0, Pf.ixN_1, Pf.ixN_2, Pf.ixN_3, Pf.for_ap, Pf.kFor_ap, Pf.iter_ap, Pf.kIter_t, Pf.rng1_ap, Pf.kRng1_ap, Pf.rng2_ap, Pf.kRng2_ap, Pf.rev_ap, Pf.kRev_t, Pf.kNew_ap, Pf.lc_ap, Pf.kLc_ap, Pf.yes_ap, Pf.bind_nm, Pf.bind_tp, Pf.bindL_nil, Pf.bindL_cons, Pf.kBL_ap, Pf.pat_ap, Pf.kPat_ap, Pf.aug_ap, Pf.kAugO_ap, Pf.kAug1_ap, Pf.iadd_ii, Pf.rng_len, Pf.isL_r, Pf.kIsL_some, Pf.ix_r, Pf.kIx_some, Pf.len_r, Pf.kLen_some, Pf.list_r, Pf.kList_some, Pf.tuple_r, Pf.kTuple_some, Pf.put_r, Pf.kPut_l, Pf.kPutO_some, Pf.append_r, Pf.kApp_l, Pf.pop0_r, Pf.kPop0_l, Pf.kIter_r, Pf.kRev_r, Pf.kIterO_some, Pf.id_ap, Pf.dat_r, Pf.kDatL_some, Pf.bind_tpr, Pf.kBindO_some, Pg.disp_ap, Pg.dictN_ap, Pg.zip_nil, Pg.zip_cons, Pg.dget_ap, Pg.kDg_d, Pg.look_if, Pg.is_bb, Pg.is_nn, Pg.is_in, Pg.is_sn, Pg.is_tn, Pg.is_rn, Pg.isnt_bb, Pg.isnt_nn, Pg.isnt_in, Pg.isnt_sn, Pg.isnt_tn, Pg.isnt_rn, Pg.fld_ap, Pg.kFld_ap, Pg.kFldO_i, Pg.meth_ap, Pg.kMeth_ap, Pg.kMethO_i, Pg.kMethA_ap, Pg.make_ap, Pg.sl_ap, Pg.kSl1_ap, Pg.kSl2_ap, Pg.kSl3_ap, Pg.pNo_ap, Pg.pYes_ap, Pg.kPart_ap, Pg.revL_ap, Pg.kRvL_ap, Pg.kRvO_some, String.reduceEq, Int.reduceEq, if_true, if_false, Nat.reduceEqDiff, decide_not, beq_self_eq_true, true_and, and_true, decide_true, decide_false, Int.reduceLT, Int.reduceLE, Int.reduceNeg, Int.reduceAdd, Int.reduceSub, Int.reduceMul, Int.reducePow, Nat.reduceAdd, Nat.reduceSub, Nat.reduceLT, Nat.reduceLeDiff, Int.reduceToNat, Bool.not_true, Bool.not_false]
        refine holds_non ?_
        simp (implicitDefEqProofs := false) (disch := first | assumption | omega | (simp only [Pf.l_lenS, Pf.l_len0] <;> omega)) only [Pf.kOpt_some, Pf.look_ap, Pf.lkO_l, Pf.lkO_r, Pf.var_ap, Pf.c_ap, Pf.op_ap, Pf.op1_ap, Pf.op2_ap, Pf.tst_ap, Pf.kB_ap, Pf.asB_ap, Pf.kTo_some, Pf.tru_ap, Pf.kTru_ap, Pf.truB_bl, Pf.truB_non, Pf.truB_int, Pf.truB_tup, Pf.andV_ap, Pf.kAndV_ap, Pf.kAndB_t, Pf.kAndB_f, Pf.orV_ap, Pf.kOrV_ap, Pf.kOrB_t, Pf.kOrB_f, Pf.notV_ap, Pf.kNotV_ap, Pf.kNotB_ap, Pf.and_ap, Pf.kAnd_t, Pf.kAnd_f, Pf.or_ap, Pf.kOr_t, Pf.kOr_f, Pf.not_ap, Pf.kNot_ap, Pf.if_ap, Pf.kIf_t, Pf.kIf_f, Pf.un_ap, Pf.kUn_ap, Pf.neg_ap, Pf.chain_ap, Pf.kCh1_ap, Pf.kCh2_ap, Pf.kCh3_t, Pf.kCh3_f, Pf.maNil_ap, Pf.maCons_ap, Pf.kArg_ap, Pf.kArg2_ap, Pf.tup_ap, Pf.kTup_ap, Pf.lst_ap, Pf.kLst_ap, Pf.call_ap, Pf.kCall_ap, Pf.cb_ap, Pf.kCB_ap, Pf.isi_ap, Pf.kIsi_ap, Pf.kIsi2_some, Pf.tyN_int, Pf.tyN_bl, Pf.tyN_non, Pf.tyN_str, Pf.tyN_tup, Pf.tyB_ii, Pf.tyB_ib, Pf.tyB_bi, Pf.tyB_bb, Pf.tyB_tt, Pf.bm_ap, Pf.kBM_ap, Pf.kBM2_ap, Pf.msNil_ap, Pf.seq_ap, Pf.nx_mk, Pf.rt_mk, Pf.bk_mk, Pf.ct_mk, Pf.ret_ap, Pf.retN_ap, Pf.brk_ap, Pf.cont_ap, Pf.set_ap, Pf.kSet_ap, Pf.expr_ap, Pf.kDrop_ap, Pf.ifS_ap, Pf.kIfS_t, Pf.kIfS_f, Pf.sub_ap, Pf.kSub1_ap, Pf.kSub2_ap, Pf.kSub3_ap, Pf.defW_ap, Pf.add_ii, Pf.add_tt, Pf.sub_ii, Pf.mul_lt, Pf.mul_rt, Pf.mod_ii, Pf.fdiv_ii, Pf.lt_ii, Pf.le_ii, Pf.gt_ii, Pf.ge_ii, Pf.bId_ap, Pf.eq_ap, Pf.ne_ap, Pf.kEq_some, Pf.dat_int, Pf.dat_bl, Pf.dat_non, Pf.dat_str, Pf.dat_tup, Pf.eqv_ii, Pf.eqv_ss, Pf.eqv_bb, Pf.kO_some, Pf.ix_t, Pf.kL_some, Pf.at_0, Pf.at_1, Pf.at_2, Pf.at_3, Pf.at_4, Pf.at_5, Pf.len_t, Pf.list_t, Pf.list_f, Pf.tuple_t, Pf.int_i, Pf.int_b, Pf.l_set0, Pf.l_setS, Pf.l_get0, Pf.l_getS, Pf.l_len0, Pf.l_lenS, Pf.l_app0, Pf.l_appS, Pf.l_map0, Pf.l_mapS, Pf.l_len_map, Pf.l_rep0, Pf.l_repS, Pf.start_ap, Pf.wipe_nil, Pf.wipe_cons, Pf.supd_same, Pf.supd_ne, Pf.supd_supd, Pf.o_map_some, Pf.ixN_0, Pf.ixN_1, Pf.ixN_2, Pf.ixN_3, Pf.for_ap, Pf.kFor_ap, Pf.iter_ap, Pf.kIter_t, Pf.rng1_ap, Pf.kRng1_ap, Pf.rng2_ap, Pf.kRng2_ap, Pf.rev_ap, Pf.kRev_t, Pf.kNew_ap, Pf.lc_ap, Pf.kLc_ap, Pf.yes_ap, Pf.bind_nm, Pf.bind_tp, Pf.bindL_nil, Pf.bindL_cons, Pf.kBL_ap, Pf.pat_ap, Pf.kPat_ap, Pf.aug_ap, Pf.kAugO_ap, Pf.kAug1_ap, Pf.iadd_ii, Pf.rng_len, Pf.isL_r, Pf.kIsL_some, Pf.ix_r, Pf.kIx_some, Pf.len_r, Pf.kLen_some, Pf.list_r, Pf.kList_some, Pf.tuple_r, Pf.kTuple_some, Pf.put_r, Pf.kPut_l, Pf.kPutO_some, Pf.append_r, Pf.kApp_l, Pf.pop0_r, Pf.kPop0_l, Pf.kIter_r, Pf.kRev_r, Pf.kIterO_some, Pf.id_ap, Pf.dat_r, Pf.kDatL_some, Pf.bind_tpr, Pf.kBindO_some, Pg.disp_ap, Pg.dictN_ap, Pg.zip_nil, Pg.zip_cons, Pg.dget_ap, Pg.kDg_d, Pg.look_if, Pg.is_bb, Pg.is_nn, Pg.is_in, Pg.is_sn, Pg.is_tn, Pg.is_rn, Pg.isnt_bb, Pg.isnt_nn, Pg.isnt_in, Pg.isnt_sn, Pg.isnt_tn, Pg.isnt_rn, Pg.fld_ap, Pg.kFld_ap, Pg.kFldO_i, Pg.meth_ap, Pg.kMeth_ap, Pg.kMethO_i, Pg.kMethA_ap, Pg.make_ap, Pg.sl_ap, Pg.kSl1_ap, Pg.kSl2_ap, Pg.kSl3_ap, Pg.pNo_ap, Pg.pYes_ap, Pg.kPart_ap, Pg.revL_ap, Pg.kRvL_ap, Pg.kRvO_some, String.reduceEq, Int.reduceEq, if_true, if_false, Nat.reduceEqDiff, decide_not, beq_self_eq_true, true_and, and_true, decide_true, decide_false, Int.reduceLT, Int.reduceLE, Int.reduceNeg, Int.reduceAdd, Int.reduceSub, Int.reduceMul, Int.reducePow, Nat.reduceAdd, Nat.reduceSub, Nat.reduceLT, Nat.reduceLeDiff, Int.reduceToNat, Bool.not_true, Bool.not_false]
        exact hnx _ _ ⟨_, _, _, _, _, _, _, _, _, _, _, _, _, _, rfl, rfl, hq10⟩
      case step =>
        rintro j vj ρ S E hvj ⟨S', x9, x10, x11, x12, rfl, rfl, g1, g2⟩ hnx2 _ _ _
        obtain ⟨s, rfl, hs⟩ : ∃ s, vj = .str s ∧ (s = "==" ∨ s = "!=" ∨ s = "<") := by
          have := List.mem_of_getElem? hvj
          rcases this with _ | ⟨_, _ | ⟨_, _ | ⟨_, h⟩⟩⟩
          · exact ⟨_, rfl, .inl rfl⟩
          · exact ⟨_, rfl, .inr (.inl rfl)⟩
          · exact ⟨_, rfl, .inr (.inr rfl)⟩
          · cases h
        simp (implicitDefEqProofs := false) (disch := first | assumption | omega | (simp only [Pf.l_lenS, Pf.l_len0] <;> omega)) only [Pf.kOpt_some, Pf.look_ap, Pf.lkO_l, Pf.lkO_r, Pf.var_ap, Pf.c_ap, Pf.op_ap, Pf.op1_ap, Pf.op2_ap, Pf.tst_ap, Pf.kB_ap, Pf.asB_ap, Pf.kTo_some, Pf.tru_ap, Pf.kTru_ap, Pf.truB_bl, Pf.truB_non, Pf.truB_int, Pf.truB_tup, Pf.andV_ap, Pf.kAndV_ap, Pf.kAndB_t, Pf.kAndB_f, Pf.orV_ap, Pf.kOrV_ap, Pf.kOrB_t, Pf.kOrB_f, Pf.notV_ap, Pf.kNotV_ap, Pf.kNotB_ap, Pf.and_ap, Pf.kAnd_t, Pf.kAnd_f, Pf.or_ap, Pf.kOr_t, Pf.kOr_f, Pf.not_ap, Pf.kNot_ap, Pf.if_ap, Pf.kIf_t, Pf.kIf_f, Pf.un_ap, Pf.kUn_ap, Pf.neg_ap, Pf.chain_ap, Pf.kCh1_ap, Pf.kCh2_ap, Pf.kCh3_t, Pf.kCh3_f, Pf.maNil_ap, Pf.maCons_ap, Pf.kArg_ap, Pf.kArg2_ap, Pf.tup_ap, Pf.kTup_ap, Pf.lst_ap, Pf.kLst_ap, Pf.call_ap, Pf.kCall_ap, Pf.cb_ap, Pf.kCB_ap, Pf.isi_ap, Pf.kIsi_ap, Pf.kIsi2_some, Pf.tyN_int, Pf.tyN_bl, Pf.tyN_non, Pf.tyN_str, Pf.tyN_tup, Pf.tyB_ii, Pf.tyB_ib, Pf.tyB_bi, Pf.tyB_bb, Pf.tyB_tt, Pf.bm_ap, Pf.kBM_ap, Pf.kBM2_ap, Pf.msNil_ap, Pf.seq_ap, Pf.nx_mk, Pf.rt_mk, Pf.bk_mk, Pf.ct_mk, Pf.ret_ap, Pf.retN_ap, Pf.brk_ap, Pf.cont_ap, Pf.set_ap, Pf.kSet_ap, Pf.expr_ap, Pf.kDrop_ap, Pf.ifS_ap, Pf.kIfS_t, Pf.kIfS_f, Pf.sub_ap, Pf.kSub1_ap, Pf.kSub2_ap, Pf.kSub3_ap, Pf.defW_ap, Pf.add_ii, Pf.add_tt, Pf.sub_ii, Pf.mul_lt, Pf.mul_rt, Pf.mod_ii, Pf.fdiv_ii, Pf.lt_ii, Pf.le_ii, Pf.gt_ii, Pf.ge_ii, Pf.bId_ap, Pf.eq_ap, Pf.ne_ap, Pf.kEq_some, Pf.dat_int, Pf.dat_bl, Pf.dat_non, Pf.dat_str, Pf.dat_tup, Pf.eqv_ii, Pf.eqv_ss, Pf.eqv_bb, Pf.kO_some, Pf.ix_t, Pf.kL_some, Pf.at_0, Pf.at_1, Pf.at_2, Pf.at_3, Pf.at_4, Pf.at_5, Pf.len_t, Pf.list_t, Pf.list_f, Pf.tuple_t, Pf.int_i, Pf.int_b, Pf.l_set0, Pf.l_setS, Pf.l_get0, Pf.l_getS, Pf.l_len0, Pf.l_lenS, Pf.l_app0, Pf.l_appS, Pf.l_map0, Pf.l_mapS, Pf.l_len_map, Pf.l_rep0, Pf.l_repS, Pf.start_ap, Pf.wipe_nil, Pf.wipe_cons, Pf.supd_same, Pf.supd_ne, Pf.supd_supd, Pf.o_map_some, Pf.ixN_0, Pf.ixN_1, Pf.ixN_2, Pf.ixN_3, Pf.for_ap, Pf.kFor_ap, Pf.iter_ap, Pf.kIter_t, Pf.rng1_ap, Pf.kRng1_ap, Pf.rng2_ap, Pf.kRng2_ap, Pf.rev_ap, Pf.kRev_t, Pf.kNew_ap, Pf.lc_ap, Pf.kLc_ap, Pf.yes_ap, Pf.bind_nm, Pf.bind_tp, Pf.bindL_nil, Pf.bindL_cons, Pf.kBL_ap, Pf.pat_ap, Pf.kPat_ap, Pf.aug_ap, Pf.kAugO_ap, Pf.kAug1_ap, Pf.iadd_ii, Pf.rng_len, Pf.isL_r, Pf.kIsL_some, Pf.ix_r, Pf.kIx_some, Pf.len_r, Pf.kLen_some, Pf.list_r, Pf.kList_some, Pf.tuple_r, Pf.kTuple_some, Pf.put_r, Pf.kPut_l, Pf.kPutO_some, Pf.append_r, Pf.kApp_l, Pf.pop0_r, Pf.kPop0_l, Pf.kIter_r, Pf.kRev_r, Pf.kIterO_some, Pf.id_ap, Pf.dat_r, Pf.kDatL_some, Pf.bind_tpr, Pf.kBindO_some, Pg.disp_ap, Pg.dictN_ap, Pg.zip_nil, Pg.zip_cons, Pg.dget_ap, Pg.kDg_d, Pg.look_if, Pg.is_bb, Pg.is_nn, Pg.is_in, Pg.is_sn, Pg.is_tn, Pg.is_rn, Pg.isnt_bb, Pg.isnt_nn, Pg.isnt_in, Pg.isnt_sn, Pg.isnt_tn, Pg.isnt_rn, Pg.fld_ap, Pg.kFld_ap, Pg.kFldO_i, Pg.meth_ap, Pg.kMeth_ap, Pg.kMethO_i, Pg.kMethA_ap, Pg.make_ap, Pg.sl_ap, Pg.kSl1_ap, Pg.kSl2_ap, Pg.kSl3_ap, Pg.pNo_ap, Pg.pYes_ap, Pg.kPart_ap, Pg.revL_ap, Pg.kRvL_ap, Pg.kRvO_some, String.reduceEq, Int.reduceEq, if_true, if_false, Nat.reduceEqDiff, decide_not, beq_self_eq_true, true_and, and_true, decide_true, decide_false, Int.reduceLT, Int.reduceLE, Int.reduceNeg, Int.reduceAdd, Int.reduceSub, Int.reduceMul, Int.reducePow, Nat.reduceAdd, Nat.reduceSub, Nat.reduceLT, Nat.reduceLeDiff, Int.reduceToNat, Bool.not_true, Bool.not_false, G_ne hpf1 hpf2, g1]
        refine new_spec hl fun pc Sc hpc1 hpc2 _ hpc hSc => ?_
        have g1' := (hSc _ _ g1).1
        have g2' := (hSc _ _ g2).1
        simp (implicitDefEqProofs := false) (disch := first | assumption | omega | (simp only [Pf.l_lenS, Pf.l_len0] <;> omega)) only [Pf.kOpt_some, Pf.look_ap, Pf.lkO_l, Pf.lkO_r, Pf.var_ap, Pf.c_ap, Pf.op_ap, Pf.op1_ap, Pf.op2_ap, Pf.tst_ap, Pf.kB_ap, Pf.asB_ap, Pf.kTo_some, Pf.tru_ap, Pf.kTru_ap, Pf.truB_bl, Pf.truB_non, Pf.truB_int, Pf.truB_tup, Pf.andV_ap, Pf.kAndV_ap, Pf.kAndB_t, Pf.kAndB_f, Pf.orV_ap, Pf.kOrV_ap, Pf.kOrB_t, Pf.kOrB_f, Pf.notV_ap, Pf.kNotV_ap, Pf.kNotB_ap, Pf.and_ap, Pf.kAnd_t, Pf.kAnd_f, Pf.or_ap, Pf.kOr_t, Pf.kOr_f, Pf.not_ap, Pf.kNot_ap, Pf.if_ap, Pf.kIf_t, Pf.kIf_f, Pf.un_ap, Pf.kUn_ap, Pf.neg_ap, Pf.chain_ap, Pf.kCh1_ap, Pf.kCh2_ap, Pf.kCh3_t, Pf.kCh3_f, Pf.maNil_ap, Pf.maCons_ap, Pf.kArg_ap, Pf.kArg2_ap, Pf.tup_ap, Pf.kTup_ap, Pf.lst_ap, Pf.kLst_ap, Pf.call_ap, Pf.kCall_ap, Pf.cb_ap, Pf.kCB_ap, Pf.isi_ap, Pf.kIsi_ap, Pf.kIsi2_some, Pf.tyN_int, Pf.tyN_bl, Pf.tyN_non, Pf.tyN_str, Pf.tyN_tup, Pf.tyB_ii, Pf.tyB_ib, Pf.tyB_bi, Pf.tyB_bb, Pf.tyB_tt, Pf.bm_ap, Pf.kBM_ap, Pf.kBM2_ap, Pf.msNil_ap, Pf.seq_ap, Pf.nx_mk, Pf.rt_mk, Pf.bk_mk, Pf.ct_mk, Pf.ret_ap, Pf.retN_ap, Pf.brk_ap, Pf.cont_ap, Pf.set_ap, Pf.kSet_ap, Pf.expr_ap, Pf.kDrop_ap, Pf.ifS_ap, Pf.kIfS_t, Pf.kIfS_f, Pf.sub_ap, Pf.kSub1_ap, Pf.kSub2_ap, Pf.kSub3_ap, Pf.defW_ap, Pf.add_ii, Pf.add_tt, Pf.sub_ii, Pf.mul_lt, Pf.mul_rt, Pf.mod_ii, Pf.fdiv_ii, Pf.lt_ii, Pf.le_ii, Pf.gt_ii, Pf.ge_ii, Pf.bId_ap, Pf.eq_ap, Pf.ne_ap, Pf.kEq_some, Pf.dat_int, Pf.dat_bl, Pf.dat_non, Pf.dat_str, Pf.dat_tup, Pf.eqv_ii, Pf.eqv_ss, Pf.eqv_bb, Pf.kO_some, Pf.ix_t, Pf.kL_some, Pf.at_0, Pf.at_1, Pf.at_2, Pf.at_3, Pf.at_4, Pf.at_5, Pf.len_t, Pf.list_t, Pf.list_f, Pf.tuple_t, Pf.int_i, Pf.int_b, Pf.l_set0, Pf.l_setS, Pf.l_get0, Pf.l_getS, Pf.l_len0, Pf.l_lenS, Pf.l_app0, Pf.l_appS, Pf.l_map0, Pf.l_mapS, Pf.l_len_map, Pf.l_rep0, Pf.l_repS, Pf.start_ap, Pf.wipe_nil, Pf.wipe_cons, Pf.supd_same, Pf.supd_ne, Pf.supd_supd, Pf.o_map_some, Pf.ixN_0, Pf.ixN_1, Pf.ixN_2, Pf.ixN_3, Pf.for_ap, Pf.kFor_ap, Pf.iter_ap, Pf.kIter_t, Pf.rng1_ap, Pf.kRng1_ap, Pf.rng2_ap, Pf.kRng2_ap, Pf.rev_ap, Pf.kRev_t, Pf.kNew_ap, Pf.lc_ap, Pf.kLc_ap, Pf.yes_ap, Pf.bind_nm, Pf.bind_tp, Pf.bindL_nil, Pf.bindL_cons, Pf.kBL_ap, Pf.pat_ap, Pf.kPat_ap, Pf.aug_ap, Pf.kAugO_ap, Pf.kAug1_ap, Pf.iadd_ii, Pf.rng_len, Pf.isL_r, Pf.kIsL_some, Pf.ix_r, Pf.kIx_some, Pf.len_r, Pf.kLen_some, Pf.list_r, Pf.kList_some, Pf.tuple_r, Pf.kTuple_some, Pf.put_r, Pf.kPut_l, Pf.kPutO_some, Pf.append_r, Pf.kApp_l, Pf.pop0_r, Pf.kPop0_l, Pf.kIter_r, Pf.kRev_r, Pf.kIterO_some, Pf.id_ap, Pf.dat_r, Pf.kDatL_some, Pf.bind_tpr, Pf.kBindO_some, Pg.disp_ap, Pg.dictN_ap, Pg.zip_nil, Pg.zip_cons, Pg.dget_ap, Pg.kDg_d, Pg.look_if, Pg.is_bb, Pg.is_nn, Pg.is_in, Pg.is_sn, Pg.is_tn, Pg.is_rn, Pg.isnt_bb, Pg.isnt_nn, Pg.isnt_in, Pg.isnt_sn, Pg.isnt_tn, Pg.isnt_rn, Pg.fld_ap, Pg.kFld_ap, Pg.kFldO_i, Pg.meth_ap, Pg.kMeth_ap, Pg.kMethO_i, Pg.kMethA_ap, Pg.make_ap, Pg.sl_ap, Pg.kSl1_ap, Pg.kSl2_ap, Pg.kSl3_ap, Pg.pNo_ap, Pg.pYes_ap, Pg.kPart_ap, Pg.revL_ap, Pg.kRvL_ap, Pg.kRvO_some, String.reduceEq, Int.reduceEq, if_true, if_false, Nat.reduceEqDiff, decide_not, beq_self_eq_true, true_and, and_true, decide_true, decide_false, Int.reduceLT, Int.reduceLE, Int.reduceNeg, Int.reduceAdd, Int.reduceSub, Int.reduceMul, Int.reducePow, Nat.reduceAdd, Nat.reduceSub, Nat.reduceLT, Nat.reduceLeDiff, Int.reduceToNat, Bool.not_true, Bool.not_false]
        refine holds_spec hs r1 r2 (.inr ⟨pc, rfl, by rw [G_ne hpc1 hpc2]; exact hpc⟩) ?_
        simp (implicitDefEqProofs := false) (disch := first | assumption | omega | (simp only [Pf.l_lenS, Pf.l_len0] <;> omega)) only [Pf.kOpt_some, Pf.look_ap, Pf.lkO_l, Pf.lkO_r, Pf.var_ap, Pf.c_ap, Pf.op_ap, Pf.op1_ap, Pf.op2_ap, Pf.tst_ap, Pf.kB_ap, Pf.asB_ap, Pf.kTo_some, Pf.tru_ap, Pf.kTru_ap, Pf.truB_bl, Pf.truB_non, Pf.truB_int, Pf.truB_tup, Pf.andV_ap, Pf.kAndV_ap, Pf.kAndB_t, Pf.kAndB_f, Pf.orV_ap, Pf.kOrV_ap, Pf.kOrB_t, Pf.kOrB_f, Pf.notV_ap, Pf.kNotV_ap, Pf.kNotB_ap, Pf.and_ap, Pf.kAnd_t, Pf.kAnd_f, Pf.or_ap, Pf.kOr_t, Pf.kOr_f, Pf.not_ap, Pf.kNot_ap, Pf.if_ap, Pf.kIf_t, Pf.kIf_f, Pf.un_ap, Pf.kUn_ap, Pf.neg_ap, Pf.chain_ap, Pf.kCh1_ap, Pf.kCh2_ap, Pf.kCh3_t, Pf.kCh3_f, Pf.maNil_ap, Pf.maCons_ap, Pf.kArg_ap, Pf.kArg2_ap, Pf.tup_ap, Pf.kTup_ap, Pf.lst_ap, Pf.kLst_ap, Pf.call_ap, Pf.kCall_ap, Pf.cb_ap, Pf.kCB_ap, Pf.isi_ap, Pf.kIsi_ap, Pf.kIsi2_some, Pf.tyN_int, Pf.tyN_bl, Pf.tyN_non, Pf.tyN_str, Pf.tyN_tup, Pf.tyB_ii, Pf.tyB_ib, Pf.tyB_bi, Pf.tyB_bb, Pf.tyB_tt, Pf.bm_ap, Pf.kBM_ap, Pf.kBM2_ap, Pf.msNil_ap, Pf.seq_ap, Pf.nx_mk, Pf.rt_mk, Pf.bk_mk, Pf.ct_mk, Pf.ret_ap, Pf.retN_ap, Pf.brk_ap, Pf.cont_ap, Pf.set_ap, Pf.kSet_ap, Pf.expr_ap, Pf.kDrop_ap, Pf.ifS_ap, Pf.kIfS_t, Pf.kIfS_f, Pf.sub_ap, Pf.kSub1_ap, Pf.kSub2_ap, Pf.kSub3_ap, Pf.defW_ap, Pf.add_ii, Pf.add_tt, Pf.sub_ii, Pf.mul_lt, Pf.mul_rt, Pf.mod_ii, Pf.fdiv_ii, Pf.lt_ii, Pf.le_ii, Pf.gt_ii, Pf.ge_ii, Pf.bId_ap, Pf.eq_ap, Pf.ne_ap, Pf.kEq_some, Pf.dat_int, Pf.dat_bl, Pf.dat_non, Pf.dat_str, Pf.dat_tup, Pf.eqv_ii, Pf.eqv_ss, Pf.eqv_bb, Pf.kO_some, Pf.ix_t, Pf.kL_some, Pf.at_0, Pf.at_1, Pf.at_2, Pf.at_3, Pf.at_4, Pf.at_5, Pf.len_t, Pf.list_t, Pf.list_f, Pf.tuple_t, Pf.int_i, Pf.int_b, Pf.l_set0, Pf.l_setS, Pf.l_get0, Pf.l_getS, Pf.l_len0, Pf.l_lenS, Pf.l_app0, Pf.l_appS, Pf.l_map0, Pf.l_mapS, Pf.l_len_map, Pf.l_rep0, Pf.l_repS, Pf.start_ap, Pf.wipe_nil, Pf.wipe_cons, Pf.supd_same, Pf.supd_ne, Pf.supd_supd, Pf.o_map_some, Pf.ixN_0, Pf.ixN_1, Pf.ixN_2, Pf.ixN_3, Pf.for_ap, Pf.kFor_ap, Pf.iter_ap, Pf.kIter_t, Pf.rng1_ap, Pf.kRng1_ap, Pf.rng2_ap, Pf.kRng2_ap, Pf.rev_ap, Pf.kRev_t, Pf.kNew_ap, Pf.lc_ap, Pf.kLc_ap, Pf.yes_ap, Pf.bind_nm, Pf.bind_tp, Pf.bindL_nil, Pf.bindL_cons, Pf.kBL_ap, Pf.pat_ap, Pf.kPat_ap, Pf.aug_ap, Pf.kAugO_ap, Pf.kAug1_ap, Pf.iadd_ii, Pf.rng_len, Pf.isL_r, Pf.kIsL_some, Pf.ix_r, Pf.kIx_some, Pf.len_r, Pf.kLen_some, Pf.list_r, Pf.kList_some, Pf.tuple_r, Pf.kTuple_some, Pf.put_r, Pf.kPut_l, Pf.kPutO_some, Pf.append_r, Pf.kApp_l, Pf.pop0_r, Pf.kPop0_l, Pf.kIter_r, Pf.kRev_r, Pf.kIterO_some, Pf.id_ap, Pf.dat_r, Pf.kDatL_some, Pf.bind_tpr, Pf.kBindO_some, Pg.disp_ap, Pg.dictN_ap, Pg.zip_nil, Pg.zip_cons, Pg.dget_ap, Pg.kDg_d, Pg.look_if, Pg.is_bb, Pg.is_nn, Pg.is_in, Pg.is_sn, Pg.is_tn, Pg.is_rn, Pg.isnt_bb, Pg.isnt_nn, Pg.isnt_in, Pg.isnt_sn, Pg.isnt_tn, Pg.isnt_rn, Pg.fld_ap, Pg.kFld_ap, Pg.kFldO_i, Pg.meth_ap, Pg.kMeth_ap, Pg.kMethO_i, Pg.kMethA_ap, Pg.make_ap, Pg.sl_ap, Pg.kSl1_ap, Pg.kSl2_ap, Pg.kSl3_ap, Pg.pNo_ap, Pg.pYes_ap, Pg.kPart_ap, Pg.revL_ap, Pg.kRvL_ap, Pg.kRvO_some, String.reduceEq, Int.reduceEq, if_true, if_false, Nat.reduceEqDiff, decide_not, beq_self_eq_true, true_and, and_true, decide_true, decide_false, Int.reduceLT, Int.reduceLE, Int.reduceNeg, Int.reduceAdd, Int.reduceSub, Int.reduceMul, Int.reducePow, Nat.reduceAdd, Nat.reduceSub, Nat.reduceLT, Nat.reduceLeDiff, Int.reduceToNat, Bool.not_true, Bool.not_false]
        refine lholds_spec hs r1 r2 (.inr ⟨pf, rfl, by rw [G_ne hpf1 hpf2]; exact g1'⟩) fun p kvs hp => ?_
        obtain ⟨hp1, hp2, hp3⟩ := G_free hp hl
        have n1 : pf ≠ p := fun e => by subst e; rw [hp3] at g1'; cases g1'
        have n2 : pg ≠ p := fun e => by subst e; rw [hp3] at g2'; cases g2'
        have n3 : pc ≠ p := fun e => by subst e; rw [hp3] at hpc; cases hpc
        simp (implicitDefEqProofs := false) (disch := first | assumption | omega | (simp only [Pf.l_lenS, Pf.l_len0] <;> omega)) only [Pf.kOpt_some, Pf.look_ap, Pf.lkO_l, Pf.lkO_r, Pf.var_ap, Pf.c_ap, Pf.op_ap, Pf.op1_ap, Pf.op2_ap, Pf.tst_ap, Pf.kB_ap, Pf.asB_ap, Pf.kTo_some, Pf.tru_ap, Pf.kTru_ap, Pf.truB_bl, Pf.truB_non, Pf.truB_int, Pf.truB_tup, Pf.andV_ap, Pf.kAndV_ap, Pf.kAndB_t, Pf.kAndB_f, Pf.orV_ap, Pf.kOrV_ap, Pf.kOrB_t, Pf.kOrB_f, Pf.notV_ap, Pf.kNotV_ap, Pf.kNotB_ap, Pf.and_ap, Pf.kAnd_t, Pf.kAnd_f, Pf.or_ap, Pf.kOr_t, Pf.kOr_f, Pf.not_ap, Pf.kNot_ap, Pf.if_ap, Pf.kIf_t, Pf.kIf_f, Pf.un_ap, Pf.kUn_ap, Pf.neg_ap, Pf.chain_ap, Pf.kCh1_ap, Pf.kCh2_ap, Pf.kCh3_t, Pf.kCh3_f, Pf.maNil_ap, Pf.maCons_ap, Pf.kArg_ap, Pf.kArg2_ap, Pf.tup_ap, Pf.kTup_ap, Pf.lst_ap, Pf.kLst_ap, Pf.call_ap, Pf.kCall_ap, Pf.cb_ap, Pf.kCB_ap, Pf.isi_ap, Pf.kIsi_ap, Pf.kIsi2_some, Pf.tyN_int, Pf.tyN_bl, Pf.tyN_non, Pf.tyN_str, Pf.tyN_tup, Pf.tyB_ii, Pf.tyB_ib, Pf.tyB_bi, Pf.tyB_bb, Pf.tyB_tt, Pf.bm_ap, Pf.kBM_ap, Pf.kBM2_ap, Pf.msNil_ap, Pf.seq_ap, Pf.nx_mk, Pf.rt_mk, Pf.bk_mk, Pf.ct_mk, Pf.ret_ap, Pf.retN_ap, Pf.brk_ap, Pf.cont_ap, Pf.set_ap, Pf.kSet_ap, Pf.expr_ap, Pf.kDrop_ap, Pf.ifS_ap, Pf.kIfS_t, Pf.kIfS_f, Pf.sub_ap, Pf.kSub1_ap, Pf.kSub2_ap, Pf.kSub3_ap, Pf.defW_ap, Pf.add_ii, Pf.add_tt, Pf.sub_ii, Pf.mul_lt, Pf.mul_rt, Pf.mod_ii, Pf.fdiv_ii, Pf.lt_ii, Pf.le_ii, Pf.gt_ii, Pf.ge_ii, Pf.bId_ap, Pf.eq_ap, Pf.ne_ap, Pf.kEq_some, Pf.dat_int, Pf.dat_bl, Pf.dat_non, Pf.dat_str, Pf.dat_tup, Pf.eqv_ii, Pf.eqv_ss, Pf.eqv_bb, Pf.kO_some, Pf.ix_t, Pf.kL_some, Pf.at_0, Pf.at_1, Pf.at_2, Pf.at_3, Pf.at_4, Pf.at_5, Pf.len_t, Pf.list_t, Pf.list_f, Pf.tuple_t, Pf.int_i, Pf.int_b, Pf.l_set0, Pf.l_setS, Pf.l_get0, Pf.l_getS, Pf.l_len0, Pf.l_lenS, Pf.l_app0, Pf.l_appS, Pf.l_map0, Pf.l_mapS, Pf.l_len_map, Pf.l_rep0, Pf.l_repS, Pf.start_ap, Pf.wipe_nil, Pf.wipe_cons, Pf.supd_same, Pf.supd_ne, Pf.supd_supd, Pf.o_map_some, Pf.ixN_0, Pf.ixN_1, Pf.ixN_2, Pf.ixN_3, Pf.for_ap, Pf.kFor_ap, Pf.iter_ap, Pf.kIter_t, Pf.rng1_ap, Pf.kRng1_ap, Pf.rng2_ap, Pf.kRng2_ap, Pf.rev_ap, Pf.kRev_t, Pf.kNew_ap, Pf.lc_ap, Pf.kLc_ap, Pf.yes_ap, Pf.bind_nm, Pf.bind_tp, Pf.bindL_nil, Pf.bindL_cons, Pf.kBL_ap, Pf.pat_ap, Pf.kPat_ap, Pf.aug_ap, Pf.kAugO_ap, Pf.kAug1_ap, Pf.iadd_ii, Pf.rng_len, Pf.isL_r, Pf.kIsL_some, Pf.ix_r, Pf.kIx_some, Pf.len_r, Pf.kLen_some, Pf.list_r, Pf.kList_some, Pf.tuple_r, Pf.kTuple_some, Pf.put_r, Pf.kPut_l, Pf.kPutO_some, Pf.append_r, Pf.kApp_l, Pf.pop0_r, Pf.kPop0_l, Pf.kIter_r, Pf.kRev_r, Pf.kIterO_some, Pf.id_ap, Pf.dat_r, Pf.kDatL_some, Pf.bind_tpr, Pf.kBindO_some, Pg.disp_ap, Pg.dictN_ap, Pg.zip_nil, Pg.zip_cons, Pg.dget_ap, Pg.kDg_d, Pg.look_if, Pg.is_bb, Pg.is_nn, Pg.is_in, Pg.is_sn, Pg.is_tn, Pg.is_rn, Pg.isnt_bb, Pg.isnt_nn, Pg.isnt_in, Pg.isnt_sn, Pg.isnt_tn, Pg.isnt_rn, Pg.fld_ap, Pg.kFld_ap, Pg.kFldO_i, Pg.meth_ap, Pg.kMeth_ap, Pg.kMethO_i, Pg.kMethA_ap, Pg.make_ap, Pg.sl_ap, Pg.kSl1_ap, Pg.kSl2_ap, Pg.kSl3_ap, Pg.pNo_ap, Pg.pYes_ap, Pg.kPart_ap, Pg.revL_ap, Pg.kRvL_ap, Pg.kRvO_some, String.reduceEq, Int.reduceEq, if_true, if_false, Nat.reduceEqDiff, decide_not, beq_self_eq_true, true_and, and_true, decide_true, decide_false, Int.reduceLT, Int.reduceLE, Int.reduceNeg, Int.reduceAdd, Int.reduceSub, Int.reduceMul, Int.reducePow, Nat.reduceAdd, Nat.reduceSub, Nat.reduceLT, Nat.reduceLeDiff, Int.reduceToNat, Bool.not_true, Bool.not_false, G_put hp1 hp2, G_ne hpf1 hpf2, G_ne hpc1 hpc2, g1', hpc, kDatL_some (fits_ints fs 59), eqvL_self (fits_ints fs 59)]
        exact hnx2 _ _ ⟨_, _, _, _, _, rfl, rfl, by rw [Mv.supd_ne n1]; exact g1', by rw [Mv.supd_ne n2]; exact g2'⟩
end P07

set_option Elab.async false
set_option linter.all false
set_option maxRecDepth 100000
set_option maxHeartbeats 300000
namespace Rw
open PySem PySem.Spec PyProof.Rows L2 Mv
def top (i : Nat) : Stmt := PySem.Challenge.pw_rollwarden_k07_tests_of_lines.main.body.getD i (.Pass ⟨0, 0, 0, 0⟩)
abbrev s_value_of : Stmt := top 1
def d_value_of : He.DefD := ⟨("value_of", none), "value_of", "value_of", defArgs s_value_of, defBody s_value_of, defScope s_value_of, [], []⟩
abbrev s_holds : Stmt := top 2
def d_holds : He.DefD := ⟨("holds", none), "holds", "holds", defArgs s_holds, defBody s_holds, defScope s_holds, [], []⟩
abbrev s__law_next : Stmt := top 4
def d__law_next : He.DefD := ⟨("_law_next", none), "_law_next", "_law_next", defArgs s__law_next, defBody s__law_next, defScope s__law_next, [], []⟩
abbrev s__law_value : Stmt := top 5
def d__law_value : He.DefD := ⟨("_law_value", none), "_law_value", "_law_value", defArgs s__law_value, defBody s__law_value, defScope s__law_value, [], []⟩
abbrev s__law_holds : Stmt := top 6
def d__law_holds : He.DefD := ⟨("_law_holds", none), "_law_holds", "_law_holds", defArgs s__law_holds, defBody s__law_holds, defScope s__law_holds, [], []⟩
abbrev s__law_any : Stmt := top 7
def d__law_any : He.DefD := ⟨("_law_any", none), "_law_any", "_law_any", defArgs s__law_any, defBody s__law_any, defScope s__law_any, [], []⟩
abbrev s_law : Stmt := top 8
def d_law : He.DefD := ⟨("law", none), "law", "law", defArgs s_law, defBody s_law, defScope s_law, [], []⟩
def fn0 : List He.DefD := [d_value_of, d_holds, d__law_next, d__law_value, d__law_holds, d__law_any, d_law]
def fn : List He.DefD := fn0
def fa0 : List He.Fa := [.glo "value_of", .glo "holds", .glo "_law_next", .glo "_law_value", .glo "_law_holds", .glo "_law_any", .glo "law", .free "bool", .free "int", .free "isinstance", .free "len", .free "list", .free "range", .free "tuple"]
def fa : List He.Fa := fa0
/-! a Hook over a chosen part of the heap, and tables -/
def frcL {α : Type} : List Addr → (List Addr → α) → α
  | [], k => k []
  | a :: r, k => HandSHeadRun.frNat a fun a' => frcL r fun r' => k (a' :: r')
theorem frcL_eq {α : Type} : ∀ (l : List Addr) (k : List Addr → α), frcL l k = k l
  | [], k => rfl
  | a :: r, k => by
    show HandSHeadRun.frNat a (fun a' => frcL r fun r' => k (a' :: r')) = _
    rw [HandSHeadRun.frNat_eq, frcL_eq r]
def fnPart (fd : FuncData) : List Addr := He.refV fd.code ++ (He.refV fd.defaults ++ He.refV fd.kwdefaults)
def partOf (g : Addr → Option Obj) (a : Addr) : List Addr := match g a with
  | some o => (match o.data with
    | .func fd => a :: fnPart fd
    | .cls cd => a :: cd.ns :: (match g cd.ns with
      | some ns => (He.refsO ns).flatMap fun b => (match g b with
        | some ob => (match ob.data with
          | .func fd => b :: fnPart fd
          | _ => [])
        | none => [])
      | none => [])
    | .seq _ _ => [a]
    | _ => [])
  | none => []
def asX (g : Addr → Option Obj) : List Addr := mainGlobals :: (match g mainGlobals with
  | some o => (He.refsO o).flatMap (partOf g)
  | none => [])
abbrev AlX : Type := Bool × He.AlD
def obK (ts : List (Str × List He.Dv)) (fa : List He.Fa) (fn : List He.DefD) (K : PySem.W.Frag) : AlX := (ts.all fun t => He.tupB K t.1 t.2, He.obsD fa fn K)
structure SaysX (ts : List (Str × List He.Dv)) (fa : List He.Fa) (fn : List He.DefD) (K : PySem.W.Frag) : Prop where
  tabs : (ts.all fun t => He.tupB K t.1 t.2) = true
  says : He.SaysD fa fn K
theorem SaysX.tab {ts : List (Str × List He.Dv)} {fa : List He.Fa} {fn : List He.DefD} {K : PySem.W.Frag} (c : SaysX ts fa fn K) (i : Nat) {t : Str × List He.Dv} (h : ts[i]? = some t) : He.tupB K t.1 t.2 = true := List.all_eq_true.mp c.tabs t (List.mem_of_getElem? h)
def obsX (ts : List (Str × List He.Dv)) (fa : List He.Fa) (fn : List He.DefD) (g : Addr → Option Obj) : AlX := frcL (asX g) fun as => obK ts fa fn (He.frG g as)
theorem saysX_of {ts : List (Str × List He.Dv)} {fa : List He.Fa} {fn : List He.DefD} {K : PySem.W.Frag} (e : obK ts fa fn K = (true, He.valD fn)) : SaysX ts fa fn K := ⟨congrArg (fun z : AlX => z.1) e, congrArg (fun z : AlX => z.2) e⟩
def hookX (ts : List (Str × List He.Dv)) (fa : List He.Fa) (fn : List He.DefD) : PySem.W.Hook where
  α := AlX
  obs := fun s => obsX ts fa fn s.heap.get?
  val := fun _ => (true, He.valD fn)
  says := fun _ h => ∃ K : PySem.W.Frag, K.In h ∧ SaysX ts fa fn K
  of := fun _ s e => ⟨_, He.frG_in, saysX_of ((frcL_eq _ (fun as => obK ts fa fn (He.frG s.heap.get? as))).symm.trans e)⟩
  keeps := fun _ _ _ ⟨K, hK, c⟩ k => ⟨K, PySem.W.Frag.In.keeps hK k, c⟩
theorem obsX_eq {ts : List (Str × List He.Dv)} {fa : List He.Fa} {fn : List He.DefD} {g : Addr → Option Obj} {s : Shared} (h : ∀ a, g a = s.heap.get? a) : obsX ts fa fn g = (hookX ts fa fn).obs s := by
  have e : g = s.heap.get? := funext h
  rw [e] <;> rfl

def tbs : List (Str × List He.Dv) := []
abbrev R : PySem.W.OpenRow := PySem.W.OpenLaw.row PySem.Challenge.rw_rollwarden_k07_tests_of_lines
abbrev hk : PySem.W.Hook := hookX tbs fa fn
def ob (s : PySem.W.SharedT) : AlX := obsX tbs fa fn (HandSHeadRun.getT s)
theorem ob_eq (s : PySem.W.SharedT) : ob s = hk.obs s.abs := obsX_eq (HandSHeadRun.getT_eq s)
def loose0 : List PySem.Str := ["value_of", "holds", "_law_next", "_law_value", "_law_holds", "_law_any"]
def loose : List PySem.Str := loose0
theorem run (w : World) : HandSHeadRun.RunEq R (PySem.W.view R.prog [8]) hk ob 20000 loose w := by
  intro os
  kernel_rfl
structure Fx (K : PySem.W.Frag) (mg : Str → Option Value) (base : Heap) : Prop where
  says : SaysX tbs fa fn K
  inn : K.In base
  ns : base.Ns mainGlobals mg
section
variable {P : Program} {w : World} {K : PySem.W.Frag} {mg : Str → Option Value} {base : Heap}
theorem Fx.glo_value_of (F : Fx K mg base) : mg "value_of" = some (.ref (He.ga K "value_of")) := He.glo_ok F.inn F.ns (F.says.says.fact 0 rfl)
theorem Fx.glo_holds (F : Fx K mg base) : mg "holds" = some (.ref (He.ga K "holds")) := He.glo_ok F.inn F.ns (F.says.says.fact 1 rfl)
theorem Fx.glo__law_next (F : Fx K mg base) : mg "_law_next" = some (.ref (He.ga K "_law_next")) := He.glo_ok F.inn F.ns (F.says.says.fact 2 rfl)
theorem Fx.glo__law_value (F : Fx K mg base) : mg "_law_value" = some (.ref (He.ga K "_law_value")) := He.glo_ok F.inn F.ns (F.says.says.fact 3 rfl)
theorem Fx.glo__law_holds (F : Fx K mg base) : mg "_law_holds" = some (.ref (He.ga K "_law_holds")) := He.glo_ok F.inn F.ns (F.says.says.fact 4 rfl)
theorem Fx.glo__law_any (F : Fx K mg base) : mg "_law_any" = some (.ref (He.ga K "_law_any")) := He.glo_ok F.inn F.ns (F.says.says.fact 5 rfl)
theorem Fx.glo_law (F : Fx K mg base) : mg "law" = some (.ref (He.ga K "law")) := He.glo_ok F.inn F.ns (F.says.says.fact 6 rfl)
theorem Fx.z_bool (F : Fx K mg base) : mg "bool" = none := He.free_ok F.inn F.ns (F.says.says.fact 7 rfl)
theorem Fx.z_int (F : Fx K mg base) : mg "int" = none := He.free_ok F.inn F.ns (F.says.says.fact 8 rfl)
theorem Fx.z_isinstance (F : Fx K mg base) : mg "isinstance" = none := He.free_ok F.inn F.ns (F.says.says.fact 9 rfl)
theorem Fx.z_len (F : Fx K mg base) : mg "len" = none := He.free_ok F.inn F.ns (F.says.says.fact 10 rfl)
theorem Fx.z_list (F : Fx K mg base) : mg "list" = none := He.free_ok F.inn F.ns (F.says.says.fact 11 rfl)
theorem Fx.z_range (F : Fx K mg base) : mg "range" = none := He.free_ok F.inn F.ns (F.says.says.fact 12 rfl)
theorem Fx.z_tuple (F : Fx K mg base) : mg "tuple" = none := He.free_ok F.inn F.ns (F.says.says.fact 13 rfl)
abbrev N__law_next : List Str := ["_law_state", "_law_many", "_law_drawn", "_law_cell"]
theorem sc__law_next : FnScope N__law_next ["_law_state", "_law_many"] (defScope s__law_next) := ⟨by kernel_rfl, by kernel_rfl, by kernel_rfl, by decide +kernel, by kernel_rfl, by decide +kernel, by decide +kernel⟩
theorem c__law_next (F : Fx K mg base) : Cal P w K mg base [] (He.ga K "_law_next") ["_law_state", "_law_many"] 1 W__law_next := by
  obtain ⟨fd, FD⟩ := F.says.says.def_ 2 (d := d__law_next) rfl
  exact cal_mk (N := N__law_next) FD sc__law_next (FD.bindsN fun _ _ _ _ _ _ us hl => match us, hl with | [_, _], _ => rfl) fun cdv A outer s H E hr =>
  (eb_cons (es_if (et_cmp ro_lt (ee_ix ri_ix (evl 0) ee_int (fun _ _ => by kernel_rfl)) (evl 1) (nomark _)) (eb_one (es_if (et_cmp ro_gt (ee_callB cr_len (glk (by kernel_rfl)) F.z_len (by decide +kernel) (ea_cons (ee_ix ri_ix (evl 0) ee_int (fun _ _ => by kernel_rfl)) ea_nil)) ee_int (nomark _)) (eb_cons (es_set (i := 3) sc__law_next.nd (by kernel_rfl) (.inl (by kernel_rfl)) (ee_bm PySem.F.plainAttrs_list PySem.F.slot_list_pop PySem.F.type_list_pop mr_pop (ee_ix ri_ix (evl 0) ee_int (fun _ _ => by kernel_rfl)) (ea_cons ee_int ea_nil)) (hf := (.inr (by kernel_rfl))))
  (eb_cons (es_sub (hu1 hr) (evl 0) ee_int (ee_if (et_cmp ro_ge (evl 3) ee_int (nomark _)) (ee_op ro_mul ee_int (evl 3)) (ee_op ro_sub (ee_op ro_mul (ee_neg ee_int) (evl 3)) ee_int)))
  (eb_one (es_sub (hu1 hr) (evl 0) ee_int (ee_op ro_mod (ee_callTy cr_int (glk (by kernel_rfl)) F.z_int (by decide +kernel) (ea_cons (ee_op ro_add (ee_op ro_mul (ee_ix ri_ix (evl 0) ee_int (fun _ _ => by kernel_rfl)) ee_int) (ee_ix ri_ix (evl 0) ee_int (fun _ _ => by kernel_rfl))) ea_nil)) ee_int))))) (eb_cons (es_sub (hu1 hr) (evl 0) ee_int (ee_op ro_mod (ee_callTy cr_int (glk (by kernel_rfl)) F.z_int (by decide +kernel) (ea_cons (ee_op ro_add (ee_op ro_mul (ee_ix ri_ix (evl 0) ee_int (fun _ _ => by kernel_rfl)) ee_int) ee_int) ea_nil)) ee_int))
  (eb_one (es_sub (hu1 hr) (evl 0) ee_int (ee_op ro_mod (ee_callTy cr_int (glk (by kernel_rfl)) F.z_int (by decide +kernel) (ea_cons (ee_op ro_mul (ee_ix ri_ix (evl 0) ee_int (fun _ _ => by kernel_rfl)) (ee_ix ri_ix (evl 0) ee_int (fun _ _ => by kernel_rfl))) ea_nil)) ee_int)))))) eb_nil)
  (eb_cons (es_set (i := 2) sc__law_next.nd (by kernel_rfl) (.inl (by kernel_rfl)) (ee_op ro_mod (ee_callTy cr_int (glk (by kernel_rfl)) F.z_int (by decide +kernel) (ea_cons (ee_ix ri_ix (evl 0) ee_int (fun _ _ => by kernel_rfl)) ea_nil)) (evl 1)) (hf := (.inr (by kernel_rfl))))
  (eb_cons (es_sub (hu1 hr) (evl 0) ee_int (ee_op ro_fdiv (ee_ix ri_ix (evl 0) ee_int (fun _ _ => by kernel_rfl)) (evl 1)))
  (eb_one (es_ret (evl 2))))))
abbrev N__law_any : List Str := ["_law_state", "_law_fields", "_law_values", "_law_kind"]
theorem sc__law_any : FnScope N__law_any ["_law_state", "_law_fields", "_law_values"] (defScope s__law_any) := ⟨by kernel_rfl, by kernel_rfl, by kernel_rfl, by decide +kernel, by kernel_rfl, by decide +kernel, by decide +kernel⟩
theorem c__law_any (F : Fx K mg base) : Cal P w K mg base [] (He.ga K "_law_any") ["_law_state", "_law_fields", "_law_values"] 2 W__law_any := by
  obtain ⟨fd, FD⟩ := F.says.says.def_ 5 (d := d__law_any) rfl
  exact cal_mk (N := N__law_any) FD sc__law_any (FD.bindsN fun _ _ _ _ _ _ us hl => match us, hl with | [_, _, _], _ => rfl) fun cdv A outer s H E hr =>
  (eb_cons (es_set (i := 3) sc__law_any.nd (by kernel_rfl) (.inl (by kernel_rfl)) (ee_call (c__law_next F) hr (by decide) (glk (by kernel_rfl)) F.glo__law_next (ea_cons (evl 0) (ea_cons ee_int ea_nil))) (hf := (.inr (by kernel_rfl))))
  (eb_cons (es_if (et_cmp (ro_eq (hu64 hr)) (evl 3) ee_int (nomark _)) (eb_one (es_ret (ee_tup (ea_cons ee_str ea_nil)))) eb_nil)
  (eb_cons (es_if (et_cmp (ro_eq (hu64 hr)) (evl 3) ee_int (nomark _)) (eb_one (es_ret (ee_tup (ea_cons ee_str ea_nil)))) eb_nil)
  (eb_cons (es_if (et_cmp (ro_eq (hu64 hr)) (evl 3) ee_int (nomark _)) (eb_one (es_ret (ee_tup (ea_cons ee_str (ea_cons (ee_call (c__law_next F) hr (by decide) (glk (by kernel_rfl)) F.glo__law_next (ea_cons (evl 0) (ea_cons (ee_callB cr_len (glk (by kernel_rfl)) F.z_len (by decide +kernel) (ea_cons (evl 1) ea_nil)) ea_nil))) ea_nil))))) eb_nil)
  (eb_cons (es_if (EW.et (ew_and (et_cmp (ro_eq (hu64 hr)) (evl 3) ee_int (nomark _)) (ew_and1 (et_cmp ro_gt (ee_callB cr_len (glk (by kernel_rfl)) F.z_len (by decide +kernel) (ea_cons (evl 2) ea_nil)) ee_int (nomark _))))) (eb_one (es_ret (ee_tup (ea_cons ee_str (ea_cons (ee_call (c__law_next F) hr (by decide) (glk (by kernel_rfl)) F.glo__law_next (ea_cons (evl 0) (ea_cons (ee_callB cr_len (glk (by kernel_rfl)) F.z_len (by decide +kernel) (ea_cons (evl 2) ea_nil)) ea_nil))) ea_nil))))) eb_nil)
  (eb_one (es_ret (ee_tup (ea_cons ee_str (ea_cons (ee_call (c__law_next F) hr (by decide) (glk (by kernel_rfl)) F.glo__law_next (ea_cons (evl 0) (ea_cons ee_int ea_nil))) ea_nil))))))))))
abbrev N__law_value : List Str := ["_law_expr", "_law_fields", "_law_values", "_law_arg", "_law_got"]
theorem sc__law_value : FnScope N__law_value ["_law_expr", "_law_fields", "_law_values", "_law_arg", "_law_got"] (defScope s__law_value) := ⟨by kernel_rfl, by kernel_rfl, by kernel_rfl, by decide +kernel, by kernel_rfl, by decide +kernel, by decide +kernel⟩
theorem c__law_value (F : Fx K mg base) : Cal P w K mg base [] (He.ga K "_law_value") ["_law_expr", "_law_fields", "_law_values", "_law_arg", "_law_got"] 1 W__law_value := by
  obtain ⟨fd, FD⟩ := F.says.says.def_ 3 (d := d__law_value) rfl
  exact cal_mk (N := N__law_value) FD sc__law_value (FD.bindsN fun _ _ _ _ _ _ us hl => match us, hl with | [_, _, _, _, _], _ => rfl) fun cdv A outer s H E hr =>
  (eb_cons (es_if (et_cmp (ro_eq (hu64 hr)) (ee_ix ri_ix (evl 0) ee_int (fun _ _ => by kernel_rfl)) ee_str (nomark _)) (eb_one (es_ret (ee_ix ri_ix (evl 0) ee_int (fun _ _ => by kernel_rfl)))) eb_nil)
  (eb_cons (es_if (et_cmp (ro_eq (hu64 hr)) (ee_ix ri_ix (evl 0) ee_int (fun _ _ => by kernel_rfl)) ee_str (nomark _)) (eb_one (es_ret (ee_ix ri_ix (evl 1) (ee_ix ri_ix (evl 0) ee_int (fun _ _ => by kernel_rfl)) (fun _ _ => by kernel_rfl)))) eb_nil)
  (eb_cons (es_if (et_cmp (ro_eq (hu64 hr)) (ee_ix ri_ix (evl 0) ee_int (fun _ _ => by kernel_rfl)) ee_str (nomark _)) (eb_one (es_ret (ee_ix ri_ix (evl 2) (ee_ix ri_ix (evl 0) ee_int (fun _ _ => by kernel_rfl)) (fun _ _ => by kernel_rfl)))) eb_nil)
  (eb_one (es_ret (ee_if (et_cmp (ro_eq (hu64 hr)) (ee_ix ri_ix (evl 0) ee_int (fun _ _ => by kernel_rfl)) ee_str (nomark _)) (evl 3) (evl 4)))))))
abbrev N__law_holds : List Str := ["_law_test", "_law_fields", "_law_values", "_law_arg", "_law_got", "_law_left", "_law_right"]
theorem sc__law_holds : FnScope N__law_holds ["_law_test", "_law_fields", "_law_values", "_law_arg", "_law_got"] (defScope s__law_holds) := ⟨by kernel_rfl, by kernel_rfl, by kernel_rfl, by decide +kernel, by kernel_rfl, by decide +kernel, by decide +kernel⟩
theorem c__law_holds (F : Fx K mg base) : Cal P w K mg base [] (He.ga K "_law_holds") ["_law_test", "_law_fields", "_law_values", "_law_arg", "_law_got"] 2 W__law_holds := by
  obtain ⟨fd, FD⟩ := F.says.says.def_ 4 (d := d__law_holds) rfl
  exact cal_mk (N := N__law_holds) FD sc__law_holds (FD.bindsN fun _ _ _ _ _ _ us hl => match us, hl with | [_, _, _, _, _], _ => rfl) fun cdv A outer s H E hr =>
  (eb_cons (es_if (et_cmp ro_is (evl 0) ee_non (nomark _)) (eb_one (es_ret ee_bl)) eb_nil)
  (eb_cons (es_set (i := 5) sc__law_holds.nd (by kernel_rfl) (.inl (by kernel_rfl)) (ee_call (c__law_value F) hr (by decide) (glk (by kernel_rfl)) F.glo__law_value (ea_cons (ee_ix ri_ix (evl 0) ee_int (fun _ _ => by kernel_rfl)) (ea_cons (evl 1) (ea_cons (evl 2) (ea_cons (evl 3) (ea_cons (evl 4) ea_nil)))))) (hf := (.inr (by kernel_rfl))))
  (eb_cons (es_set (i := 6) sc__law_holds.nd (by kernel_rfl) (.inl (by kernel_rfl)) (ee_call (c__law_value F) hr (by decide) (glk (by kernel_rfl)) F.glo__law_value (ea_cons (ee_ix ri_ix (evl 0) ee_int (fun _ _ => by kernel_rfl)) (ea_cons (evl 1) (ea_cons (evl 2) (ea_cons (evl 3) (ea_cons (evl 4) ea_nil)))))) (hf := (.inr (by kernel_rfl))))
  (eb_one (es_ret (ee_dget (hu1 hr) (ee_disp (ed_cons (ee_cmp (ro_eq (hu64 hr)) (evl 5) (evl 6) (nomark _)) (ed_cons (ee_not (ee_cmp (ro_eq (hu64 hr)) (evl 5) (evl 6) (nomark _))) (ed_cons (ee_cmp ro_lt (evl 5) (evl 6) (nomark _)) ed_nil)))) (ee_ix ri_ix (evl 0) ee_int (fun _ _ => by kernel_rfl)) (fun _ _ => by kernel_rfl)))))))
abbrev N_value_of : List Str := ["expr", "fields", "values", "arg", "got", "kind"]
theorem sc_value_of : FnScope N_value_of ["expr", "fields", "values", "arg", "got"] (defScope s_value_of) := ⟨by kernel_rfl, by kernel_rfl, by kernel_rfl, by decide +kernel, by kernel_rfl, by decide +kernel, by decide +kernel⟩
theorem c_value_of (F : Fx K mg base) : Cal P w K mg base [] (He.ga K "value_of") ["expr", "fields", "values", "arg", "got"] 1 W_value_of := by
  obtain ⟨fd, FD⟩ := F.says.says.def_ 0 (d := d_value_of) rfl
  exact cal_mk (N := N_value_of) FD sc_value_of (FD.bindsN fun _ _ _ _ _ _ us hl => match us, hl with | [_, _, _, _, _], _ => rfl) fun cdv A outer s H E hr =>
  (eb_cons (es_set (i := 5) sc_value_of.nd (by kernel_rfl) (.inl (by kernel_rfl)) (ee_ix ri_ix (evl 0) ee_int (fun _ _ => by kernel_rfl)) (hf := (.inr (by kernel_rfl))))
  (eb_cons (es_if (et_cmp (ro_eq (hu64 hr)) (evl 5) ee_str (nomark _)) (eb_one (es_ret (ee_ix ri_ix (evl 0) ee_int (fun _ _ => by kernel_rfl)))) eb_nil)
  (eb_cons (es_if (et_cmp (ro_eq (hu64 hr)) (evl 5) ee_str (nomark _)) (eb_one (es_ret (evl 3))) eb_nil)
  (eb_cons (es_if (et_cmp (ro_eq (hu64 hr)) (evl 5) ee_str (nomark _)) (eb_one (es_ret (evl 4))) eb_nil)
  (eb_cons (es_if (et_cmp (ro_eq (hu64 hr)) (evl 5) ee_str (nomark _)) (eb_one (es_ret (ee_ix ri_ix (evl 1) (ee_ix ri_ix (evl 0) ee_int (fun _ _ => by kernel_rfl)) (fun _ _ => by kernel_rfl)))) eb_nil)
  (eb_one (es_ret (ee_ix ri_ix (evl 2) (ee_ix ri_ix (evl 0) ee_int (fun _ _ => by kernel_rfl)) (fun _ _ => by kernel_rfl)))))))))
abbrev N_holds : List Str := ["test", "fields", "values", "arg", "got", "left", "right"]
theorem sc_holds : FnScope N_holds ["test", "fields", "values", "arg", "got"] (defScope s_holds) := ⟨by kernel_rfl, by kernel_rfl, by kernel_rfl, by decide +kernel, by kernel_rfl, by decide +kernel, by decide +kernel⟩
theorem c_holds (F : Fx K mg base) : Cal P w K mg base [] (He.ga K "holds") ["test", "fields", "values", "arg", "got"] 2 W_holds := by
  obtain ⟨fd, FD⟩ := F.says.says.def_ 1 (d := d_holds) rfl
  exact cal_mk (N := N_holds) FD sc_holds (FD.bindsN fun _ _ _ _ _ _ us hl => match us, hl with | [_, _, _, _, _], _ => rfl) fun cdv A outer s H E hr =>
  (eb_cons (es_if (et_cmp ro_is (evl 0) ee_non (nomark _)) (eb_one (es_ret ee_bl)) eb_nil)
  (eb_cons (es_set (i := 5) sc_holds.nd (by kernel_rfl) (.inl (by kernel_rfl)) (ee_call (c_value_of F) hr (by decide) (glk (by kernel_rfl)) F.glo_value_of (ea_cons (ee_ix ri_ix (evl 0) ee_int (fun _ _ => by kernel_rfl)) (ea_cons (evl 1) (ea_cons (evl 2) (ea_cons (evl 3) (ea_cons (evl 4) ea_nil)))))) (hf := (.inr (by kernel_rfl))))
  (eb_cons (es_set (i := 6) sc_holds.nd (by kernel_rfl) (.inl (by kernel_rfl)) (ee_call (c_value_of F) hr (by decide) (glk (by kernel_rfl)) F.glo_value_of (ea_cons (ee_ix ri_ix (evl 0) ee_int (fun _ _ => by kernel_rfl)) (ea_cons (evl 1) (ea_cons (evl 2) (ea_cons (evl 3) (ea_cons (evl 4) ea_nil)))))) (hf := (.inr (by kernel_rfl))))
  (eb_cons (es_if (et_cmp (ro_eq (hu64 hr)) (ee_ix ri_ix (evl 0) ee_int (fun _ _ => by kernel_rfl)) ee_str (nomark _)) (eb_one (es_ret (ee_cmp (ro_eq (hu64 hr)) (evl 5) (evl 6) (nomark _)))) eb_nil)
  (eb_cons (es_if (et_cmp (ro_eq (hu64 hr)) (ee_ix ri_ix (evl 0) ee_int (fun _ _ => by kernel_rfl)) ee_str (nomark _)) (eb_one (es_ret (ee_cmp (ro_ne (hu64 hr)) (evl 5) (evl 6) (nomark _)))) eb_nil)
  (eb_one (es_ret (ee_cmp ro_lt (evl 5) (evl 6) (nomark _)))))))))
abbrev N_law : List Str := ["_law_script", "_law_state", "_law_k", "_law_fields", "_law_values", "_law_arg", "_law_got", "_law_left", "_law_right", "_law_sign", "_law_handed", "_law_told", "_law_j"]
theorem sc_law : FnScope N_law ["_law_script"] (defScope s_law) := ⟨by kernel_rfl, by kernel_rfl, by kernel_rfl, by decide +kernel, by kernel_rfl, by decide +kernel, by decide +kernel⟩
theorem c_law (F : Fx K mg base) : Cal P w K mg base [] (He.ga K "law") ["_law_script"] 3 W_law := by
  obtain ⟨fd, FD⟩ := F.says.says.def_ 6 (d := d_law) rfl
  exact cal_mk (N := N_law) FD sc_law (FD.bindsN fun _ _ _ _ _ _ us hl => match us, hl with | [_], _ => rfl) fun cdv A outer s H E hr =>
  (eb_cons (es_set (i := 1) sc_law.nd (by kernel_rfl) (.inr (by kernel_rfl)) (ee_lst (ea_cons (ee_callTy cr_list (glk (by kernel_rfl)) F.z_list (by decide +kernel) (ea_cons (evl 0) ea_nil)) (ea_cons ee_int (ea_cons ee_int ea_nil)))) (hf := (.inl (by kernel_rfl))))
  (eb_cons (es_for PassesOwn.never (by kernel_rfl) (ei_rng1 (glk (by kernel_rfl)) F.z_range (ea_cons (ee_op ro_add ee_int (ee_call (c__law_next F) hr (by decide) (glk (by kernel_rfl)) F.glo__law_next (ea_cons (evc 1) (ea_cons ee_int ea_nil)))) ea_nil)) (eg_nm (i := 2) sc_law.nd (by kernel_rfl) (.inl (by kernel_rfl)) (.inr (by kernel_rfl))) (eb_cons (es_setlc (i := 3) (by kernel_rfl) sc_law.nd (by kernel_rfl) (by kernel_rfl) (sw_true (by kernel_rfl) (by kernel_rfl) (by kernel_rfl) (by kernel_rfl)) (ei_rng1 (glk (by kernel_rfl)) F.z_range (ea_cons (ee_op ro_add ee_int (ee_call (c__law_next F) hr (by decide) (glk (by kernel_rfl)) F.glo__law_next (ea_cons (evc 1) (ea_cons ee_int ea_nil)))) ea_nil)) (blkOk_by (own := [("_law_j", 12)]) (by kernel_rfl)) (fun _ _ _ _ _ => (eg_nm (i := 12) sc_law.nd (by kernel_rfl) (.inl (by kernel_rfl)) (.inr (by kernel_rfl)))) (fun _ _ _ _ _ => ets_nil) (fun _ _ _ _ _ => (ee_call (c__law_next F) hr (by decide) (glk (by kernel_rfl)) F.glo__law_next (ea_cons (evc 1) (ea_cons ee_int ea_nil)))))
  (eb_cons (es_set (i := 4) sc_law.nd (by kernel_rfl) (.inl (by kernel_rfl)) (ee_callTy cr_tuple (glk (by kernel_rfl)) F.z_tuple (by decide +kernel) (ea_cons (ee_lc (by kernel_rfl) sc_law.nd (ei_rng1 (glk (by kernel_rfl)) F.z_range (ea_cons (ee_call (c__law_next F) hr (by decide) (glk (by kernel_rfl)) F.glo__law_next (ea_cons (evc 1) (ea_cons ee_int ea_nil))) ea_nil)) (blkOk_by (own := [("_law_j", 12)]) (by kernel_rfl)) (fun _ _ _ _ _ => (eg_nm (i := 12) sc_law.nd (by kernel_rfl) (.inl (by kernel_rfl)) (.inr (by kernel_rfl)))) (fun _ _ _ _ _ => ets_nil) (fun _ _ _ _ _ => (ee_call (c__law_next F) hr (by decide) (glk (by kernel_rfl)) F.glo__law_next (ea_cons (evc 1) (ea_cons ee_int ea_nil))))) ea_nil)) (hf := (.inr (by kernel_rfl))))
  (eb_cons (es_set (i := 5) sc_law.nd (by kernel_rfl) (.inl (by kernel_rfl)) (ee_call (c__law_next F) hr (by decide) (glk (by kernel_rfl)) F.glo__law_next (ea_cons (evc 1) (ea_cons ee_int ea_nil))) (hf := (.inr (by kernel_rfl))))
  (eb_cons (es_set (i := 6) sc_law.nd (by kernel_rfl) (.inl (by kernel_rfl)) (ee_op ro_sub (ee_call (c__law_next F) hr (by decide) (glk (by kernel_rfl)) F.glo__law_next (ea_cons (evc 1) (ea_cons ee_int ea_nil))) ee_int) (hf := (.inr (by kernel_rfl))))
  (eb_cons (es_set (i := 7) sc_law.nd (by kernel_rfl) (.inl (by kernel_rfl)) (ee_call (c__law_any F) hr (by decide) (glk (by kernel_rfl)) F.glo__law_any (ea_cons (evc 1) (ea_cons (evl 3) (ea_cons (evl 4) ea_nil)))) (hf := (.inr (by kernel_rfl))))
  (eb_cons (es_set (i := 8) sc_law.nd (by kernel_rfl) (.inl (by kernel_rfl)) (ee_call (c__law_any F) hr (by decide) (glk (by kernel_rfl)) F.glo__law_any (ea_cons (evc 1) (ea_cons (evl 3) (ea_cons (evl 4) ea_nil)))) (hf := (.inr (by kernel_rfl))))
  (eb_cons (es_if (et_cmp (ro_eq (hu64 hr)) (ee_call (c__law_next F) hr (by decide) (glk (by kernel_rfl)) F.glo__law_next (ea_cons (evc 1) (ea_cons ee_int ea_nil))) ee_int (nomark _)) (eb_one (es_set (i := 8) sc_law.nd (by kernel_rfl) (.inl (by kernel_rfl)) (evl 7) (hf := (.inr (by kernel_rfl))))) eb_nil)
  (eb_cons (es_for PassesOwn.never (by kernel_rfl) (ei_of (ee_lst (ea_cons ee_str (ea_cons ee_str (ea_cons ee_str ea_nil))))) (eg_nm (i := 9) sc_law.nd (by kernel_rfl) (.inl (by kernel_rfl)) (.inr (by kernel_rfl))) (eb_cons (es_set (i := 10) sc_law.nd (by kernel_rfl) (.inl (by kernel_rfl)) (ee_callTy cr_list (glk (by kernel_rfl)) F.z_list (by decide +kernel) (ea_cons (evl 3) ea_nil)) (hf := (.inr (by kernel_rfl))))
  (eb_cons (es_set (i := 11) sc_law.nd (by kernel_rfl) (.inl (by kernel_rfl)) (ee_call (c_holds F) hr (by decide) (glk (by kernel_rfl)) F.glo_holds (ea_cons (ee_tup (ea_cons (evl 7) (ea_cons (evl 9) (ea_cons (evl 8) ea_nil)))) (ea_cons (evl 10) (ea_cons (evl 4) (ea_cons (evl 5) (ea_cons (evl 6) ea_nil)))))) (hf := (.inr (by kernel_rfl))))
  (eb_cons (es_if (EW.et (ew_or (et_not (et_tru (ee_isi (evl 11) (glk (by kernel_rfl)) F.z_isinstance (glk (by kernel_rfl)) F.z_bool (by decide +kernel) (by decide)))) (ew_or1 (et_cmp (ro_ne (hu64 hr)) (evl 11) (ee_call (c__law_holds F) hr (by decide) (glk (by kernel_rfl)) F.glo__law_holds (ea_cons (ee_tup (ea_cons (evl 7) (ea_cons (evl 9) (ea_cons (evl 8) ea_nil)))) (ea_cons (evl 3) (ea_cons (evl 4) (ea_cons (evl 5) (ea_cons (evl 6) ea_nil)))))) (nomark _))))) (eb_one (es_ret ee_bl)) eb_nil)
  (eb_one (es_if (et_cmp (ro_ne (hu64 hr)) (evl 10) (evl 3) (nomark _)) (eb_one (es_ret ee_bl)) eb_nil))))))
  (eb_one (es_if (et_cmp ro_isnot (ee_call (c_holds F) hr (by decide) (glk (by kernel_rfl)) F.glo_holds (ea_cons ee_non (ea_cons (evl 3) (ea_cons (evl 4) (ea_cons (evl 5) (ea_cons (evl 6) ea_nil)))))) ee_bl (nomark _)) (eb_one (es_ret ee_bl)) eb_nil)))))))))))
  (eb_one (es_ret ee_bl))))
theorem facts {h : Heap} {f : Addr} (X : K.In h) (G : h.Ns mainGlobals mg) (hfa : mg ("law" : Str) = some (.ref f)) (c : SaysX tbs fa fn K) :
    ∃ fd : FuncData, (∀ (s : Shared) (v : Value), BindsTo s fd ⟨[v], []⟩ [("_law_script", v)]) ∧ ∀ base : Heap, K.In base → base.Ns mainGlobals mg → FnOk P w K mg base CX0 3 f fd ["_law_script"] (spM K [] 1 W_law) := by
  obtain ⟨fd, FD⟩ := c.says.def_ 6 (d := d_law) rfl
  have e := hfa.symm.trans (He.glo_ok X G (c.says.fact 6 (f := .glo "law") rfl))
  cases e
  have b := FunD.bindsA (ps := ["_law_script"]) FD fun _ _ _ _ _ _ us hl => match us, hl with | [_], _ => rfl
  refine ⟨fd, fun s v => b s [v] rfl, fun base hb hn => ?_⟩
  have F : Fx K mg base := ⟨c, hb, hn⟩
  exact fn_sp (N := N_law) FD sc_law fun cdv A outer s H E hr =>
  (eb_cons (es_set (i := 1) sc_law.nd (by kernel_rfl) (.inr (by kernel_rfl)) (ee_lst (ea_cons (ee_callTy cr_list (glk (by kernel_rfl)) F.z_list (by decide +kernel) (ea_cons (evl 0) ea_nil)) (ea_cons ee_int (ea_cons ee_int ea_nil)))) (hf := (.inl (by kernel_rfl))))
  (eb_cons (es_for PassesOwn.never (by kernel_rfl) (ei_rng1 (glk (by kernel_rfl)) F.z_range (ea_cons (ee_op ro_add ee_int (ee_call (c__law_next F) hr (by decide) (glk (by kernel_rfl)) F.glo__law_next (ea_cons (evc 1) (ea_cons ee_int ea_nil)))) ea_nil)) (eg_nm (i := 2) sc_law.nd (by kernel_rfl) (.inl (by kernel_rfl)) (.inr (by kernel_rfl))) (eb_cons (es_setlc (i := 3) (by kernel_rfl) sc_law.nd (by kernel_rfl) (by kernel_rfl) (sw_true (by kernel_rfl) (by kernel_rfl) (by kernel_rfl) (by kernel_rfl)) (ei_rng1 (glk (by kernel_rfl)) F.z_range (ea_cons (ee_op ro_add ee_int (ee_call (c__law_next F) hr (by decide) (glk (by kernel_rfl)) F.glo__law_next (ea_cons (evc 1) (ea_cons ee_int ea_nil)))) ea_nil)) (blkOk_by (own := [("_law_j", 12)]) (by kernel_rfl)) (fun _ _ _ _ _ => (eg_nm (i := 12) sc_law.nd (by kernel_rfl) (.inl (by kernel_rfl)) (.inr (by kernel_rfl)))) (fun _ _ _ _ _ => ets_nil) (fun _ _ _ _ _ => (ee_call (c__law_next F) hr (by decide) (glk (by kernel_rfl)) F.glo__law_next (ea_cons (evc 1) (ea_cons ee_int ea_nil)))))
  (eb_cons (es_set (i := 4) sc_law.nd (by kernel_rfl) (.inl (by kernel_rfl)) (ee_callTy cr_tuple (glk (by kernel_rfl)) F.z_tuple (by decide +kernel) (ea_cons (ee_lc (by kernel_rfl) sc_law.nd (ei_rng1 (glk (by kernel_rfl)) F.z_range (ea_cons (ee_call (c__law_next F) hr (by decide) (glk (by kernel_rfl)) F.glo__law_next (ea_cons (evc 1) (ea_cons ee_int ea_nil))) ea_nil)) (blkOk_by (own := [("_law_j", 12)]) (by kernel_rfl)) (fun _ _ _ _ _ => (eg_nm (i := 12) sc_law.nd (by kernel_rfl) (.inl (by kernel_rfl)) (.inr (by kernel_rfl)))) (fun _ _ _ _ _ => ets_nil) (fun _ _ _ _ _ => (ee_call (c__law_next F) hr (by decide) (glk (by kernel_rfl)) F.glo__law_next (ea_cons (evc 1) (ea_cons ee_int ea_nil))))) ea_nil)) (hf := (.inr (by kernel_rfl))))
  (eb_cons (es_set (i := 5) sc_law.nd (by kernel_rfl) (.inl (by kernel_rfl)) (ee_call (c__law_next F) hr (by decide) (glk (by kernel_rfl)) F.glo__law_next (ea_cons (evc 1) (ea_cons ee_int ea_nil))) (hf := (.inr (by kernel_rfl))))
  (eb_cons (es_set (i := 6) sc_law.nd (by kernel_rfl) (.inl (by kernel_rfl)) (ee_op ro_sub (ee_call (c__law_next F) hr (by decide) (glk (by kernel_rfl)) F.glo__law_next (ea_cons (evc 1) (ea_cons ee_int ea_nil))) ee_int) (hf := (.inr (by kernel_rfl))))
  (eb_cons (es_set (i := 7) sc_law.nd (by kernel_rfl) (.inl (by kernel_rfl)) (ee_call (c__law_any F) hr (by decide) (glk (by kernel_rfl)) F.glo__law_any (ea_cons (evc 1) (ea_cons (evl 3) (ea_cons (evl 4) ea_nil)))) (hf := (.inr (by kernel_rfl))))
  (eb_cons (es_set (i := 8) sc_law.nd (by kernel_rfl) (.inl (by kernel_rfl)) (ee_call (c__law_any F) hr (by decide) (glk (by kernel_rfl)) F.glo__law_any (ea_cons (evc 1) (ea_cons (evl 3) (ea_cons (evl 4) ea_nil)))) (hf := (.inr (by kernel_rfl))))
  (eb_cons (es_if (et_cmp (ro_eq (hu64 hr)) (ee_call (c__law_next F) hr (by decide) (glk (by kernel_rfl)) F.glo__law_next (ea_cons (evc 1) (ea_cons ee_int ea_nil))) ee_int (nomark _)) (eb_one (es_set (i := 8) sc_law.nd (by kernel_rfl) (.inl (by kernel_rfl)) (evl 7) (hf := (.inr (by kernel_rfl))))) eb_nil)
  (eb_cons (es_for PassesOwn.never (by kernel_rfl) (ei_of (ee_lst (ea_cons ee_str (ea_cons ee_str (ea_cons ee_str ea_nil))))) (eg_nm (i := 9) sc_law.nd (by kernel_rfl) (.inl (by kernel_rfl)) (.inr (by kernel_rfl))) (eb_cons (es_set (i := 10) sc_law.nd (by kernel_rfl) (.inl (by kernel_rfl)) (ee_callTy cr_list (glk (by kernel_rfl)) F.z_list (by decide +kernel) (ea_cons (evl 3) ea_nil)) (hf := (.inr (by kernel_rfl))))
  (eb_cons (es_set (i := 11) sc_law.nd (by kernel_rfl) (.inl (by kernel_rfl)) (ee_call (c_holds F) hr (by decide) (glk (by kernel_rfl)) F.glo_holds (ea_cons (ee_tup (ea_cons (evl 7) (ea_cons (evl 9) (ea_cons (evl 8) ea_nil)))) (ea_cons (evl 10) (ea_cons (evl 4) (ea_cons (evl 5) (ea_cons (evl 6) ea_nil)))))) (hf := (.inr (by kernel_rfl))))
  (eb_cons (es_if (EW.et (ew_or (et_not (et_tru (ee_isi (evl 11) (glk (by kernel_rfl)) F.z_isinstance (glk (by kernel_rfl)) F.z_bool (by decide +kernel) (by decide)))) (ew_or1 (et_cmp (ro_ne (hu64 hr)) (evl 11) (ee_call (c__law_holds F) hr (by decide) (glk (by kernel_rfl)) F.glo__law_holds (ea_cons (ee_tup (ea_cons (evl 7) (ea_cons (evl 9) (ea_cons (evl 8) ea_nil)))) (ea_cons (evl 3) (ea_cons (evl 4) (ea_cons (evl 5) (ea_cons (evl 6) ea_nil)))))) (nomark _))))) (eb_one (es_ret ee_bl)) eb_nil)
  (eb_one (es_if (et_cmp (ro_ne (hu64 hr)) (evl 10) (evl 3) (nomark _)) (eb_one (es_ret ee_bl)) eb_nil))))))
  (eb_one (es_if (et_cmp ro_isnot (ee_call (c_holds F) hr (by decide) (glk (by kernel_rfl)) F.glo_holds (ea_cons ee_non (ea_cons (evl 3) (ea_cons (evl 4) (ea_cons (evl 5) (ea_cons (evl 6) ea_nil)))))) ee_bl (nomark _)) (eb_one (es_ret ee_bl)) eb_nil)))))))))))
  (eb_one (es_ret ee_bl))))
end
end Rw
open PySem PySem.W PySem.Calls PyProof.Rows in
theorem Rw.holds_of (hW : ∀ ns : List Int, ns.length ≤ 63 → Rw.W_law [.frz (ns.map Mv.MV.int)] Mv.sto0 (fun v _ => v = .bl true)) : PySem.Challenge.rw_rollwarden_k07_tests_of_lines.Holds := by
  w_on; o_law
  refine HandSHeadRun.head_any (r := OpenLaw.row PySem.Challenge.rw_rollwarden_k07_tests_of_lines) (q := view (OpenLaw.row PySem.Challenge.rw_rollwarden_k07_tests_of_lines).prog [8]) (H := Rw.hk) (ob := Rw.ob) (M := 20000) (loose := Rw.loose) (d := HandSHeadRun.topDef (OpenLaw.row PySem.Challenge.rw_rollwarden_k07_tests_of_lines).prog 8) (kwd := []) Rw.ob_eq
    (by kernel_rfl) (fun s => by kernel_rfl) Rw.run (by kernel_rfl) (by kernel_rfl) (by kernel_rfl) (by rfl) (by first | assumption | decide +kernel) (by decide +kernel) ⟨rfl, rfl, rfl, rfl, rfl, by decide +kernel⟩ ?hw ?hc
  case hw => w_witness2
  case hc =>
    refine L2.walk_ofE (l := PySem.Challenge.rw_rollwarden_k07_tests_of_lines) (n := 63) (k := 3) (x := "_law_script") (CX := L2.CX0) rfl (by decide) (by kernel_rfl) ⟨rfl, by decide, by decide⟩ ?F (fun _ _ _ _ z => z)
    intro w mg fa h Y G hmg0
    obtain ⟨K, KX, c⟩ := Y
    have hmg : mg ("law" : PySem.Str) = some (.ref fa) := by
      have e : (HandSHeadRun.topDef (OpenLaw.row PySem.Challenge.rw_rollwarden_k07_tests_of_lines).prog 8).name = ("law" : PySem.Str) := by kernel_rfl
      rw [← e]
      exact hmg0
    obtain ⟨fd, hb, hF⟩ := Rw.facts (P := (PySem.Challenge.rw_rollwarden_k07_tests_of_lines).prog) (w := w) KX G hmg c
    refine ⟨K, fd, Mv.spM K [] 1 Rw.W_law, KX, hb, fun H a ns hl ho hS => ⟨rfl, [.frz (ns.map Mv.MV.int)], Mv.sto0, _, Mv.RMs.cons (Mv.rm_script hS ho) Mv.RMs.nil, Mv.rs0, hW ns hl, fun v H' q => ?_⟩, hF⟩
    obtain ⟨m, S', t, r, s, e⟩ := q
    subst e
    unfold Mv.RM at r
    exact r
theorem PySem.Challenge.cw_rollwarden_k07_tests_of_lines_holds : PySem.Challenge.rw_rollwarden_k07_tests_of_lines.Holds := by
  exact Rw.holds_of fun ns _ => P07.law ns
