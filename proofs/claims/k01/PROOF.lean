import PyProof.Rows.All
import Wide.All
import OpenK.AllK
import Wide.FinOn
import HandS.ForMost
import HandS.Exc
import HandS.ExcOwn
import HandS.CallSlots
import HandS.Wide
import KE.DataEq
import HandS.Deep
import HandS.IsInst
import HandS.WordsExc
import HandS.HeadHook2
import HandS.Head2
import HandS.HeadEnd
import HandS.TupLe
import HandS.More
import HandS.Text
import KE.KxText
import PySem.Challenge.RW_twotimes_k01_names_moments_stretches
set_option Elab.async false
set_option linter.all false
set_option maxRecDepth 100000
set_option maxHeartbeats 4000000
namespace Tw
open PySem PySem.Spec PyProof.Rows L2

/-! ### values: immutable data by value, things that change by handle -/
inductive D where
  | non | bl (b : Bool) | int (i : Int) | str (s : Str) | ty (n : String) | gl (a : Addr)
  | tup (l : List D) | lst (l : List D) | sq (l : List D) | dct (ks : List Key) (l : List D) | hnd (n : Nat)
inductive O where
  | lst (l : List D) | dct (ks : List Key) (l : List D) | ins (C : Addr) (fs : List (Str × D))
abbrev Wd := List O

section
variable (K : PySem.W.Frag) (B : Hp) (φ : List Addr)
mutual
def Rep : D → V → Prop
  | .non, v => v = .non
  | .bl b, v => v = .bl b
  | .int i, v => v = .int i
  | .str s, v => v = .str s
  | .ty n, v => v = .ty n
  | .gl a, v => v = .ref a
  | .tup l, v => ∃ p xs, v = .ref p ∧ SqT K B p xs ∧ Reps l xs
  | .lst l, v => ∃ p xs, v = .ref p ∧ B p = some (.lst xs) ∧ Reps l xs
  | .sq l, v => ∃ p xs, v = .ref p ∧ SqL K B p xs ∧ Reps l xs
  | .dct ks l, v => ∃ p kvs, v = .ref p ∧ Rd B p (.dK kvs) ∧ kvs.map (·.1) = ks ∧ Reps l (kvs.map (·.2))
  | .hnd n, v => ∃ a, φ[n]? = some a ∧ v = .ref a
def Reps : List D → List V → Prop
  | [], xs => xs = []
  | d :: l, xs => ∃ x r, xs = x :: r ∧ Rep d x ∧ Reps l r
end
def ORep (H : Hp) (a : Addr) : O → Prop
  | .lst l => ∃ xs, H a = some (.lst xs) ∧ Reps K B φ l xs
  | .dct ks l => ∃ kvs, H a = some (.dK kvs) ∧ kvs.map (·.1) = ks ∧ Reps K B φ l (kvs.map (·.2))
  | .ins C fs => ∃ dx fvs, H a = some (.ins C dx fvs) ∧ fvs.map (·.1) = fs.map (·.1) ∧ Reps K B φ (fs.map (·.2)) (fvs.map (·.2))
end
/-- what is frozen stands in the heap (a dict may be locked for a while) -/
def Sub (B H : Hp) : Prop := ∀ a u, B a = some u → H a = some u ∨ ∃ kvs o, u = .dK kvs ∧ H a = some (.frz o u)
structure RelW (K : PySem.W.Frag) (B : Hp) (φ : List Addr) (W : Wd) (H : Hp) : Prop where
  sub : Sub B H
  len : φ.length = W.length
  obj : ∀ (n : Nat) a o, φ[n]? = some a → W[n]? = some o → ORep K B φ H a o
  nd : φ.Nodup
  off : ∀ a ∈ φ, B a = none
def Ext (B : Hp) (φ : List Addr) (B' : Hp) (φ' : List Addr) : Prop := (∀ a o, B a = some o → B' a = some o) ∧ ∃ l, φ' = φ ++ l
theorem Ext.refl (B : Hp) (φ : List Addr) : Ext B φ B φ := ⟨fun _ _ h => h, [], by simp⟩
theorem Ext.trans {B B1 B2 : Hp} {φ φ1 φ2 : List Addr} (a : Ext B φ B1 φ1) (b : Ext B1 φ1 B2 φ2) : Ext B φ B2 φ2 := by
  obtain ⟨a1, l, rfl⟩ := a
  obtain ⟨b1, m, rfl⟩ := b
  exact ⟨fun x o h => b1 x o (a1 x o h), l ++ m, by simp⟩
theorem Ext.hnd {B B1 : Hp} {φ φ1 : List Addr} (a : Ext B φ B1 φ1) {n : Nat} {x : Addr} (h : φ[n]? = some x) : φ1[n]? = some x := by
  obtain ⟨_, l, rfl⟩ := a
  rw [List.getElem?_append_left (List.getElem?_eq_some_iff.mp h).1]
  exact h
theorem rd_mono {B B1 : Hp} (e : ∀ a o, B a = some o → B1 a = some o) {a : Addr} {u : HO} (h : Rd B a u) : Rd B1 a u := by
  rcases h with h | ⟨o, h⟩
  · exact .inl (e _ _ h)
  · exact .inr ⟨o, e _ _ h⟩
theorem sqT_mono {K : PySem.W.Frag} {B B1 : Hp} (e : ∀ a o, B a = some o → B1 a = some o) {a : Addr} {xs : List V} (h : SqT K B a xs) : SqT K B1 a xs := by
  rcases h with h | h
  · exact .inl (rd_mono e h)
  · exact .inr h
theorem sqL_mono {K : PySem.W.Frag} {B B1 : Hp} (e : ∀ a o, B a = some o → B1 a = some o) {a : Addr} {xs : List V} (h : SqL K B a xs) : SqL K B1 a xs := by
  rcases h with h | h
  · exact .inl (rd_mono e h)
  · exact .inr h
section
variable {K : PySem.W.Frag} {B B1 : Hp} {φ φ1 : List Addr}
mutual
theorem Rep.mono (e : Ext B φ B1 φ1) : ∀ (d : D) (v : V), Rep K B φ d v → Rep K B1 φ1 d v
  | .non, v, h => by simpa only [Rep] using h
  | .bl b, v, h => by simpa only [Rep] using h
  | .int i, v, h => by simpa only [Rep] using h
  | .str s, v, h => by simpa only [Rep] using h
  | .ty n, v, h => by simpa only [Rep] using h
  | .gl a, v, h => by simpa only [Rep] using h
  | .tup l, v, h => by
    simp only [Rep] at h ⊢
    obtain ⟨p, xs, h1, h2, h3⟩ := h
    exact ⟨p, xs, h1, sqT_mono e.1 h2, Reps.mono e l xs h3⟩
  | .lst l, v, h => by
    simp only [Rep] at h ⊢
    obtain ⟨p, xs, h1, h2, h3⟩ := h
    exact ⟨p, xs, h1, e.1 _ _ h2, Reps.mono e l xs h3⟩
  | .sq l, v, h => by
    simp only [Rep] at h ⊢
    obtain ⟨p, xs, h1, h2, h3⟩ := h
    exact ⟨p, xs, h1, sqL_mono e.1 h2, Reps.mono e l xs h3⟩
  | .dct ks l, v, h => by
    simp only [Rep] at h ⊢
    obtain ⟨p, kvs, h1, h2, h3, h4⟩ := h
    exact ⟨p, kvs, h1, rd_mono e.1 h2, h3, Reps.mono e l _ h4⟩
  | .hnd n, v, h => by
    simp only [Rep] at h ⊢
    obtain ⟨a, h1, h2⟩ := h
    exact ⟨a, e.hnd h1, h2⟩
theorem Reps.mono (e : Ext B φ B1 φ1) : ∀ (l : List D) (xs : List V), Reps K B φ l xs → Reps K B1 φ1 l xs
  | [], xs, h => by simpa only [Reps] using h
  | d :: l, xs, h => by
    simp only [Reps] at h ⊢
    obtain ⟨x, r, h1, h2, h3⟩ := h
    exact ⟨x, r, h1, Rep.mono e d x h2, Reps.mono e l r h3⟩
end
theorem Reps.nil : Reps K B φ [] [] := by simp [Reps]
theorem Reps.cons {d : D} {l : List D} {x : V} {r : List V} (h : Rep K B φ d x) (t : Reps K B φ l r) : Reps K B φ (d :: l) (x :: r) := by
  simp only [Reps]
  exact ⟨x, r, rfl, h, t⟩
theorem Reps.nil_inv {xs : List V} (h : Reps K B φ [] xs) : xs = [] := by simpa only [Reps] using h
theorem Reps.cons_inv {d : D} {l : List D} {xs : List V} (h : Reps K B φ (d :: l) xs) : ∃ x r, xs = x :: r ∧ Rep K B φ d x ∧ Reps K B φ l r := by simpa only [Reps] using h
theorem Reps.length : ∀ {l : List D} {xs : List V}, Reps K B φ l xs → xs.length = l.length
  | [], xs, h => by rw [h.nil_inv]; rfl
  | d :: l, xs, h => by
    obtain ⟨x, r, rfl, _, t⟩ := h.cons_inv
    simp [t.length]
theorem Reps.get : ∀ {l : List D} {xs : List V} {i : Nat} {d : D}, Reps K B φ l xs → l[i]? = some d → ∃ x, xs[i]? = some x ∧ Rep K B φ d x
  | [], _, _, _, _, e => by simp at e
  | d :: l, xs, 0, d', h, e => by
    obtain ⟨x, r, rfl, h1, t⟩ := h.cons_inv
    simp at e; subst e
    exact ⟨x, rfl, h1⟩
  | d :: l, xs, i + 1, d', h, e => by
    obtain ⟨x, r, rfl, h1, t⟩ := h.cons_inv
    obtain ⟨y, a, b⟩ := t.get (i := i) (d := d') (by simpa using e)
    exact ⟨y, by simpa using a, b⟩
theorem Reps.getV : ∀ {l : List D} {xs : List V} {i : Nat} {x : V}, Reps K B φ l xs → xs[i]? = some x → ∃ d, l[i]? = some d ∧ Rep K B φ d x := fun {l xs i x} h e => by
  have hi : i < l.length := by rw [← h.length]; exact (List.getElem?_eq_some_iff.mp e).1
  obtain ⟨y, a, b⟩ := h.get (List.getElem?_eq_getElem hi)
  rw [e] at a; cases a
  exact ⟨_, List.getElem?_eq_getElem hi, b⟩
theorem Reps.append : ∀ {l m : List D} {xs ys : List V}, Reps K B φ l xs → Reps K B φ m ys → Reps K B φ (l ++ m) (xs ++ ys)
  | [], _, _, _, h, g => by rw [h.nil_inv]; exact g
  | d :: l, m, xs, ys, h, g => by
    obtain ⟨x, r, rfl, h1, t⟩ := h.cons_inv
    exact Reps.cons h1 (t.append g)
theorem Reps.take : ∀ {l : List D} {xs : List V} (n : Nat), Reps K B φ l xs → Reps K B φ (l.take n) (xs.take n)
  | l, xs, 0, h => by simpa using Reps.nil
  | [], xs, n + 1, h => by rw [h.nil_inv]; exact Reps.nil
  | d :: l, xs, n + 1, h => by
    obtain ⟨x, r, rfl, h1, t⟩ := h.cons_inv
    exact Reps.cons h1 (t.take n)
theorem Reps.drop : ∀ {l : List D} {xs : List V} (n : Nat), Reps K B φ l xs → Reps K B φ (l.drop n) (xs.drop n)
  | l, xs, 0, h => h
  | [], xs, n + 1, h => by rw [h.nil_inv]; exact Reps.nil
  | d :: l, xs, n + 1, h => by
    obtain ⟨x, r, rfl, h1, t⟩ := h.cons_inv
    exact t.drop n
theorem Reps.set : ∀ {l : List D} {xs : List V} {i : Nat} {d : D} {x : V}, Reps K B φ l xs → Rep K B φ d x → Reps K B φ (l.set i d) (xs.set i x)
  | [], xs, _, _, _, h, _ => by rw [h.nil_inv]; exact Reps.nil
  | d :: l, xs, 0, d', x', h, g => by
    obtain ⟨x, r, rfl, h1, t⟩ := h.cons_inv
    exact Reps.cons g t
  | d :: l, xs, i + 1, d', x', h, g => by
    obtain ⟨x, r, rfl, h1, t⟩ := h.cons_inv
    exact Reps.cons h1 (t.set g)
theorem Reps.reverse : ∀ {l : List D} {xs : List V}, Reps K B φ l xs → Reps K B φ l.reverse xs.reverse
  | [], xs, h => by rw [h.nil_inv]; exact Reps.nil
  | d :: l, xs, h => by
    obtain ⟨x, r, rfl, h1, t⟩ := h.cons_inv
    rw [List.reverse_cons, List.reverse_cons]
    exact t.reverse.append (Reps.cons h1 Reps.nil)
/-- every list of represented values is one of data -/
theorem Reps.of_all : ∀ {xs : List V}, (∀ x ∈ xs, ∃ d, Rep K B φ d x) → ∃ l, Reps K B φ l xs
  | [], _ => ⟨[], Reps.nil⟩
  | x :: xs, h => by
    obtain ⟨d, hd⟩ := h x List.mem_cons_self
    obtain ⟨l, hl⟩ := Reps.of_all fun y hy => h y (List.mem_cons_of_mem _ hy)
    exact ⟨d :: l, Reps.cons hd hl⟩
end
theorem ORep.mono {K : PySem.W.Frag} {B B1 H : Hp} {φ φ1 : List Addr} {a : Addr} (e : Ext B φ B1 φ1) : ∀ {o : O}, ORep K B φ H a o → ORep K B1 φ1 H a o
  | .lst l, ⟨xs, h, r⟩ => ⟨xs, h, r.mono e _ _⟩
  | .dct ks l, ⟨kvs, h, k, r⟩ => ⟨kvs, h, k, r.mono e _ _⟩
  | .ins C fs, ⟨dx, fvs, h, k, r⟩ => ⟨dx, fvs, h, k, r.mono e _ _⟩
theorem ORep.heap {K : PySem.W.Frag} {B H H1 : Hp} {φ : List Addr} {a : Addr} (e : H1 a = H a) : ∀ {o : O}, ORep K B φ H a o → ORep K B φ H1 a o
  | .lst l, ⟨xs, h, r⟩ => ⟨xs, e.trans h, r⟩
  | .dct ks l, ⟨kvs, h, k, r⟩ => ⟨kvs, e.trans h, k, r⟩
  | .ins C fs, ⟨dx, fvs, h, k, r⟩ => ⟨dx, fvs, e.trans h, k, r⟩
theorem ORep.there {K : PySem.W.Frag} {B H : Hp} {φ : List Addr} {a : Addr} : ∀ {o : O}, ORep K B φ H a o → H a ≠ none
  | .lst l, ⟨xs, h, r⟩ => by rw [h]; simp
  | .dct ks l, ⟨kvs, h, k, r⟩ => by rw [h]; simp
  | .ins C fs, ⟨dx, fvs, h, k, r⟩ => by rw [h]; simp
section
variable {K : PySem.W.Frag} {B H : Hp} {φ : List Addr} {W : Wd}
theorem RelW.live (R : RelW K B φ W H) {a : Addr} (h : a ∈ φ) : H a ≠ none := by
  obtain ⟨n, hn⟩ := List.mem_iff_getElem?.mp h
  have hl : n < W.length := by rw [← R.len]; exact (List.getElem?_eq_some_iff.mp hn).1
  exact (R.obj n a _ hn (List.getElem?_eq_getElem hl)).there
theorem RelW.fresh (R : RelW K B φ W H) {p : Addr} (h : H p = none) : p ∉ φ ∧ B p = none := by
  refine ⟨fun z => R.live z h, ?_⟩
  cases e : B p with
  | none => rfl
  | some u =>
    rcases R.sub p u e with q | ⟨_, _, _, q⟩ <;> (rw [h] at q; cases q)
theorem Sub.new {B H : Hp} (s : Sub B H) {p : Addr} {o : HO} (h : H p = none) : Sub B (upd H p o) := fun a u e => by
  have hb : B p = none := by
    cases e : B p with
    | none => rfl
    | some u =>
      rcases s p u e with q | ⟨_, _, _, q⟩ <;> (rw [h] at q; cases q)
  rw [upd_ne (ne_of_none e hb)]
  exact s a u e
theorem Sub.frz {B H : Hp} (s : Sub B H) {p : Addr} {o : HO} (h : H p = none) : Sub (upd B p o) (upd H p o) := fun a u e => by
  by_cases hp : a = p
  · subst hp
    rw [upd_same] at e ⊢
    exact .inl e
  · rw [upd_ne hp] at e ⊢
    exact s a u e
theorem ne_mem {l : List Addr} {a p : Addr} (h : a ∈ l) (f : p ∉ l) : a ≠ p := fun z => by subst z; exact f h
/-- a new object that is not followed -/
theorem RelW.new (R : RelW K B φ W H) {p : Addr} {o : HO} (h : H p = none) : RelW K B φ W (upd H p o) := by
  obtain ⟨f1, f2⟩ := R.fresh h
  refine ⟨R.sub.new h, R.len, fun n a u ha hu => (R.obj n a u ha hu).heap (upd_ne (ne_mem (List.mem_of_getElem? ha) f1)), R.nd, R.off⟩
theorem ext_frz {p : Addr} {o : HO} (h : B p = none) : Ext B φ (upd B p o) φ := ⟨fun a u e => by rw [upd_ne (ne_of_none e h)]; exact e, [], by simp⟩
/-- a new frozen object -/
theorem RelW.frz (R : RelW K B φ W H) {p : Addr} {o : HO} (h : H p = none) : RelW K (upd B p o) φ W (upd H p o) ∧ Ext B φ (upd B p o) φ := by
  obtain ⟨f1, f2⟩ := R.fresh h
  have e := ext_frz (φ := φ) (o := o) f2
  refine ⟨⟨R.sub.frz h, R.len, fun n a u ha hu => ((R.obj n a u ha hu).mono e).heap (upd_ne (ne_mem (List.mem_of_getElem? ha) f1)), R.nd, fun a ha => ?_⟩, e⟩
  rw [upd_ne (ne_mem ha f1)]
  exact R.off a ha
theorem ext_add (l : List Addr) : Ext B φ B (φ ++ l) := ⟨fun _ _ h => h, l, rfl⟩
/-- a new object with a handle -/
theorem RelW.add (R : RelW K B φ W H) {p : Addr} {ho : HO} {o : O} (h : H p = none) (ro : ORep K B φ (upd H p ho) p o) : RelW K B (φ ++ [p]) (W ++ [o]) (upd H p ho) ∧ Ext B φ B (φ ++ [p]) := by
  obtain ⟨f1, f2⟩ := R.fresh h
  have e := ext_add (B := B) (φ := φ) [p]
  refine ⟨⟨R.sub.new h, by simp [R.len], fun n a u ha hu => ?_, ?_, fun a ha => ?_⟩, e⟩
  · by_cases hn : n < φ.length
    · rw [List.getElem?_append_left hn] at ha
      rw [List.getElem?_append_left (by rw [← R.len]; exact hn)] at hu
      exact ((R.obj n a u ha hu).mono e).heap (upd_ne (ne_mem (List.mem_of_getElem? ha) f1))
    · have h1 : n < (φ ++ [p]).length := (List.getElem?_eq_some_iff.mp ha).1
      have h2 : n = φ.length := by simp at h1; omega
      subst h2
      rw [List.getElem?_append_right (Nat.le_refl _)] at ha
      rw [R.len, List.getElem?_append_right (Nat.le_refl _)] at hu
      simp at ha hu
      subst ha; subst hu
      exact ro.mono e
  · rw [List.nodup_append]
    refine ⟨R.nd, by simp, fun a ha b hb => ?_⟩
    simp at hb; subst hb
    exact ne_mem ha f1
  · rcases List.mem_append.mp ha with q | q
    · exact R.off a q
    · simp at q; subst q; exact f2
/-- an object behind a handle is written -/
theorem RelW.put (R : RelW K B φ W H) {n : Nat} {p : Addr} {ho : HO} {o : O} (hp : φ[n]? = some p) (ro : ORep K B φ (upd H p ho) p o) : RelW K B φ (W.set n o) (upd H p ho) := by
  have hm := List.mem_of_getElem? hp
  have hb := R.off p hm
  refine ⟨fun a u e => ?_, by simpa using R.len, fun m a u ha hu => ?_, R.nd, R.off⟩
  · rw [upd_ne (ne_of_none e hb)]
    exact R.sub a u e
  · by_cases hmn : m = n
    · subst hmn
      rw [hp] at ha; cases ha
      rw [List.getElem?_set_self (by rw [← R.len]; exact (List.getElem?_eq_some_iff.mp hp).1)] at hu
      cases hu
      exact ro
    · rw [List.getElem?_set_ne (Ne.symm hmn)] at hu
      have hne : a ≠ p := fun z => by
        subst z
        obtain ⟨h1, e1⟩ := List.getElem?_eq_some_iff.mp ha
        obtain ⟨h2, e2⟩ := List.getElem?_eq_some_iff.mp hp
        exact hmn ((List.getElem_inj R.nd).mp (e1.trans e2.symm))
      exact (R.obj m a u ha hu).heap (upd_ne hne)
theorem RelW.get (R : RelW K B φ W H) {n : Nat} {o : O} (h : W[n]? = some o) : ∃ a, φ[n]? = some a ∧ ORep K B φ H a o := by
  have hn : n < φ.length := by rw [R.len]; exact (List.getElem?_eq_some_iff.mp h).1
  exact ⟨_, List.getElem?_eq_getElem hn, R.obj n _ o (List.getElem?_eq_getElem hn) h⟩
theorem Sub.rd (s : Sub B H) {a : Addr} {u : HO} (h : Rd B a u) : Rd H a u := by
  rcases h with h | ⟨o, h⟩
  · rcases s a u h with q | ⟨kvs, o, rfl, q⟩
    · exact .inl q
    · exact .inr ⟨o, q⟩
  · rcases s a _ h with q | ⟨kvs, o', e, q⟩
    · exact .inr ⟨o, q⟩
    · cases e
theorem RelW.lst (R : RelW K B φ W H) {a : Addr} {xs : List V} (h : B a = some (.lst xs)) : H a = some (.lst xs) := by
  rcases R.sub a _ h with q | ⟨kvs, o, e, q⟩
  · exact q
  · cases e
theorem RelW.sqT (R : RelW K B φ W H) {a : Addr} {xs : List V} (h : SqT K B a xs) : SqT K H a xs := h.elim (fun q => .inl (R.sub.rd q)) .inr
theorem RelW.sqL (R : RelW K B φ W H) {a : Addr} {xs : List V} (h : SqL K B a xs) : SqL K H a xs := h.elim (fun q => .inl (R.sub.rd q)) .inr
end

/-! ### states and readings -/
structure AS where
  σ : List (Option D)
  W : Wd
structure Rel (K : PySem.W.Frag) (B : Hp) (φ : List Addr) (S : AS) (σ : L2.St) (H : Hp) : Prop where
  w : RelW K B φ S.W H
  len : S.σ.length = σ.length
  slot : ∀ (i : Nat) d, S.σ[i]? = some (some d) → ∃ v, σ[i]? = some (some v) ∧ Rep K B φ d v
theorem Rel.ext {K : PySem.W.Frag} {B B1 H H1 : Hp} {φ φ1 : List Addr} {S : AS} {W : Wd} {σ : L2.St} (R : Rel K B φ S σ H) (e : Ext B φ B1 φ1) (w : RelW K B1 φ1 W H1) : Rel K B1 φ1 ⟨S.σ, W⟩ σ H1 :=
  ⟨w, R.len, fun i d h => let ⟨v, a, b⟩ := R.slot i d h; ⟨v, a, b.mono e _ _⟩⟩
theorem Rel.set {K : PySem.W.Frag} {B H : Hp} {φ : List Addr} {S : AS} {σ : L2.St} {i : Nat} {d : D} {v : V} (R : Rel K B φ S σ H) (r : Rep K B φ d v) : Rel K B φ ⟨S.σ.set i (some d), S.W⟩ (σ.set i (some v)) H := by
  refine ⟨R.w, by simpa using R.len, fun j d' h => ?_⟩
  by_cases hj : j = i
  · subst hj
    have hl : j < S.σ.length := by
      have := (List.getElem?_eq_some_iff.mp h).1
      simpa using this
    rw [List.getElem?_set_self hl] at h
    cases h
    exact ⟨v, by rw [List.getElem?_set_self (by rw [← R.len]; exact hl)], r⟩
  · rw [List.getElem?_set_ne (Ne.symm hj)] at h ⊢
    exact R.slot j d' h
structure Exn where
  cls : Value
  fs : Option (List (Str × D))
def RepX (K : PySem.W.Frag) (B : Hp) (φ : List Addr) (x : Exn) (cls : Value) (d : Option Addr) : Prop :=
  cls = x.cls ∧ match x.fs with
    | none => d = none
    | some fs => ∃ dd fvs, d = some dd ∧ B dd = some (.xd fvs) ∧ fvs.map (·.1) = fs.map (·.1) ∧ Reps K B φ (fs.map (·.2)) (fvs.map (·.2))
theorem RepX.mono {K : PySem.W.Frag} {B B1 : Hp} {φ φ1 : List Addr} (e : Ext B φ B1 φ1) {x : Exn} {cls : Value} {d : Option Addr} (h : RepX K B φ x cls d) : RepX K B1 φ1 x cls d := by
  obtain ⟨c, fs⟩ := x
  obtain ⟨h1, h2⟩ := h
  refine ⟨h1, ?_⟩
  cases fs with
  | none => exact h2
  | some fs =>
    obtain ⟨dd, fvs, a, b, c, g⟩ := h2
    exact ⟨dd, fvs, a, e.1 _ _ b, c, g.mono e _ _⟩
abbrev XA := Exn → AS → Prop
/-- a reading over data -/
abbrev M (α : Type) := AS → (α → AS → Prop) → XA → Prop
def M.pure {α : Type} (a : α) : M α := fun S P _ => P a S
def M.bind {α β : Type} (f : M α) (g : α → M β) : M β := fun S P X => f S (fun a S1 => g a S1 P X) X
/-- the run of a reading from a state, to concrete ends -/
def Run {α β : Type} (K : PySem.W.Frag) (WE : WX) (R : Hp → List Addr → α → β → Prop) (f : M α) (B : Hp) (φ : List Addr) (S : AS) (σ : L2.St) (H : Hp) (Q : β → Hp → Prop) : Prop :=
  ∃ (P : α → AS → Prop) (X : XA), f S P X ∧
    (∀ a S' b B' φ' H', P a S' → Ext B φ B' φ' → Rel K B' φ' S' σ H' → R B' φ' a b → Q b H') ∧
    ∀ x S' cls d B' φ' H', X x S' → Ext B φ B' φ' → Rel K B' φ' S' σ H' → RepX K B' φ' x cls d → WE cls d σ H'
def tOfG {α β : Type} (K : PySem.W.Frag) (WE : WX) (R : Hp → List Addr → α → β → Prop) (f : M α) : L2.St → Hp → (β → Hp → Prop) → Prop :=
  fun σ H Q => ∃ B φ S, Rel K B φ S σ H ∧ Run K WE R f B φ S σ H Q
section
variable {K : PySem.W.Frag} {WE : WX} {α β γ δ : Type} {R : Hp → List Addr → α → β → Prop} {R2 : Hp → List Addr → γ → δ → Prop} {B : Hp} {φ : List Addr} {S : AS} {σ : L2.St} {H : Hp}
theorem Run.bind {f : M α} {g : α → M γ} {Q : δ → Hp → Prop} (h : Run K WE R2 (M.bind f g) B φ S σ H Q) :
    Run K WE R f B φ S σ H fun b H1 => ∃ a B1 φ1 S1, Ext B φ B1 φ1 ∧ Rel K B1 φ1 S1 σ H1 ∧ R B1 φ1 a b ∧ Run K WE R2 (g a) B1 φ1 S1 σ H1 Q := by
  obtain ⟨P, X, h1, h2, h3⟩ := h
  refine ⟨fun a S1 => g a S1 P X, X, h1, fun a S' b B' φ' H' hp e r ra => ?_, h3⟩
  exact ⟨a, B', φ', S', e, r, ra, P, X, hp, fun a2 S2 b2 B2 φ2 H2 hp2 e2 r2 ra2 => h2 a2 S2 b2 B2 φ2 H2 hp2 (e.trans e2) r2 ra2, fun x S2 cls d B2 φ2 H2 hx e2 r2 rx => h3 x S2 cls d B2 φ2 H2 hx (e.trans e2) r2 rx⟩
theorem Run.imp {f : M α} {Q Q' : β → Hp → Prop} (h : Run K WE R f B φ S σ H Q) (q : ∀ b H1, Q b H1 → Q' b H1) : Run K WE R f B φ S σ H Q' := by
  obtain ⟨P, X, h1, h2, h3⟩ := h
  exact ⟨P, X, h1, fun a S' b B' φ' H' a1 a2 a3 a4 => q _ _ (h2 a S' b B' φ' H' a1 a2 a3 a4), h3⟩
end
abbrev tE (K : PySem.W.Frag) (WE : WX) (f : M D) : TE := tOfG K WE (fun B φ => Rep K B φ) f
abbrev tT (K : PySem.W.Frag) (WE : WX) (f : M Bool) : TT := tOfG K WE (fun _ _ a b => b = a) f
abbrev tA (K : PySem.W.Frag) (WE : WX) (f : M (List D)) : TA := tOfG K WE (fun B φ => Reps K B φ) f
abbrev tO (K : PySem.W.Frag) (WE : WX) (f : M (Option Int)) : TO := tOfG K WE (fun _ _ a b => b = a) f
structure AEnds where
  nx : AS → Prop
  rt : D → AS → Prop
  bk : AS → Prop
  ct : AS → Prop
  ex : XA
abbrev MS := AS → AEnds → Prop
def RunS (K : PySem.W.Frag) (WE : WX) (f : MS) (B : Hp) (φ : List Addr) (S : AS) (σ : L2.St) (H : Hp) (D : Ends) : Prop :=
  ∃ E : AEnds, f S E ∧
    (∀ S' σ' B' φ' H', E.nx S' → Ext B φ B' φ' → Rel K B' φ' S' σ' H' → D.nx σ' H') ∧
    (∀ a S' σ' v B' φ' H', E.rt a S' → Ext B φ B' φ' → Rel K B' φ' S' σ' H' → Rep K B' φ' a v → D.rt v H') ∧
    (∀ S' σ' B' φ' H', E.bk S' → Ext B φ B' φ' → Rel K B' φ' S' σ' H' → D.bk σ' H') ∧
    (∀ S' σ' B' φ' H', E.ct S' → Ext B φ B' φ' → Rel K B' φ' S' σ' H' → D.ct σ' H') ∧
    ∀ x S' σ' cls d B' φ' H', E.ex x S' → Ext B φ B' φ' → Rel K B' φ' S' σ' H' → RepX K B' φ' x cls d → WE cls d σ' H'
def tS (K : PySem.W.Frag) (WE : WX) (f : MS) : TS := fun D σ H => ∃ B φ S, Rel K B φ S σ H ∧ RunS K WE f B φ S σ H D
/-- from an expression's run to a statement's -/
theorem RunS.expr {K : PySem.W.Frag} {WE : WX} {α β : Type} {R : Hp → List Addr → α → β → Prop} {f : M α} {g : α → MS} {B : Hp} {φ : List Addr} {S : AS} {σ : L2.St} {H : Hp} {D : Ends}
    (h : RunS K WE (fun S E => f S (fun a S1 => g a S1 E) E.ex) B φ S σ H D) :
    Run K WE R f B φ S σ H fun b H1 => ∃ a B1 φ1 S1, Ext B φ B1 φ1 ∧ Rel K B1 φ1 S1 σ H1 ∧ R B1 φ1 a b ∧ RunS K WE (g a) B1 φ1 S1 σ H1 D := by
  obtain ⟨E, h1, hn, hr, hb, hc, hx⟩ := h
  refine ⟨fun a S1 => g a S1 E, E.ex, h1, fun a S' b B' φ' H' hp e r ra => ?_, fun x S' cls d B' φ' H' => hx x S' σ cls d B' φ' H'⟩
  exact ⟨a, B', φ', S', e, r, ra, E, hp, fun S' σ' B2 φ2 H' a1 a2 a3 => hn S' σ' B2 φ2 H' a1 (e.trans a2) a3, fun d S' σ' v B2 φ2 H' a1 a2 a3 a4 => hr d S' σ' v B2 φ2 H' a1 (e.trans a2) a3 a4,
    fun S' σ' B2 φ2 H' a1 a2 a3 => hb S' σ' B2 φ2 H' a1 (e.trans a2) a3, fun S' σ' B2 φ2 H' a1 a2 a3 => hc S' σ' B2 φ2 H' a1 (e.trans a2) a3, fun x S' σ' cls d B2 φ2 H' a1 a2 a3 a4 => hx x S' σ' cls d B2 φ2 H' a1 (e.trans a2) a3 a4⟩
end Tw

set_option Elab.async false
set_option linter.all false
set_option maxRecDepth 100000
set_option maxHeartbeats 4000000
namespace Tw
open PySem PySem.Spec PyProof.Rows L2

theorem PE.weak {X : Cx} {e : Expr} {t t' : TE} (h : PE X e t) (w : ∀ σ H Q, t' σ H Q → t σ H Q) : PE X e t' := ⟨fun pins s σ H Q I q => h.run pins s σ H Q I (w σ H Q q)⟩
theorem PT.weak {X : Cx} {e : Expr} {t t' : TT} (h : PT X e t) (w : ∀ σ H Q, t' σ H Q → t σ H Q) : PT X e t' := ⟨fun pins s σ H Q I q => h.run pins s σ H Q I (w σ H Q q)⟩
theorem PA.weak {X : Cx} {e : List Expr} {t t' : TA} (h : PA X e t) (w : ∀ σ H Q, t' σ H Q → t σ H Q) : PA X e t' := ⟨fun pos pins s σ H Q I q => h.run pos pins s σ H Q I (w σ H Q q)⟩
theorem PW.weak {X : Cx} {e : Expr} {t t' : TT} (h : PW X e t) (w : ∀ σ H Q, t' σ H Q → t σ H Q) : PW X e t' := ⟨fun wh pins s σ H Q I q => h.run wh pins s σ H Q I (w σ H Q q)⟩
theorem PS.weak {X : Cx} {e : Stmt} {t t' : TS} (h : PS X e t) (w : ∀ D σ H, t' D σ H → t D σ H) : PS X e t' := ⟨fun pins s σ H D I q => h.run pins s σ H D I (w D σ H q)⟩
theorem PSs.weak {X : Cx} {e : List Stmt} {t t' : TS} (h : PSs X e t) (w : ∀ D σ H, t' D σ H → t D σ H) : PSs X e t' := ⟨fun pins s σ H D I q => h.run pins s σ H D I (w D σ H q)⟩
theorem OpR.or {X : Cx} {f : Value → Value → Sem Value} {r r' : R2} (h : OpR X f r) (h' : OpR X f r') : OpR X f (fun x y H Q => r x y H Q ∨ r' x y H Q) :=
  fun pins s σ H x y v u Q I rx ry q => q.elim (h pins s σ H x y v u Q I rx ry) (h' pins s σ H x y v u Q I rx ry)

/-! ### data as the kit's -/
mutual
def D.py : D → Option PyData
  | .non => some .none
  | .bl b => some (.bool b)
  | .int i => some (.int i)
  | .str s => some (.str s)
  | .tup l => (D.pys l).map .tuple
  | .lst l => (D.pys l).map .list
  | .sq l => (D.pys l).map .list
  | _ => none
def D.pys : List D → Option (List PyData)
  | [] => some []
  | d :: l => match D.py d, D.pys l with
    | some x, some xs => some (x :: xs)
    | _, _ => none
end
mutual
/-- == -/
def D.eq : D → D → Bool
  | .non, .non => true
  | .bl a, .bl b => a == b
  | .bl a, .int j => (if a then 1 else 0) == j
  | .int i, .bl b => i == (if b then 1 else 0)
  | .int i, .int j => i == j
  | .str x, .str y => x == y
  | .lst xs, .lst ys => D.eqs xs ys
  | .lst xs, .sq ys => D.eqs xs ys
  | .sq xs, .lst ys => D.eqs xs ys
  | .sq xs, .sq ys => D.eqs xs ys
  | .tup xs, .tup ys => D.eqs xs ys
  | _, _ => false
def D.eqs : List D → List D → Bool
  | [], [] => true
  | x :: xs, y :: ys => D.eq x y && D.eqs xs ys
  | _, _ => false
end
mutual
/-- no dict, handle, function within; at most n deep -/
def D.lay : Nat → D → Bool
  | _, .non => true
  | _, .bl _ => true
  | _, .int _ => true
  | _, .str _ => true
  | 0, _ => false
  | n + 1, .tup l => D.lays n l
  | n + 1, .lst l => D.lays n l
  | n + 1, .sq l => D.lays n l
  | _, _ => false
def D.lays : Nat → List D → Bool
  | _, [] => true
  | n, d :: l => D.lay n d && D.lays n l
end
mutual
theorem D.py_lay : ∀ (n : Nat) (d : D), d.lay n = true → ∃ x, d.py = some x ∧ x.plain = true ∧ x.depth ≤ n
  | _, .non, _ => ⟨.none, by simp only [D.py], rfl, Nat.zero_le _⟩
  | _, .bl b, _ => ⟨.bool b, by simp only [D.py], rfl, Nat.zero_le _⟩
  | _, .int i, _ => ⟨.int i, by simp only [D.py], rfl, Nat.zero_le _⟩
  | _, .str s, _ => ⟨.str s, by simp only [D.py], rfl, Nat.zero_le _⟩
  | 0, .tup l, h => by simp [D.lay] at h
  | 0, .lst l, h => by simp [D.lay] at h
  | 0, .ty n, h => by simp [D.lay] at h
  | 0, .gl a, h => by simp [D.lay] at h
  | 0, .dct ks l, h => by simp [D.lay] at h
  | 0, .sq l, h => by simp [D.lay] at h
  | 0, .hnd n, h => by simp [D.lay] at h
  | n + 1, .tup l, h => by
    obtain ⟨xs, e, p, q⟩ := D.pys_lay n l (by simpa [D.lay] using h)
    exact ⟨.tuple xs, by simp [D.py, e], by simpa [PyData.plain] using p, by simp only [PyData.depth]; omega⟩
  | n + 1, .lst l, h => by
    obtain ⟨xs, e, p, q⟩ := D.pys_lay n l (by simpa [D.lay] using h)
    exact ⟨.list xs, by simp [D.py, e], by simpa [PyData.plain] using p, by simp only [PyData.depth]; omega⟩
  | n + 1, .ty _, h => by simp [D.lay] at h
  | n + 1, .gl a, h => by simp [D.lay] at h
  | n + 1, .dct ks l, h => by simp [D.lay] at h
  | n + 1, .sq l, h => by
    obtain ⟨xs, e, p, q⟩ := D.pys_lay n l (by simpa [D.lay] using h)
    exact ⟨.list xs, by simp [D.py, e], by simpa [PyData.plain] using p, by simp only [PyData.depth]; omega⟩
  | n + 1, .hnd _, h => by simp [D.lay] at h
theorem D.pys_lay : ∀ (n : Nat) (l : List D), D.lays n l = true → ∃ xs, D.pys l = some xs ∧ PyData.plainAll xs = true ∧ PyData.depthAll xs ≤ n
  | n, [], _ => ⟨[], by simp only [D.pys], rfl, Nat.zero_le _⟩
  | n, d :: l, h => by
    have h' : d.lay n = true ∧ D.lays n l = true := by simpa [D.lays] using h
    obtain ⟨x, e, p, q⟩ := D.py_lay n d h'.1
    obtain ⟨xs, e2, p2, q2⟩ := D.pys_lay n l h'.2
    exact ⟨x :: xs, by simp only [D.pys, e, e2], by simp [PyData.plainAll, p, p2], by simp only [PyData.depthAll]; omega⟩
end
mutual
theorem D.eq_py : ∀ (a b : D) (x y : PyData), a.py = some x → b.py = some y → PyData.eqv x y = a.eq b
  | .non, b, x, y, ha, hb => by
    simp only [D.py, Option.some.injEq] at ha; subst ha
    cases b <;> simp only [D.py, Option.some.injEq, Option.map_eq_some_iff, reduceCtorEq] at hb <;> first | (subst hb; simp [PyData.eqv, D.eq]) | (obtain ⟨_, _, rfl⟩ := hb; simp [PyData.eqv, D.eq])
  | .bl _, b, x, y, ha, hb => by
    simp only [D.py, Option.some.injEq] at ha; subst ha
    cases b <;> simp only [D.py, Option.some.injEq, Option.map_eq_some_iff, reduceCtorEq] at hb <;> first | (subst hb; simp [PyData.eqv, D.eq]) | (obtain ⟨_, _, rfl⟩ := hb; simp [PyData.eqv, D.eq])
  | .int _, b, x, y, ha, hb => by
    simp only [D.py, Option.some.injEq] at ha; subst ha
    cases b <;> simp only [D.py, Option.some.injEq, Option.map_eq_some_iff, reduceCtorEq] at hb <;> first | (subst hb; simp [PyData.eqv, D.eq]) | (obtain ⟨_, _, rfl⟩ := hb; simp [PyData.eqv, D.eq])
  | .str _, b, x, y, ha, hb => by
    simp only [D.py, Option.some.injEq] at ha; subst ha
    cases b <;> simp only [D.py, Option.some.injEq, Option.map_eq_some_iff, reduceCtorEq] at hb <;> first | (subst hb; simp [PyData.eqv, D.eq]) | (obtain ⟨_, _, rfl⟩ := hb; simp [PyData.eqv, D.eq])
  | .tup l, b, x, y, ha, hb => by
    simp only [D.py, Option.map_eq_some_iff] at ha
    obtain ⟨xs, h1, rfl⟩ := ha
    cases b <;> simp only [D.py, Option.some.injEq, Option.map_eq_some_iff, reduceCtorEq] at hb <;> first
      | (subst hb; simp [PyData.eqv, D.eq])
      | (obtain ⟨ys, h2, rfl⟩ := hb; first | (simp only [PyData.eqv, D.eq]; exact D.eqs_py _ _ _ _ h1 h2) | simp [PyData.eqv, D.eq])
  | .lst l, b, x, y, ha, hb => by
    simp only [D.py, Option.map_eq_some_iff] at ha
    obtain ⟨xs, h1, rfl⟩ := ha
    cases b <;> simp only [D.py, Option.some.injEq, Option.map_eq_some_iff, reduceCtorEq] at hb <;> first
      | (subst hb; simp [PyData.eqv, D.eq])
      | (obtain ⟨ys, h2, rfl⟩ := hb; first | (simp only [PyData.eqv, D.eq]; exact D.eqs_py _ _ _ _ h1 h2) | simp [PyData.eqv, D.eq])
  | .sq l, b, x, y, ha, hb => by
    simp only [D.py, Option.map_eq_some_iff] at ha
    obtain ⟨xs, h1, rfl⟩ := ha
    cases b <;> simp only [D.py, Option.some.injEq, Option.map_eq_some_iff, reduceCtorEq] at hb <;> first
      | (subst hb; simp [PyData.eqv, D.eq])
      | (obtain ⟨ys, h2, rfl⟩ := hb; first | (simp only [PyData.eqv, D.eq]; exact D.eqs_py _ _ _ _ h1 h2) | simp [PyData.eqv, D.eq])
  | .ty _, _, _, _, ha, _ => by simp [D.py] at ha
  | .gl _, _, _, _, ha, _ => by simp [D.py] at ha
  | .dct _ _, _, _, _, ha, _ => by simp [D.py] at ha
  | .hnd _, _, _, _, ha, _ => by simp [D.py] at ha
theorem D.eqs_py : ∀ (a b : List D) (x y : List PyData), D.pys a = some x → D.pys b = some y → PyData.eqvAll x y = D.eqs a b
  | [], [], x, y, ha, hb => by
    simp only [D.pys, Option.some.injEq] at ha hb; subst ha; subst hb; simp [PyData.eqvAll, D.eqs]
  | [], d :: l, x, y, ha, hb => by
    simp only [D.pys, Option.some.injEq] at ha; subst ha
    simp only [D.pys] at hb
    split at hb
    · cases hb; simp [PyData.eqvAll, D.eqs]
    · cases hb
  | d :: l, [], x, y, ha, hb => by
    simp only [D.pys, Option.some.injEq] at hb; subst hb
    simp only [D.pys] at ha
    split at ha
    · cases ha; simp [PyData.eqvAll, D.eqs]
    · cases ha
  | d :: l, e :: m, x, y, ha, hb => by
    simp only [D.pys] at ha hb
    split at ha
    · rename_i x1 xs1 h1 h2
      cases ha
      split at hb
      · rename_i y1 ys1 h3 h4
        cases hb
        simp only [PyData.eqvAll, D.eqs]
        rw [D.eq_py d e _ _ h1 h3, D.eqs_py l m _ _ h2 h4]
      · cases hb
    · cases ha
end
section
variable {K : PySem.W.Frag} {B H : Hp} {φ : List Addr} {W : Wd}
mutual
theorem Rep.dp (R : RelW K B φ W H) : ∀ (d : D) (v : V) (x : PyData), Rep K B φ d v → d.py = some x → Dp K H v x
  | .non, v, x, h, e => by simp only [Rep] at h; simp only [D.py, Option.some.injEq] at e; subst h; subst e; exact .non
  | .bl _, v, x, h, e => by simp only [Rep] at h; simp only [D.py, Option.some.injEq] at e; subst h; subst e; exact .bl _
  | .int _, v, x, h, e => by simp only [Rep] at h; simp only [D.py, Option.some.injEq] at e; subst h; subst e; exact .int _
  | .str _, v, x, h, e => by simp only [Rep] at h; simp only [D.py, Option.some.injEq] at e; subst h; subst e; exact .str _
  | .tup l, v, x, h, e => by
    simp only [Rep] at h
    simp only [D.py, Option.map_eq_some_iff] at e
    obtain ⟨xs, e1, rfl⟩ := e
    obtain ⟨p, vs, rfl, h2, h3⟩ := h
    exact .tup (R.sqT h2) (Reps.dp R l vs xs h3 e1)
  | .lst l, v, x, h, e => by
    simp only [Rep] at h
    simp only [D.py, Option.map_eq_some_iff] at e
    obtain ⟨xs, e1, rfl⟩ := e
    obtain ⟨p, vs, rfl, h2, h3⟩ := h
    exact .lst (SqL.of (R.lst h2)) (Reps.dp R l vs xs h3 e1)
  | .sq l, v, x, h, e => by
    simp only [Rep] at h
    simp only [D.py, Option.map_eq_some_iff] at e
    obtain ⟨xs, e1, rfl⟩ := e
    obtain ⟨p, vs, rfl, h2, h3⟩ := h
    exact .lst (R.sqL h2) (Reps.dp R l vs xs h3 e1)
  | .ty _, _, _, _, ha => by simp [D.py] at ha
  | .gl _, _, _, _, ha => by simp [D.py] at ha
  | .dct _ _, _, _, _, ha => by simp [D.py] at ha
  | .hnd _, _, _, _, ha => by simp [D.py] at ha
theorem Reps.dp (R : RelW K B φ W H) : ∀ (l : List D) (vs : List V) (xs : List PyData), Reps K B φ l vs → D.pys l = some xs → DpAll K H vs xs
  | [], vs, xs, h, e => by
    rw [h.nil_inv]
    simp only [D.pys, Option.some.injEq] at e; subst e
    exact .nil
  | d :: l, vs, xs, h, e => by
    obtain ⟨v, r, rfl, h1, h2⟩ := h.cons_inv
    simp only [D.pys] at e
    split at e
    · rename_i x1 xs1 e1 e2
      cases e
      exact .cons (Rep.dp R d v _ h1 e1) (Reps.dp R l r _ h2 e2)
    · cases e
end
end
/-- what a value shows: a handle of a list shows the list -/
def vw (W : Wd) : D → D
  | .hnd n => match W[n]? with
    | some (.lst l) => .lst l
    | _ => .hnd n
  | d => d
/-- a list that is to be read -/
def rdL (W : Wd) : D → Option (List D)
  | .lst l => some l
  | .sq l => some l
  | .hnd n => match W[n]? with
    | some (.lst l) => some l
    | _ => none
  | _ => none
/-- a sequence (list or tuple) -/
def rdS (W : Wd) : D → Option (List D)
  | .tup l => some l
  | d => rdL W d
theorem vw_dp {K : PySem.W.Frag} {B H : Hp} {φ : List Addr} {W : Wd} (R : RelW K B φ W H) {d : D} {v : V} {x : PyData} (h : Rep K B φ d v) (e : (vw W d).py = some x) : Dp K H v x := by
  cases d with
  | hnd n =>
    simp only [vw] at e
    split at e
    · rename_i l hl
      obtain ⟨a, ha, xs, hx, hr⟩ := R.get hl
      simp only [Rep] at h
      obtain ⟨a', ha', rfl⟩ := h
      rw [ha] at ha'; cases ha'
      simp only [D.py, Option.map_eq_some_iff] at e
      obtain ⟨ys, e1, rfl⟩ := e
      exact .lst (SqL.of hx) (Reps.dp R l xs ys hr e1)
    · simp [D.py] at e
  | _ => exact Rep.dp R _ v x h e
theorem rdL_ok {K : PySem.W.Frag} {B H : Hp} {φ : List Addr} {W : Wd} (R : RelW K B φ W H) {d : D} {v : V} {l : List D} (h : Rep K B φ d v) (e : rdL W d = some l) : ∃ p xs, v = .ref p ∧ SqL K H p xs ∧ Reps K B φ l xs := by
  cases d with
  | lst m =>
    simp only [rdL, Option.some.injEq] at e; subst e
    simp only [Rep] at h
    obtain ⟨p, xs, h1, h2, h3⟩ := h
    exact ⟨p, xs, h1, SqL.of (R.lst h2), h3⟩
  | sq m =>
    simp only [rdL, Option.some.injEq] at e; subst e
    simp only [Rep] at h
    obtain ⟨p, xs, h1, h2, h3⟩ := h
    exact ⟨p, xs, h1, R.sqL h2, h3⟩
  | hnd n =>
    simp only [rdL] at e
    split at e
    · rename_i l' hl
      cases e
      obtain ⟨a, ha, xs, hx, hr⟩ := R.get hl
      simp only [Rep] at h
      obtain ⟨a', ha', rfl⟩ := h
      rw [ha] at ha'; cases ha'
      exact ⟨a, xs, rfl, SqL.of hx, hr⟩
    · cases e
  | _ => simp [rdL] at e
/-- .. one that the kit follows itself -/
def rdM (W : Wd) : D → Option (List D)
  | .sq _ => none
  | d => rdL W d
theorem rdM_ok {K : PySem.W.Frag} {B H : Hp} {φ : List Addr} {W : Wd} (R : RelW K B φ W H) {d : D} {v : V} {l : List D} (h : Rep K B φ d v) (e : rdM W d = some l) : ∃ p xs, v = .ref p ∧ H p = some (.lst xs) ∧ Reps K B φ l xs := by
  cases d with
  | lst m =>
    simp only [rdM, rdL, Option.some.injEq] at e; subst e
    simp only [Rep] at h
    obtain ⟨p, xs, h1, h2, h3⟩ := h
    exact ⟨p, xs, h1, R.lst h2, h3⟩
  | hnd n =>
    simp only [rdM, rdL] at e
    split at e
    · rename_i l' hl
      cases e
      obtain ⟨a, ha, xs, hx, hr⟩ := R.get hl
      simp only [Rep] at h
      obtain ⟨a', ha', rfl⟩ := h
      rw [ha] at ha'; cases ha'
      exact ⟨a, xs, rfl, hx, hr⟩
    · cases e
  | _ => simp [rdM, rdL] at e
theorem rdS_ok {K : PySem.W.Frag} {B H : Hp} {φ : List Addr} {W : Wd} (R : RelW K B φ W H) {d : D} {v : V} {l : List D} (h : Rep K B φ d v) (e : rdS W d = some l) : ∃ p xs, v = .ref p ∧ (SqL K H p xs ∨ SqT K H p xs) ∧ Reps K B φ l xs := by
  cases d with
  | tup m =>
    simp only [rdS, Option.some.injEq] at e; subst e
    simp only [Rep] at h
    obtain ⟨p, xs, h1, h2, h3⟩ := h
    exact ⟨p, xs, h1, .inr (R.sqT h2), h3⟩
  | _ =>
    obtain ⟨p, xs, h1, h2, h3⟩ := rdL_ok R h (show rdL W _ = some l from e)
    exact ⟨p, xs, h1, .inl h2, h3⟩

/-! ### operations by values -/
abbrev Dop := D → D → M D
def OpA (K : PySem.W.Frag) (WE : WX) (r : R2) (f : Dop) : Prop :=
  ∀ (B : Hp) (φ : List Addr) (S : AS) (σ : L2.St) (H : Hp) (a b : D) (x y : V) (Q : VK), Rel K B φ S σ H → Rep K B φ a x → Rep K B φ b y → Run K WE (fun B φ => Rep K B φ) (f a b) B φ S σ H Q → r x y H Q
theorem OpA.inl {K : PySem.W.Frag} {WE : WX} {r r' : R2} {f : Dop} (h : OpA K WE r f) : OpA K WE (fun x y H Q => r x y H Q ∨ r' x y H Q) f := fun B φ S σ H a b x y Q R ra rb q => .inl (h B φ S σ H a b x y Q R ra rb q)
def mBin (f : Dop) (fa fb : M D) : M D := M.bind fa fun x => M.bind fb fun y => f x y
section
variable {X : Cx} {WE : WX} {a b c : Expr} {fa fb fc : M D} {pos : Pos}
theorem tOp_of {K : PySem.W.Frag} {r : R2} {f : Dop} (hr : OpA K WE r f) (σ : L2.St) (H : Hp) (Q : VK) (h : tE K WE (mBin f fa fb) σ H Q) : tOp r (tE K WE fa) (tE K WE fb) σ H Q := by
  obtain ⟨B, φ, S, R, run⟩ := h
  refine ⟨B, φ, S, R, run.bind.imp ?_⟩
  rintro x H1 ⟨d, B1, φ1, S1, e1, R1, r1, run1⟩
  refine ⟨B1, φ1, S1, R1, run1.bind.imp ?_⟩
  rintro y H2 ⟨d2, B2, φ2, S2, e2, R2, r2, run2⟩
  exact hr B2 φ2 S2 σ H2 d d2 x y Q R2 (r1.mono e2 _ _) r2 run2
theorem de_bin {op : Operator} {r : R2} {f : Dop} (ho : OpR X (binaryOp op) r) (hr : OpA X.K WE r f) (ha : PE X a (tE X.K WE fa)) (hb : PE X b (tE X.K WE fb)) : PE X (.BinOp a op b pos) (tE X.K WE (mBin f fa fb)) :=
  PE.weak (pe_op ho ha hb) fun σ H Q h => tOp_of hr σ H Q h
theorem de_cmp {op : CmpOp} {r : R2} {f : Dop} (ho : OpR X (compareOp op) r) (hr : OpA X.K WE r f) (ha : PE X a (tE X.K WE fa)) (hb : PE X b (tE X.K WE fb)) (hm : behindInMarks op b = false) : PE X (.Compare a [op] [b] pos) (tE X.K WE (mBin f fa fb)) :=
  PE.weak (pe_cmpR ho ha hb hm) fun σ H Q h => tOp_of hr σ H Q h
/-- a bool out of a value -/
def mTest (f : M D) : M Bool := M.bind f fun d => fun S P _ => match d with
  | .bl b => P b S
  | _ => False
theorem tB_of {K : PySem.W.Frag} (σ : L2.St) (H : Hp) (Q : Bool → Hp → Prop) (h : tT K WE (mTest fa) σ H Q) : tB (tE K WE fa) σ H Q := by
  obtain ⟨B, φ, S, R, run⟩ := h
  refine ⟨B, φ, S, R, run.bind.imp ?_⟩
  rintro x H1 ⟨d, B1, φ1, S1, e1, R1, r1, P, X, h1, h2, h3⟩
  cases d with
  | bl b =>
    simp only [Rep] at r1
    exact ⟨b, r1, h2 b S1 b B1 φ1 H1 h1 (Ext.refl _ _) R1 rfl⟩
  | _ => exact h1.elim
theorem dt_cmp {op : CmpOp} {r : R2} {f : Dop} (ho : OpR X (compareOp op) r) (hr : OpA X.K WE r f) (ha : PE X a (tE X.K WE fa)) (hb : PE X b (tE X.K WE fb)) (hm : behindInMarks op b = false) : PT X (.Compare a [op] [b] pos) (tT X.K WE (mTest (mBin f fa fb))) :=
  PT.weak (pt_cmpR ho ha hb hm) fun σ H Q h => by
    have q := tB_of σ H Q h
    exact tOp_of hr σ H _ q
theorem dt_val {e : Expr} (h : PE X e (tE X.K WE fa)) (he : ∀ whole, isTrue e X.env whole = (do let v ← whole; standAt e.pos; holding [v] (truthy v)) := by intro _; rfl) : PT X e (tT X.K WE (mTest fa)) :=
  PT.weak (pt_val h he) fun σ H Q h => tB_of σ H Q h
end

section
variable {K : PySem.W.Frag} {WE : WX}
/-- a pure end -/
theorem Run.fin {α β : Type} {R : Hp → List Addr → α → β → Prop} {B : Hp} {φ : List Addr} {S : AS} {σ : L2.St} {H : Hp} {Q : β → Hp → Prop} {P : α → AS → Prop}
    (h2 : ∀ a S' b B' φ' H', P a S' → Ext B φ B' φ' → Rel K B' φ' S' σ H' → R B' φ' a b → Q b H') {a : α} {b : β} (hp : P a S) (R1 : Rel K B φ S σ H) (r : R B φ a b) : Q b H :=
  h2 a S b B φ H hp (Ext.refl _ _) R1 r
def iop (C : Int → Int → Prop) (g : Int → Int → D) : Dop
  | .int i, .int j => fun S P _ => C i j ∧ P (g i j) S
  | _, _ => fun _ _ _ => False
theorem opa_int {C : Int → Int → Prop} {g : Int → Int → D} {gv : Int → Int → V} (h : ∀ i j B φ, Rep K B φ (g i j) (gv i j)) : OpA K WE (rI C gv) (iop C g) := by
  intro B φ S σ H a b x y Q R ra rb q
  obtain ⟨P, Xx, h1, h2, h3⟩ := q
  cases a with
  | int i =>
    cases b with
    | int j =>
      simp only [Rep] at ra rb
      exact ⟨i, j, ra, rb, h1.1, Run.fin h2 h1.2 R (h i j B φ)⟩
    | _ => exact h1.elim
  | _ => exact h1.elim
def iop0 (g : Int → Int → D) : Dop
  | .int i, .int j => fun S P _ => P (g i j) S
  | _, _ => fun _ _ _ => False
theorem opa_int0 {g : Int → Int → D} {gv : Int → Int → V} (h : ∀ i j B φ, Rep K B φ (g i j) (gv i j)) : OpA K WE (rI0 gv) (iop0 g) := by
  intro B φ S σ H a b x y Q R ra rb q
  obtain ⟨P, Xx, h1, h2, h3⟩ := q
  cases a with
  | int i =>
    cases b with
    | int j =>
      simp only [Rep] at ra rb
      exact ⟨i, j, ra, rb, Run.fin h2 h1 R (h i j B φ)⟩
    | _ => exact h1.elim
  | _ => exact h1.elim
def dSub : Dop := iop0 fun i j => .int (i - j)
def dMul : Dop := iop CMul fun i j => .int (i * j)
def dMod : Dop := iop (fun _ j => 0 < j) fun i j => .int (i % j)
def dDiv : Dop := iop CDivW fun i j => .int (i / j)
def dPow : Dop := iop CPow fun i j => .int (i ^ j.toNat)
def dLt : Dop := iop0 fun i j => .bl (decide (i < j))
def dLe : Dop := iop0 fun i j => .bl (decide (i ≤ j))
def dGt : Dop := iop0 fun i j => .bl (decide (j < i))
def dGe : Dop := iop0 fun i j => .bl (decide (j ≤ i))
/-- a new list: frozen, or with a handle -/
def newL (h : Bool) (l : List D) : M D := fun S P _ => if h = true then P (.hnd S.W.length) ⟨S.σ, S.W ++ [.lst l]⟩ else P (.lst l) S
theorem newL_ok {h : Bool} {l : List D} {B : Hp} {φ : List Addr} {S : AS} {σ : L2.St} {H : Hp} {Q : VK} (R : Rel K B φ S σ H) (q : Run K WE (fun B φ => Rep K B φ) (newL h l) B φ S σ H Q) {xs : List V} (r : Reps K B φ l xs) {p : Addr} (hp : H p = none) :
    Q (.ref p) (upd H p (.lst xs)) := by
  obtain ⟨P, Xx, h1, h2, h3⟩ := q
  cases h with
  | true =>
    have h1' : P (.hnd S.W.length) ⟨S.σ, S.W ++ [.lst l]⟩ := h1
    obtain ⟨w, e⟩ := R.w.add (o := .lst l) (ho := .lst xs) hp ⟨xs, upd_same, r⟩
    refine h2 _ _ _ _ _ _ h1' e (R.ext e w) ?_
    simp only [Rep]
    exact ⟨p, by rw [← R.w.len, List.getElem?_append_right (Nat.le_refl _)]; simp, rfl⟩
  | false =>
    have h1' : P (.lst l) S := h1
    obtain ⟨w, e⟩ := R.w.frz (o := .lst xs) hp
    refine h2 _ _ _ _ _ _ h1' e (R.ext e w) ?_
    simp only [Rep]
    exact ⟨p, xs, rfl, upd_same, r.mono e _ _⟩
theorem newT_ok {l : List D} {B : Hp} {φ : List Addr} {S : AS} {σ : L2.St} {H : Hp} {Q : VK} {P : D → AS → Prop} (R : Rel K B φ S σ H) (h1 : P (.tup l) S)
    (h2 : ∀ a S' b B' φ' H', P a S' → Ext B φ B' φ' → Rel K B' φ' S' σ H' → Rep K B' φ' a b → Q b H') {xs : List V} (r : Reps K B φ l xs) {p : Addr} (hp : H p = none) : Q (.ref p) (upd H p (.tup xs)) := by
  obtain ⟨w, e⟩ := R.w.frz (o := .tup xs) hp
  refine h2 _ _ _ _ _ _ h1 e (R.ext e w) ?_
  simp only [Rep]
  exact ⟨p, xs, rfl, SqT.of upd_same, r.mono e _ _⟩
theorem Run.bindP {α β γ : Type} {R : Hp → List Addr → α → β → Prop} {f : M γ} : True := trivial
/-- + -/
def dAdd (h : Bool) : Dop
  | .int i, .int j => fun S P _ => P (.int (i + j)) S
  | .str x, .str y => fun S P _ => x.length + y.length ≤ sizeLine ∧ P (.str (x ++ y)) S
  | .tup l, .tup m => fun S P _ => l ≠ [] ∧ l.length + m.length ≤ sizeLine ∧ P (.tup (l ++ m)) S
  | a, b => fun S P X => match rdM S.W a, rdM S.W b with
    | some l, some m => l.length + m.length ≤ sizeLine ∧ newL h (l ++ m) S P X
    | _, _ => False
end
end Tw

set_option Elab.async false
set_option linter.all false
set_option maxRecDepth 100000
set_option maxHeartbeats 4000000
namespace Tw
open PySem PySem.Spec PyProof.Rows L2

section
variable {K : PySem.W.Frag} {WE : WX}
abbrev RRun (K : PySem.W.Frag) (WE : WX) (f : M D) (B : Hp) (φ : List Addr) (S : AS) (σ : L2.St) (H : Hp) (Q : VK) : Prop := Run K WE (fun B φ => Rep K B φ) f B φ S σ H Q
theorem Run.ret {f : M D} {B : Hp} {φ : List Addr} {S : AS} {σ : L2.St} {H : Hp} {Q : VK} {d : D} {v : V} (R : Rel K B φ S σ H) (q : RRun K WE f B φ S σ H Q) (h : ∀ P X, f S P X → P d S) (r : Rep K B φ d v) : Q v H := by
  obtain ⟨P, Xx, h1, h2, h3⟩ := q
  exact h2 d S v B φ H (h P Xx h1) (Ext.refl _ _) R r
def rAddAll (K : PySem.W.Frag) : R2 := fun x y H Q => rI0 (fun i j => .int (i + j)) x y H Q ∨ (∃ i j, x = .str i ∧ y = .str j ∧ i.length + j.length ≤ sizeLine ∧ Q (.str (i ++ j)) H) ∨ rCatT K x y H Q ∨ rCat x y H Q
theorem op_addAll {X : Cx} : OpR X (binaryOp .Add) (rAddAll X.K) := OpR.or op_add (OpR.or op_add_str (OpR.or op_catT op_cat))
theorem cat_lists {h : Bool} {a b : D} {x y : V} {B : Hp} {φ : List Addr} {S : AS} {σ : L2.St} {H : Hp} {Q : VK} {l m : List D} (R : Rel K B φ S σ H) (ra : Rep K B φ a x) (rb : Rep K B φ b y) (e1 : rdM S.W a = some l) (e2 : rdM S.W b = some m)
    (hz : l.length + m.length ≤ sizeLine) (q : RRun K WE (newL h (l ++ m)) B φ S σ H Q) : rCat x y H Q := by
  obtain ⟨p, xs, rfl, hx, rx⟩ := rdM_ok R.w ra e1
  obtain ⟨p2, ys, rfl, hy, ry⟩ := rdM_ok R.w rb e2
  exact ⟨p, p2, xs, ys, rfl, rfl, hx, hy, by rw [rx.length, ry.length]; exact hz, fun z hz => newL_ok R q (rx.append ry) hz⟩
theorem opa_add (h : Bool) : OpA K WE (rAddAll K) (dAdd h) := by
  intro B φ S σ H a b x y Q R ra rb q
  have gen : (∀ P X, dAdd h a b S P X → ∃ l m, rdM S.W a = some l ∧ rdM S.W b = some m ∧ l.length + m.length ≤ sizeLine ∧ newL h (l ++ m) S P X) → rAddAll K x y H Q := fun g => by
    obtain ⟨P, Xx, h1, h2, h3⟩ := q
    obtain ⟨l, m, e1, e2, hz, n⟩ := g P Xx h1
    exact .inr (.inr (.inr (cat_lists (WE := WE) R ra rb e1 e2 hz ⟨P, Xx, n, h2, h3⟩)))
  have gen2 : (∀ P X, dAdd h a b S P X → match rdM S.W a, rdM S.W b with
    | some l, some m => l.length + m.length ≤ sizeLine ∧ newL h (l ++ m) S P X
    | _, _ => False) → rAddAll K x y H Q := fun g => gen fun P X hh => by
      have := g P X hh
      split at this
      · rename_i l m e1 e2
        exact ⟨l, m, e1, e2, this⟩
      · exact this.elim
  cases a with
  | int i =>
    cases b with
    | int j =>
      simp only [Rep] at ra rb
      exact .inl ⟨i, j, ra, rb, Run.ret R q (fun _ _ h => h) (by simp only [Rep])⟩
    | _ => exact gen2 fun P X hh => hh
  | str i =>
    cases b with
    | str j =>
      simp only [Rep] at ra rb
      obtain ⟨P, Xx, h1, h2, h3⟩ := q
      exact .inr (.inl ⟨i, j, ra, rb, h1.1, Run.fin h2 h1.2 R (by simp only [Rep])⟩)
    | _ => exact gen2 fun P X hh => hh
  | tup l =>
    cases b with
    | tup m =>
      have ra0 := ra
      simp only [Rep] at ra rb
      obtain ⟨P, Xx, ⟨h0, hz, h1⟩, h2, h3⟩ := q
      obtain ⟨p, xs, rfl, hx, rx⟩ := ra
      obtain ⟨p2, ys, rfl, hy, ry⟩ := rb
      refine .inr (.inr (.inl ⟨p, p2, xs, ys, rfl, rfl, R.w.sqT hx, R.w.sqT hy, fun z => h0 ?_, by rw [rx.length, ry.length]; exact hz, fun z => ?_, fun _ z hz => newT_ok R h1 h2 (rx.append ry) hz⟩))
      · have := rx.length
        rw [z] at this
        exact List.length_eq_zero_iff.mp this.symm
      · have e : m = [] := by
          have := ry.length
          rw [z] at this
          exact List.length_eq_zero_iff.mp this.symm
        subst e
        rw [List.append_nil] at h1
        exact Run.fin h2 h1 R ra0
    | _ => exact gen2 fun P X hh => hh
  | _ => exact gen2 fun P X hh => hh

/-! ### == and in -/
theorem op_eqP {X : Cx} (hu : X.A.units + 64 < cLine) : OpR X (compareOp .Eq) (fun x y H Q => ∃ d e, Dp X.K H x d ∧ Dp X.K H y e ∧ d.plain = true ∧ e.plain = true ∧ d.depth ≤ 60 ∧ Q (.bl (PyData.eqv d e)) H) := by
  intro pins s σ H x y v u Q I rx ry h
  obtain ⟨d, e, hd, he, sd, se, hz, q⟩ := h
  obtain ⟨as, r1⟩ := Dp.reads I d x v hd rx
  obtain ⟨bs, r2⟩ := Dp.reads I e y u he ry
  exact SeqAt.eq_plain r1 r2 sd se (by omega) ⟨.bl _, H, I, rfl, q⟩
theorem op_neP {X : Cx} (hu : X.A.units + 64 < cLine) : OpR X (compareOp .NotEq) (fun x y H Q => ∃ d e, Dp X.K H x d ∧ Dp X.K H y e ∧ d.plain = true ∧ e.plain = true ∧ d.depth ≤ 60 ∧ Q (.bl (!PyData.eqv d e)) H) := by
  intro pins s σ H x y v u Q I rx ry h
  obtain ⟨d, e, hd, he, sd, se, hz, q⟩ := h
  obtain ⟨as, r1⟩ := Dp.reads I d x v hd rx
  obtain ⟨bs, r2⟩ := Dp.reads I e y u he ry
  exact SeqAt.ne_plain r1 r2 sd se (by omega) ⟨.bl _, H, I, rfl, q⟩
def dEq : Dop := fun a b S P _ => (vw S.W a).lay 60 = true ∧ (vw S.W b).lay 60 = true ∧ P (.bl ((vw S.W a).eq (vw S.W b))) S
def dNe : Dop := fun a b S P _ => (vw S.W a).lay 60 = true ∧ (vw S.W b).lay 60 = true ∧ P (.bl (!(vw S.W a).eq (vw S.W b))) S
theorem opa_eq : OpA K WE (fun x y H Q => ∃ d e, Dp K H x d ∧ Dp K H y e ∧ d.plain = true ∧ e.plain = true ∧ d.depth ≤ 60 ∧ Q (.bl (PyData.eqv d e)) H) dEq := by
  intro B φ S σ H a b x y Q R ra rb q
  obtain ⟨P, Xx, ⟨la, lb, h1⟩, h2, h3⟩ := q
  obtain ⟨xa, ea, pa, za⟩ := D.py_lay 60 _ la
  obtain ⟨xb, eb, pb, zb⟩ := D.py_lay 60 _ lb
  refine ⟨xa, xb, vw_dp R.w ra ea, vw_dp R.w rb eb, pa, pb, za, Run.fin h2 h1 R ?_⟩
  rw [D.eq_py _ _ _ _ ea eb]
  simp only [Rep]
theorem opa_ne : OpA K WE (fun x y H Q => ∃ d e, Dp K H x d ∧ Dp K H y e ∧ d.plain = true ∧ e.plain = true ∧ d.depth ≤ 60 ∧ Q (.bl (!PyData.eqv d e)) H) dNe := by
  intro B φ S σ H a b x y Q R ra rb q
  obtain ⟨P, Xx, ⟨la, lb, h1⟩, h2, h3⟩ := q
  obtain ⟨xa, ea, pa, za⟩ := D.py_lay 60 _ la
  obtain ⟨xb, eb, pb, zb⟩ := D.py_lay 60 _ lb
  refine ⟨xa, xb, vw_dp R.w ra ea, vw_dp R.w rb eb, pa, pb, za, Run.fin h2 h1 R ?_⟩
  rw [D.eq_py _ _ _ _ ea eb]
  simp only [Rep]
/-- x in c: a list, a tuple (of data), a dict's keys, one sign in a text -/
def valD : List Key → List D → Key → Option D
  | k0 :: ks, d :: l, k => if k0 = k then some d else valD ks l k
  | _, _, _ => none
def toKey : D → Option Key
  | .int i => some (.inl i)
  | .str s => some (.inr s)
  | _ => none
def rdD (W : Wd) : D → Option (List Key × List D)
  | .dct ks l => some (ks, l)
  | .hnd n => match W[n]? with
    | some (.dct ks l) => some (ks, l)
    | _ => none
  | _ => none
theorem rdD_ok {B H : Hp} {φ : List Addr} {W : Wd} (R : RelW K B φ W H) {d : D} {v : V} {ks : List Key} {l : List D} (h : Rep K B φ d v) (e : rdD W d = some (ks, l)) :
    ∃ p kvs, v = .ref p ∧ Rd H p (.dK kvs) ∧ kvs.map (·.1) = ks ∧ Reps K B φ l (kvs.map (·.2)) := by
  cases d with
  | dct ks l =>
    simp only [rdD, Option.some.injEq, Prod.mk.injEq] at e
    obtain ⟨rfl, rfl⟩ := e
    simp only [Rep] at h
    obtain ⟨p, kvs, h1, h2, h3, h4⟩ := h
    exact ⟨p, kvs, h1, R.sub.rd h2, h3, h4⟩
  | hnd n =>
    simp only [rdD] at e
    split at e
    · rename_i ks' l' hl
      cases e
      obtain ⟨a, ha, kvs, hx, hk, hr⟩ := R.get hl
      simp only [Rep] at h
      obtain ⟨a', ha', rfl⟩ := h
      rw [ha] at ha'; cases ha'
      exact ⟨a, kvs, rfl, .inl hx, hk, hr⟩
    · cases e
  | _ => simp [rdD] at e
theorem toKey_ok {B : Hp} {φ : List Addr} {d : D} {v : V} {k : Key} (h : Rep K B φ d v) (e : toKey d = some k) : v = kV k := by
  cases d with
  | int i => simp only [toKey, Option.some.injEq] at e; subst e; simp only [Rep] at h; exact h
  | str i => simp only [toKey, Option.some.injEq] at e; subst e; simp only [Rep] at h; exact h
  | _ => simp [toKey] at e
theorem valV_val {B : Hp} {φ : List Addr} : ∀ {kvs : List (Key × V)} {l : List D} (k : Key), Reps K B φ l (kvs.map (·.2)) →
    (valD (kvs.map (·.1)) l k = none ∧ valV kvs k = none) ∨ ∃ d v, valD (kvs.map (·.1)) l k = some d ∧ valV kvs k = some v ∧ Rep K B φ d v
  | [], l, k, h => .inl ⟨by simp [valD], by simp [valV]⟩
  | (k0, v0) :: kvs, [], k, h => by simp [Reps] at h
  | (k0, v0) :: kvs, d :: l, k, h => by
    obtain ⟨x, r, e, h1, t⟩ := h.cons_inv
    simp only [List.map_cons, List.cons.injEq] at e
    obtain ⟨rfl, rfl⟩ := e
    by_cases hk : k0 = k
    · subst hk
      exact .inr ⟨d, v0, by simp [valD], by simp [valV], h1⟩
    · have e1 : valV ((k0, v0) :: kvs) k = valV kvs k := by simp [valV, hk]
      have e2 : valD (List.map (·.1) ((k0, v0) :: kvs)) (d :: l) k = valD (kvs.map (·.1)) l k := by simp [valD, hk]
      rw [e1, e2]
      exact valV_val k t
theorem op_inSeq {X : Cx} (hu : X.A.units + 64 < cLine) (neg : Bool) : OpR X (compareOp (if neg then .NotIn else .In)) (fun x y H Q => ∃ d ds p xs, y = .ref p ∧ Dp X.K H x d ∧ (SqL X.K H p xs ∨ SqT X.K H p xs) ∧ DpAll X.K H xs ds ∧ d.plain = true ∧ PyData.plainAll ds = true ∧ d.depth ≤ 60 ∧
    Q (.bl (if neg then !ds.any fun z => PyData.eqv z d else ds.any fun z => PyData.eqv z d)) H) := by
  intro pins s σ H x y v u Q I rx ry h
  obtain ⟨d, ds, p, xs, rfl, hd, hp, ha, sd, se, hz, q⟩ := h
  obtain ⟨as, r1⟩ := Dp.reads I d x v hd rx
  rcases hp with hp | hp
  · obtain ⟨bs, r2⟩ := Dp.reads I (.list ds) (.ref p) u (.lst hp ha) ry
    cases neg with
    | true => exact SeqAt.notIn_list_data r2 r1 se sd (by omega) ⟨.bl _, H, I, rfl, q⟩
    | false => exact SeqAt.in_list_data r2 r1 se sd (by omega) ⟨.bl _, H, I, rfl, q⟩
  · obtain ⟨bs, r2⟩ := Dp.reads I (.tuple ds) (.ref p) u (.tup hp ha) ry
    cases neg with
    | true => exact SeqAt.notIn_tuple_data r2 r1 se sd (by omega) ⟨.bl _, H, I, rfl, q⟩
    | false => exact SeqAt.in_tuple_data r2 r1 se sd (by omega) ⟨.bl _, H, I, rfl, q⟩
theorem op_inDict {X : Cx} (hu : X.A.units + 64 < cLine) (neg : Bool) : OpR X (compareOp (if neg then .NotIn else .In)) (fun x y H Q => ∃ a o, y = .ref a ∧ DGet H a x o ∧ Q (.bl (if neg then !o.isSome else o.isSome)) H) := by
  intro pins s σ H x y v u Q I rx ry h
  obtain ⟨a, o, rfl, g, q⟩ := h
  obtain rfl : u = Value.ref a := ry
  cases neg with
  | true => exact d_notIn (by omega) I g rx fun s3 I3 => ⟨.bl _, H, I3, rfl, q⟩
  | false => exact d_in (by omega) I g rx fun s3 I3 => ⟨.bl _, H, I3, rfl, q⟩
theorem op_inSign {X : Cx} (neg : Bool) : OpR X (compareOp (if neg then .NotIn else .In)) (fun x y H Q => ∃ (c : Nat) (z : Str), x = .str ⟨#[c]⟩ ∧ y = .str z ∧ Q (.bl (if neg then !decide (c ∈ z.cps.toList) else decide (c ∈ z.cps.toList))) H) := by
  cases neg with
  | true => exact op_notIn_sign
  | false => exact op_in_sign
def rInAll (K : PySem.W.Frag) (neg : Bool) : R2 := fun x y H Q =>
  (∃ d ds p xs, y = .ref p ∧ Dp K H x d ∧ (SqL K H p xs ∨ SqT K H p xs) ∧ DpAll K H xs ds ∧ d.plain = true ∧ PyData.plainAll ds = true ∧ d.depth ≤ 60 ∧ Q (.bl (if neg then !ds.any fun z => PyData.eqv z d else ds.any fun z => PyData.eqv z d)) H) ∨
  (∃ a o, y = .ref a ∧ DGet H a x o ∧ Q (.bl (if neg then !o.isSome else o.isSome)) H) ∨ ∃ (c : Nat) (z : Str), x = .str ⟨#[c]⟩ ∧ y = .str z ∧ Q (.bl (if neg then !decide (c ∈ z.cps.toList) else decide (c ∈ z.cps.toList))) H
theorem op_inAll {X : Cx} (hu : X.A.units + 64 < cLine) (neg : Bool) : OpR X (compareOp (if neg then .NotIn else .In)) (rInAll X.K neg) := OpR.or (op_inSeq hu neg) (OpR.or (op_inDict hu neg) (op_inSign neg))
def negb (neg b : Bool) : Bool := if neg then !b else b
def dIn (neg : Bool) : Dop := fun a b S P _ => match b with
  | .str z => (match a with
    | .str x => (match x.cps.toList with
      | [c] => P (.bl (negb neg (decide (c ∈ z.cps.toList)))) S
      | _ => False)
    | _ => False)
  | b => match rdD S.W b with
    | some (ks, l) => (match toKey a with
      | some k => P (.bl (negb neg (valD ks l k).isSome)) S
      | none => False)
    | none => match rdS S.W b with
      | some l => (vw S.W a).lay 60 = true ∧ D.lays 60 l = true ∧ P (.bl (negb neg (l.any fun z => z.eq (vw S.W a)))) S
      | none => False
theorem any_py (d : D) (x : PyData) (e : d.py = some x) : ∀ (l : List D) (xs : List PyData), D.pys l = some xs → (xs.any fun z => PyData.eqv z x) = l.any fun z => z.eq d
  | [], xs, h => by simp only [D.pys, Option.some.injEq] at h; subst h; rfl
  | z :: l, xs, h => by
    simp only [D.pys] at h
    split at h
    · rename_i y ys h1 h2
      cases h
      rw [List.any_cons, List.any_cons, D.eq_py z d y x h1 e, any_py d x e l ys h2]
    · cases h
theorem opa_in (neg : Bool) : OpA K WE (rInAll K neg) (dIn neg) := by
  intro B φ S σ H a b x y Q R ra rb q
  have gen : (∀ P X, dIn neg a b S P X → match rdD S.W b with
    | some (ks, l) => (match toKey a with
      | some k => P (.bl (negb neg (valD ks l k).isSome)) S
      | none => False)
    | none => match rdS S.W b with
      | some l => (vw S.W a).lay 60 = true ∧ D.lays 60 l = true ∧ P (.bl (negb neg (l.any fun z => z.eq (vw S.W a)))) S
      | none => False) → rInAll K neg x y H Q := fun g => by
    obtain ⟨P, Xx, h1, h2, h3⟩ := q
    have h1 := g P Xx h1
    split at h1
    · rename_i ks l e1
      split at h1
      · rename_i k e2
        obtain ⟨p, kvs, rfl, hd, rfl, hr⟩ := rdD_ok R.w rb e1
        obtain rfl := toKey_ok ra e2
        refine .inr (.inl ⟨p, valV kvs k, rfl, .inl ⟨kvs, k, hd, rfl, rfl⟩, ?_⟩)
        refine Run.fin h2 h1 R ?_
        rcases valV_val k hr with ⟨v1, v2⟩ | ⟨d, v, v1, v2, _⟩ <;> (rw [v1, v2]; simp only [Rep, negb, Option.isSome])
      · exact h1.elim
    · split at h1
      · rename_i l e2
        obtain ⟨la, lb, h1⟩ := h1
        obtain ⟨p, xs, rfl, hp, hr⟩ := rdS_ok R.w rb e2
        obtain ⟨xa, ea, pa, za⟩ := D.py_lay 60 _ la
        obtain ⟨xb, eb, pb, zb⟩ := D.pys_lay 60 _ lb
        refine .inl ⟨xa, xb, p, xs, rfl, vw_dp R.w ra ea, hp, Reps.dp R.w l xs xb hr eb, pa, pb, za, ?_⟩
        refine Run.fin h2 h1 R ?_
        rw [any_py _ _ ea _ _ eb]
        simp only [Rep, negb]
      · exact h1.elim
  cases b with
  | str z =>
    obtain ⟨P, Xx, h1, h2, h3⟩ := q
    cases a with
    | str s =>
      have h1' : match s.cps.toList with
        | [c] => P (.bl (negb neg (decide (c ∈ z.cps.toList)))) S
        | _ => False := h1
      split at h1'
      · rename_i c ec
        simp only [Rep] at ra rb
        obtain ⟨⟨cs⟩⟩ := s
        simp only at ec
        subst ec
        exact .inr (.inr ⟨c, z, ra, rb, Run.fin h2 h1' R (by simp only [Rep, negb])⟩)
      · exact h1'.elim
    | _ => exact False.elim h1
  | _ => exact gen fun P X hh => hh
/-- x is None -/
def isNon : D → Bool
  | .non => true
  | _ => false
def dIs (neg : Bool) : Dop := fun a b S P _ => match b with
  | .non => P (.bl (negb neg (isNon a))) S
  | _ => False
theorem rep_non {B : Hp} {φ : List Addr} {d : D} {v : V} (h : Rep K B φ d v) : decide (v = .non) = isNon d := by
  cases d <;> simp only [isNon] <;> simp only [Rep] at h <;> first
    | (subst h; simp)
    | (obtain ⟨_, _, rfl, _⟩ := h; simp)
    | (obtain ⟨_, _, rfl⟩ := h; simp)
theorem opa_isN : OpA K WE (fun x y H Q => y = .non ∧ Q (.bl (decide (x = .non))) H) (dIs false) := by
  intro B φ S σ H a b x y Q R ra rb q
  obtain ⟨P, Xx, h1, h2, h3⟩ := q
  cases b with
  | non =>
    have rb0 := rb
    simp only [Rep] at rb0
    refine ⟨rb0, ?_⟩
    rw [rep_non ra]
    exact Run.fin h2 h1 R (by simp only [Rep]; rfl)
  | _ => exact h1.elim
theorem opa_notN : OpA K WE (fun x y H Q => y = .non ∧ Q (.bl (!decide (x = .non))) H) (dIs true) := by
  intro B φ S σ H a b x y Q R ra rb q
  obtain ⟨P, Xx, h1, h2, h3⟩ := q
  cases b with
  | non =>
    have rb0 := rb
    simp only [Rep] at rb0
    refine ⟨rb0, ?_⟩
    rw [rep_non ra]
    exact Run.fin h2 h1 R (by simp only [Rep]; rfl)
  | _ => exact h1.elim

/-! ### a[i] -/
def ixL (l : List D) (b : D) (k : D → Prop) : Prop := match b with
  | .int i => (match atI l i with
    | some d => k d
    | none => False)
  | _ => False
theorem ixL_inv {l : List D} {b : D} {k : D → Prop} (h : ixL l b k) : ∃ i d, b = .int i ∧ atI l i = some d ∧ k d := by
  unfold ixL at h
  split at h
  · split at h
    · rename_i i _ d e
      exact ⟨i, d, rfl, e, h⟩
    · exact h.elim
  · exact h.elim
def dIx : Dop := fun a b S P _ => match a, b with
  | .str z, .int i => (match atI z.cps.toList i with
    | some c => z.length ≤ sizeLine ∧ P (.str ⟨#[c]⟩) S
    | none => False)
  | a, b => match rdD S.W a with
    | some (ks, l) => (match toKey b with
      | some k => (match valD ks l k with
        | some d => P d S
        | none => False)
      | none => False)
    | none => match rdS S.W a with
      | some l => ixL l b fun d => P d S
      | none => False
theorem ix_dict {X : Cx} (hu : X.A.units + 64 < cLine) : IxR X (fun x y H Q => ∃ a v, x = .ref a ∧ DGet H a y (some v) ∧ Q v H) := by
  intro value slice pins s σ H x y v u Q I rx ry h hs
  obtain ⟨a, w, rfl, g, q⟩ := h
  obtain rfl : v = Value.ref a := rx
  exact tail_any (dict_typeIs I g) PySem.F.slot_dict_getitem.lookup (d_getItem (by omega) I g ry fun w' s3 I3 rw' => ⟨w, H, I3, rw', q⟩) hs
def rIxAll (K : PySem.W.Frag) : R2 := fun x y H Q => (∃ a v, x = .ref a ∧ DGet H a y (some v) ∧ Q v H) ∨ rIx K x y H Q
theorem ix_all {X : Cx} (hu : X.A.units + 64 < cLine) : IxR X (rIxAll X.K) := IxR.or (ix_dict hu) ix_seq
theorem atI_rep {B : Hp} {φ : List Addr} {l : List D} {xs : List V} {i : Int} {d : D} (r : Reps K B φ l xs) (h : atI l i = some d) : ∃ v, atI xs i = some v ∧ Rep K B φ d v := by
  unfold atI at h ⊢
  rw [r.length]
  cases e : ixN l.length i with
  | none => rw [e] at h; cases h
  | some j =>
    rw [e] at h
    exact r.get h
theorem opa_ix : OpA K WE (rIxAll K) dIx := by
  intro B φ S σ H a b x y Q R ra rb q
  have gen : (∀ P X, dIx a b S P X → match rdD S.W a with
    | some (ks, l) => (match toKey b with
      | some k => (match valD ks l k with
        | some d => P d S
        | none => False)
      | none => False)
    | none => match rdS S.W a with
      | some l => ixL l b fun d => P d S
      | none => False) → rIxAll K x y H Q := fun g => by
    obtain ⟨P, Xx, h1, h2, h3⟩ := q
    have h1 := g P Xx h1
    split at h1
    · rename_i ks l e1
      split at h1
      · rename_i k e2
        split at h1
        · rename_i d e3
          obtain ⟨p, kvs, rfl, hd, rfl, hr⟩ := rdD_ok R.w ra e1
          obtain rfl := toKey_ok rb e2
          rcases valV_val k hr with ⟨v1, v2⟩ | ⟨d', v, v1, v2, r⟩
          · rw [v1] at e3; cases e3
          · rw [v1] at e3; cases e3
            exact .inl ⟨p, v, rfl, .inl ⟨kvs, k, hd, rfl, v2.symm⟩, Run.fin h2 h1 R r⟩
        · exact h1.elim
      · exact h1.elim
    · split at h1
      · rename_i l e2
        obtain ⟨i, d, rfl, e3, h1⟩ := ixL_inv h1
        obtain ⟨p, xs, rfl, hp, hr⟩ := rdS_ok R.w ra e2
        obtain ⟨v, ev, rv⟩ := atI_rep hr e3
        simp only [Rep] at rb
        rcases hp with hp | hp
        · exact .inr (.inl ⟨p, xs, i, v, rfl, rb, hp, ev, Run.fin h2 h1 R rv⟩)
        · exact .inr (.inr (.inl ⟨p, xs, i, v, rfl, rb, hp, ev, Run.fin h2 h1 R rv⟩))
      · exact h1.elim
  cases a with
  | str z =>
    cases b with
    | int i =>
      obtain ⟨P, Xx, h1, h2, h3⟩ := q
      have h1' : match atI z.cps.toList i with
        | some c => z.length ≤ sizeLine ∧ P (.str ⟨#[c]⟩) S
        | none => False := h1
      split at h1'
      · rename_i c ec
        simp only [Rep] at ra rb
        exact .inr (.inr (.inr ⟨z, i, c, ra, rb, h1'.1, ec, Run.fin h2 h1'.2 R (by simp only [Rep])⟩))
      · exact h1'.elim
    | _ => exact gen fun P X hh => hh
  | _ => exact gen fun P X hh => hh
theorem de_ix {X : Cx} {a b : Expr} {fa fb : M D} {pos : Pos} (hu : X.A.units + 64 < cLine) (ha : PE X a (tE X.K WE fa)) (hb : PE X b (tE X.K WE fb)) (hs : PlainIx b := by exact fun _ _ => rfl) : PE X (.Subscript a b pos) (tE X.K WE (mBin dIx fa fb)) :=
  PE.weak (pe_ix (ix_all hu) ha hb hs) fun σ H Q h => tOp_of opa_ix σ H Q h
end
end Tw

set_option Elab.async false
set_option linter.all false
set_option maxRecDepth 100000
set_option maxHeartbeats 4000000
namespace Tw
open PySem PySem.Spec PyProof.Rows L2

/-! ### expressions -/
section
variable {X : Cx} {WE : WX} {a b c : Expr} {fa fb fc : M D} {pos : Pos}
def mVar (i : Nat) : M D := fun S P _ => match S.σ[i]? with
  | some (some d) => P d S
  | _ => False
def mC (d : D) : M D := fun S P _ => P d S
theorem tVar_of {K : PySem.W.Frag} {i : Nat} (σ : L2.St) (H : Hp) (Q : VK) (h : tE K WE (mVar i) σ H Q) : tVar i σ H Q := by
  obtain ⟨B, φ, S, R, P, Xx, h1, h2, h3⟩ := h
  have h1' : match S.σ[i]? with
    | some (some d) => P d S
    | _ => False := h1
  split at h1'
  · rename_i d e
    obtain ⟨v, hv, rv⟩ := R.slot i d e
    exact ⟨v, hv, Run.fin h2 h1' R rv⟩
  · exact h1'.elim
theorem tC_of {K : PySem.W.Frag} {d : D} {v : V} (hr : ∀ B φ, Rep K B φ d v) (σ : L2.St) (H : Hp) (Q : VK) (h : tE K WE (mC d) σ H Q) : tC v σ H Q := by
  obtain ⟨B, φ, S, R, P, Xx, h1, h2, h3⟩ := h
  exact Run.fin h2 (show P d S from h1) R (hr B φ)
theorem dv (i : Nat) {x : Str} {pos : Pos} (hN : X.N[i]? = some x := by rfl) (hv : Vis X.env.scope x := by first | exact Or.inl rfl | exact Or.inr (Or.inl rfl) | exact Or.inr (Or.inr rfl)) (hd : (x == ("__debug__" : Str)) = false := by decide)
    (hcd : (x == ("__classdict__" : Str)) = false := by decide) : PE X (.Name x pos) (tE X.K WE (mVar i)) := PE.weak (pe_var hN hv hd hcd) fun σ H Q h => tVar_of σ H Q h
theorem d_int {i j} : PE X (.Constant (.int i) j pos) (tE X.K WE (mC (.int i))) := PE.weak pe_int fun σ H Q h => tC_of (fun _ _ => by simp only [Rep]) σ H Q h
theorem d_bl {i j} : PE X (.Constant (.bool i) j pos) (tE X.K WE (mC (.bl i))) := PE.weak pe_bl fun σ H Q h => tC_of (fun _ _ => by simp only [Rep]) σ H Q h
theorem d_str {i j} : PE X (.Constant (.str i) j pos) (tE X.K WE (mC (.str i))) := PE.weak pe_str fun σ H Q h => tC_of (fun _ _ => by simp only [Rep]) σ H Q h
theorem d_non {j} : PE X (.Constant .none j pos) (tE X.K WE (mC .non)) := PE.weak pe_non fun σ H Q h => tC_of (fun _ _ => by simp only [Rep]) σ H Q h
theorem d_glob {x : Str} {d : D} {v : V} {u : Value} (hg : Gl X x) (hm : X.mg x = some u) (r : RelV v u) (hr : ∀ B φ, Rep X.K B φ d v) (hd : (x == ("__debug__" : Str)) = false := by decide) : PE X (.Name x pos) (tE X.K WE (mC d)) :=
  PE.weak (pe_glob hg hm r hd) fun σ H Q h => tC_of hr σ H Q h
theorem d_globI {x : Str} {i : Int} {t : Tok} (hm : X.mg x = some (.int i t)) (hg : Gl X x := by rfl) (hd : (x == ("__debug__" : Str)) = false := by decide) : PE X (.Name x pos) (tE X.K WE (mC (.int i))) := d_glob (v := .int i) hg hm ⟨t, rfl⟩ (fun _ _ => by simp only [Rep]) hd
theorem d_globS {x : Str} {i : Str} {t : Tok} (hm : X.mg x = some (.str i t)) (hg : Gl X x := by rfl) (hd : (x == ("__debug__" : Str)) = false := by decide) : PE X (.Name x pos) (tE X.K WE (mC (.str i))) := d_glob (v := .str i) hg hm ⟨t, rfl⟩ (fun _ _ => by simp only [Rep]) hd
theorem d_type {x : Str} {n : String} (hm : X.mg x = none) (hv : bootBuiltins x = some (.type n)) (hg : Gl X x := by rfl) (hn : x ≠ "__name__" := by decide) (hd : (x == ("__debug__" : Str)) = false := by decide) : PE X (.Name x pos) (tE X.K WE (mC (.ty n))) :=
  PE.weak (pe_bltn (v := .ty n) hg hm hv rfl hn hd) fun σ H Q h => tC_of (fun _ _ => by simp only [Rep]) σ H Q h
/-- arguments -/
def mNil : M (List D) := fun S P _ => P [] S
def mCons (f : M D) (g : M (List D)) : M (List D) := M.bind f fun d => M.bind g fun l => M.pure (d :: l)
theorem da_nil : PA X [] (tA X.K WE mNil) := PA.weak pa_nil fun σ H Q ⟨B, φ, S, R, P, Xx, h1, h2, h3⟩ => Run.fin h2 (show P [] S from h1) R Reps.nil
theorem da_cons {es : List Expr} {ga : M (List D)} (ha : PE X a (tE X.K WE fa)) (hr : PA X es (tA X.K WE ga)) (hs : starEach (a :: es) X.env = (false, eval a X.env) :: starEach es X.env := by rfl) : PA X (a :: es) (tA X.K WE (mCons fa ga)) :=
  PA.weak (pa_cons ha hr hs) fun σ H Q h => by
    obtain ⟨B, φ, S, R, run⟩ := h
    refine ⟨B, φ, S, R, run.bind.imp ?_⟩
    rintro x H1 ⟨d, B1, φ1, S1, e1, R1, r1, run1⟩
    refine ⟨B1, φ1, S1, R1, run1.bind.imp ?_⟩
    rintro xs H2 ⟨l, B2, φ2, S2, e2, R2, r2, P, Xx, h1, h2, h3⟩
    exact Run.fin h2 (show P (d :: l) S2 from h1) R2 (Reps.cons (r1.mono e2 _ _) r2)
def mTup (f : M (List D)) : M D := M.bind f fun l S P _ => l.length ≤ sizeLine ∧ P (.tup l) S
theorem de_tup {es : List Expr} {ga : M (List D)} {x1} (h : PA X es (tA X.K WE ga)) : PE X (.Tuple es x1 pos) (tE X.K WE (mTup ga)) :=
  PE.weak (pe_tup h) fun σ H Q h => by
    obtain ⟨B, φ, S, R, run⟩ := h
    refine ⟨B, φ, S, R, run.bind.imp ?_⟩
    rintro xs H1 ⟨l, B1, φ1, S1, e1, R1, r1, P, Xx, ⟨hz, h1⟩, h2, h3⟩
    exact ⟨by rw [r1.length]; exact hz, fun p hp => newT_ok R1 h1 h2 r1 hp⟩
def mLst (h : Bool) (f : M (List D)) : M D := M.bind f fun l S P X => l.length ≤ sizeLine ∧ newL h l S P X
theorem de_lst {hh : Bool} {es : List Expr} {ga : M (List D)} (h : PA X es (tA X.K WE ga)) : PE X (.List es pos) (tE X.K WE (mLst hh ga)) :=
  PE.weak (pe_lst h) fun σ H Q h => by
    obtain ⟨B, φ, S, R, run⟩ := h
    refine ⟨B, φ, S, R, run.bind.imp ?_⟩
    rintro xs H1 ⟨l, B1, φ1, S1, e1, R1, r1, P, Xx, ⟨hz, h1⟩, h2, h3⟩
    exact ⟨by rw [r1.length]; exact hz, fun p hp => newL_ok (WE := WE) R1 ⟨P, Xx, h1, h2, h3⟩ r1 hp⟩
/-- unary minus -/
def dNeg (d : D) : M D := fun S P _ => match d with
  | .int i => P (.int (-i)) S
  | _ => False
theorem de_neg (ha : PE X a (tE X.K WE fa)) : PE X (.UnaryOp .USub a pos) (tE X.K WE (M.bind fa dNeg)) :=
  PE.weak (pe_un un_neg ha) fun σ H Q h => by
    obtain ⟨B, φ, S, R, run⟩ := h
    refine ⟨B, φ, S, R, run.bind.imp ?_⟩
    rintro x H1 ⟨d, B1, φ1, S1, e1, R1, r1, P, Xx, h1, h2, h3⟩
    cases d with
    | int i =>
      simp only [Rep] at r1
      exact ⟨i, r1, Run.fin h2 h1 R1 (by simp only [Rep])⟩
    | _ => exact False.elim h1
/-- slices -/
def mNoPart : M (Option Int) := fun S P _ => P none S
def mPart (f : M D) : M (Option Int) := M.bind f fun d S P _ => match d with
  | .int i => P (some i) S
  | _ => False
theorem do_none : PO X none (tO X.K WE mNoPart) := by
  have h := po_none (X := X)
  exact ⟨fun pins s σ H Q I hq => h.run pins s σ H Q I (by
    obtain ⟨B, φ, S, R, P, Xx, h1, h2, h3⟩ := hq
    exact Run.fin h2 (show P none S from h1) R rfl)⟩
theorem do_some (ha : PE X a (tE X.K WE fa)) : PO X (some a) (tO X.K WE (mPart fa)) := by
  have h := po_some ha
  exact ⟨fun pins s σ H Q I hq => h.run pins s σ H Q I (by
    obtain ⟨B, φ, S, R, run⟩ := hq
    refine ⟨B, φ, S, R, run.bind.imp ?_⟩
    rintro x H1 ⟨d, B1, φ1, S1, e1, R1, r1, P, Xx, h1, h2, h3⟩
    cases d with
    | int i =>
      simp only [Rep] at r1
      exact ⟨i, r1, Run.fin h2 h1 R1 rfl⟩
    | _ => exact False.elim h1)⟩
def cutD (l : List D) (lo hi : Option Int) : List D := (l.drop (HT.sIx l.length 0 lo)).take (HT.sIx l.length l.length hi - HT.sIx l.length 0 lo)
def dSl (h : Bool) (d : D) (lo hi : Option Int) : M D := fun S P X => match d with
  | .str z => z.length ≤ sizeLine ∧ P (.str (cutS z lo hi)) S
  | .tup l => ¬ (HT.sIx l.length 0 lo = 0 ∧ HT.sIx l.length l.length hi = l.length) ∧ P (.tup (cutD l lo hi)) S
  | d => match rdL S.W d with
    | some l => newL h (cutD l lo hi) S P X
    | none => False
theorem cut_rep {K : PySem.W.Frag} {B : Hp} {φ : List Addr} {l : List D} {xs : List V} {lo hi : Option Int} (r : Reps K B φ l xs) : Reps K B φ (cutD l lo hi) (cutV xs lo hi) := by
  unfold cutD cutV
  rw [r.length]
  exact (r.drop _).take _
def mSl (h : Bool) (fa : M D) (lo hi : M (Option Int)) : M D := M.bind fa fun d => M.bind lo fun l => M.bind hi fun u => dSl h d l u
def rSlAll (K : PySem.W.Frag) : V → Option Int → Option Int → Hp → VK → Prop := fun x lo hi H Q => rSlS x lo hi H Q ∨ rSlT K x lo hi H Q ∨ rSlL K x lo hi H Q
theorem sl_all : SlR X (rSlAll X.K) := SlR.or sl_str (SlR.or sl_tup sl_list)
theorem sl_ok {K : PySem.W.Frag} {h : Bool} {d : D} {x : V} {lo hi : Option Int} {B : Hp} {φ : List Addr} {S : AS} {σ : L2.St} {H : Hp} {Q : VK} (R : Rel K B φ S σ H) (r : Rep K B φ d x) (q : RRun K WE (dSl h d lo hi) B φ S σ H Q) : rSlAll K x lo hi H Q := by
  obtain ⟨P, Xx, h1, h2, h3⟩ := q
  have gen : (match rdL S.W d with
    | some l => newL h (cutD l lo hi) S P Xx
    | none => False) → rSlAll K x lo hi H Q := fun g => by
    split at g
    · rename_i l e
      obtain ⟨p, xs, rfl, hp, hr⟩ := rdL_ok R.w r e
      exact .inr (.inr ⟨p, xs, rfl, hp, fun z hz => newL_ok (WE := WE) R ⟨P, Xx, g, h2, h3⟩ (cut_rep hr) hz⟩)
    · exact g.elim
  cases d with
  | str z =>
    simp only [Rep] at r
    exact .inl ⟨z, r, h1.1, Run.fin h2 h1.2 R (by simp only [Rep])⟩
  | tup l =>
    simp only [Rep] at r
    obtain ⟨p, xs, rfl, hp, hr⟩ := r
    exact .inr (.inl ⟨p, xs, rfl, R.w.sqT hp, by rw [hr.length]; exact h1.1, fun z hz => newT_ok R h1.2 h2 (cut_rep hr) hz⟩)
  | _ => exact gen h1
theorem de_sl {hh : Bool} {lo hi : Option Expr} {fl fh : M (Option Int)} {p2 : Pos} (ha : PE X a (tE X.K WE fa)) (hl : PO X lo (tO X.K WE fl)) (hu : PO X hi (tO X.K WE fh)) : PE X (.Subscript a (.Slice lo hi none p2) pos) (tE X.K WE (mSl hh fa fl fh)) :=
  PE.weak (pe_slice sl_all ha hl hu) fun σ H Q h => by
    obtain ⟨B, φ, S, R, run⟩ := h
    refine ⟨B, φ, S, R, run.bind.imp ?_⟩
    rintro x H1 ⟨d, B1, φ1, S1, e1, R1, r1, run1⟩
    refine ⟨B1, φ1, S1, R1, run1.bind.imp ?_⟩
    rintro l H2 ⟨l', B2, φ2, S2, e2, R2, r2, run2⟩
    refine ⟨B2, φ2, S2, R2, run2.bind.imp ?_⟩
    rintro u H3 ⟨u', B3, φ3, S3, e3, R3, r3, run3⟩
    subst r2; subst r3
    exact sl_ok R3 ((r1.mono e2 _ _).mono e3 _ _) run3

/-! ### tests -/
variable {ta tb : M Bool} {rest : List Expr} {wh : Expr}
def mAnd (f g : M Bool) : M Bool := M.bind f fun t S P X => if t = true then g S P X else P false S
def mOr (f g : M Bool) : M Bool := M.bind f fun t S P X => if t = true then P true S else g S P X
def mNot (f : M Bool) : M Bool := M.bind f fun t => M.pure (!t)
theorem Run.bl {K : PySem.W.Frag} {B : Hp} {φ : List Addr} {S : AS} {σ : L2.St} {H : Hp} {Q : Bool → Hp → Prop} {b : Bool} (R : Rel K B φ S σ H) (q : Run K WE (fun _ _ a b => b = a) (M.pure b) B φ S σ H Q) : Q b H := by
  obtain ⟨P, Xx, h1, h2, h3⟩ := q
  exact Run.fin h2 (show P b S from h1) R rfl
theorem dw_and1 (h : PT X a (tT X.K WE ta)) : PW X (.BoolOp .And [a] pos) (tT X.K WE ta) := pw_and1 h
theorem dw_or1 (h : PT X a (tT X.K WE ta)) : PW X (.BoolOp .Or [a] pos) (tT X.K WE ta) := pw_or1 h
theorem dw_and (h : PT X a (tT X.K WE ta)) (g : PW X (.BoolOp .And (b :: rest) pos) (tT X.K WE tb)) : PW X (.BoolOp .And (a :: b :: rest) pos) (tT X.K WE (mAnd ta tb)) :=
  PW.weak (pw_and h g) fun σ H Q h => by
    obtain ⟨B, φ, S, R, run⟩ := h
    refine ⟨B, φ, S, R, run.bind.imp ?_⟩
    rintro t H1 ⟨t', B1, φ1, S1, e1, R1, rfl, run1⟩
    cases t with
    | true => exact ⟨B1, φ1, S1, R1, run1⟩
    | false => exact Run.bl R1 run1
theorem dw_or (h : PT X a (tT X.K WE ta)) (g : PW X (.BoolOp .Or (b :: rest) pos) (tT X.K WE tb)) : PW X (.BoolOp .Or (a :: b :: rest) pos) (tT X.K WE (mOr ta tb)) :=
  PW.weak (pw_or h g) fun σ H Q h => by
    obtain ⟨B, φ, S, R, run⟩ := h
    refine ⟨B, φ, S, R, run.bind.imp ?_⟩
    rintro t H1 ⟨t', B1, φ1, S1, e1, R1, rfl, run1⟩
    cases t with
    | true => exact Run.bl R1 run1
    | false => exact ⟨B1, φ1, S1, R1, run1⟩
theorem dt_not (h : PT X a (tT X.K WE ta)) : PT X (.UnaryOp .Not a pos) (tT X.K WE (mNot ta)) :=
  PT.weak (pt_not h) fun σ H Q h => by
    obtain ⟨B, φ, S, R, run⟩ := h
    refine ⟨B, φ, S, R, run.bind.imp ?_⟩
    rintro t H1 ⟨t', B1, φ1, S1, e1, R1, rfl, run1⟩
    exact Run.bl R1 run1
/-- .. as values -/
def mAndV (f g : M D) : M D := M.bind f fun d => match d with
  | .bl true => g
  | .bl false => M.pure (.bl false)
  | _ => fun _ _ _ => False
def mOrV (f g : M D) : M D := M.bind f fun d => match d with
  | .bl true => M.pure (.bl true)
  | .bl false => g
  | _ => fun _ _ _ => False
def mNotV (f : M D) : M D := M.bind f fun d => match d with
  | .bl b => M.pure (.bl (!b))
  | _ => fun _ _ _ => False
theorem de_one {op} (h : PE X a (tE X.K WE fa)) : PE X (.BoolOp op [a] pos) (tE X.K WE fa) := pe_one h
theorem de_and (h : PE X a (tE X.K WE fa)) (g : PE X (.BoolOp .And (b :: rest) pos) (tE X.K WE fb)) : PE X (.BoolOp .And (a :: b :: rest) pos) (tE X.K WE (mAndV fa fb)) :=
  PE.weak (pe_and h g) fun σ H Q h => by
    obtain ⟨B, φ, S, R, run⟩ := h
    refine ⟨B, φ, S, R, run.bind.imp ?_⟩
    rintro x H1 ⟨d, B1, φ1, S1, e1, R1, r1, run1⟩
    cases d with
    | bl t =>
      simp only [Rep] at r1
      cases t with
      | true => exact ⟨true, r1, B1, φ1, S1, R1, run1⟩
      | false => exact ⟨false, r1, Run.ret R1 run1 (fun _ _ h => h) (by simp only [Rep])⟩
    | _ => exact run1.elim fun _ h => h.elim fun _ h => h.1.elim
theorem de_or (h : PE X a (tE X.K WE fa)) (g : PE X (.BoolOp .Or (b :: rest) pos) (tE X.K WE fb)) : PE X (.BoolOp .Or (a :: b :: rest) pos) (tE X.K WE (mOrV fa fb)) :=
  PE.weak (pe_or h g) fun σ H Q h => by
    obtain ⟨B, φ, S, R, run⟩ := h
    refine ⟨B, φ, S, R, run.bind.imp ?_⟩
    rintro x H1 ⟨d, B1, φ1, S1, e1, R1, r1, run1⟩
    cases d with
    | bl t =>
      simp only [Rep] at r1
      cases t with
      | true => exact ⟨true, r1, Run.ret R1 run1 (fun _ _ h => h) (by simp only [Rep])⟩
      | false => exact ⟨false, r1, B1, φ1, S1, R1, run1⟩
    | _ => exact run1.elim fun _ h => h.elim fun _ h => h.1.elim
theorem de_not (h : PE X a (tE X.K WE fa)) : PE X (.UnaryOp .Not a pos) (tE X.K WE (mNotV fa)) :=
  PE.weak (pe_not h) fun σ H Q h => by
    obtain ⟨B, φ, S, R, run⟩ := h
    refine ⟨B, φ, S, R, run.bind.imp ?_⟩
    rintro x H1 ⟨d, B1, φ1, S1, e1, R1, r1, run1⟩
    cases d with
    | bl t =>
      simp only [Rep] at r1
      exact ⟨t, r1, Run.ret R1 run1 (fun _ _ h => h) (by simp only [Rep])⟩
    | _ => exact run1.elim fun _ h => h.elim fun _ h => h.1.elim
def mIf (t : M Bool) (f g : M D) : M D := M.bind t fun b S P X => if b = true then f S P X else g S P X
theorem de_if {c : Expr} (hc : PT X c (tT X.K WE ta)) (ha : PE X a (tE X.K WE fa)) (hb : PE X b (tE X.K WE fb)) : PE X (.IfExp c a b pos) (tE X.K WE (mIf ta fa fb)) :=
  PE.weak (pe_ifExp hc ha hb) fun σ H Q h => by
    obtain ⟨B, φ, S, R, run⟩ := h
    refine ⟨B, φ, S, R, run.bind.imp ?_⟩
    rintro t H1 ⟨t', B1, φ1, S1, e1, R1, rfl, run1⟩
    cases t with
    | true => exact ⟨B1, φ1, S1, R1, run1⟩
    | false => exact ⟨B1, φ1, S1, R1, run1⟩
/-- a op b op' c -/
def mChain (f g : Dop) (fa fb fc : M D) : M D := M.bind fa fun x => M.bind fb fun y => M.bind (f x y) fun t => match t with
  | .bl true => M.bind fc fun z => g y z
  | .bl false => M.pure (.bl false)
  | _ => fun _ _ _ => False
theorem tChain_of {K : PySem.W.Frag} {r r' : R2} {f g : Dop} (hr : OpA K WE r f) (hr' : OpA K WE r' g) (σ : L2.St) (H : Hp) (Q : VK) (h : tE K WE (mChain f g fa fb fc) σ H Q) : tChain r r' (tE K WE fa) (tE K WE fb) (tE K WE fc) σ H Q := by
  obtain ⟨B, φ, S, R, run⟩ := h
  refine ⟨B, φ, S, R, run.bind.imp ?_⟩
  rintro x H1 ⟨d, B1, φ1, S1, e1, R1, r1, run1⟩
  refine ⟨B1, φ1, S1, R1, run1.bind.imp ?_⟩
  rintro y H2 ⟨d2, B2, φ2, S2, e2, R2, r2, run2⟩
  refine hr B2 φ2 S2 σ H2 d d2 x y _ R2 (r1.mono e2 _ _) r2 (run2.bind.imp ?_)
  rintro z H3 ⟨d3, B3, φ3, S3, e3, R3, r3, run3⟩
  cases d3 with
  | bl t =>
    simp only [Rep] at r3
    refine ⟨t, r3, ?_⟩
    cases t with
    | true =>
      refine iteT ⟨B3, φ3, S3, R3, run3.bind.imp ?_⟩
      rintro w H4 ⟨d4, B4, φ4, S4, e4, R4, r4, run4⟩
      exact hr' B4 φ4 S4 σ H4 d2 d4 y w _ R4 ((r2.mono e3 _ _).mono e4 _ _) r4 run4
    | false => exact iteF (Run.ret R3 run3 (fun _ _ h => h) (by simp only [Rep]))
  | _ => exact run3.elim fun _ h => h.elim fun _ h => h.1.elim
theorem de_chain {op op' : CmpOp} {r r' : R2} {f g : Dop} (ho : OpR X (compareOp op) r) (hr : OpA X.K WE r f) (ho' : OpR X (compareOp op') r') (hr' : OpA X.K WE r' g) (ha : PE X a (tE X.K WE fa)) (hb : PE X b (tE X.K WE fb)) (hc : PE X c (tE X.K WE fc))
    (hm : lastMarks [op, op'] [b, c] = false := by with_unfolding_all rfl) : PE X (.Compare a [op, op'] [b, c] pos) (tE X.K WE (mChain f g fa fb fc)) := PE.weak (pe_chain ho ho' ha hb hc hm) fun σ H Q h => tChain_of hr hr' σ H Q h
theorem dt_chain {op op' : CmpOp} {r r' : R2} {f g : Dop} (ho : OpR X (compareOp op) r) (hr : OpA X.K WE r f) (ho' : OpR X (compareOp op') r') (hr' : OpA X.K WE r' g) (ha : PE X a (tE X.K WE fa)) (hb : PE X b (tE X.K WE fb)) (hc : PE X c (tE X.K WE fc))
    (hm : lastMarks [op, op'] [b, c] = false := by with_unfolding_all rfl) : PT X (.Compare a [op, op'] [b, c] pos) (tT X.K WE (mTest (mChain f g fa fb fc))) :=
  PT.weak (pt_chain ho ho' ha hb hc hm) fun σ H Q h => tChain_of hr hr' σ H _ (tB_of σ H Q h)
end

/-! ### built-in calls by values -/
section
variable {X : Cx} {WE : WX}
def CallA (K : PySem.W.Frag) (WE : WX) (r : List V → Hp → VK → Prop) (g : List D → M D) : Prop :=
  ∀ (B : Hp) (φ : List Addr) (S : AS) (σ : L2.St) (H : Hp) (ds : List D) (vs : List V) (Q : VK), Rel K B φ S σ H → Reps K B φ ds vs → RRun K WE (g ds) B φ S σ H Q → r vs H Q
theorem tCB_of {K : PySem.W.Frag} {r : List V → Hp → VK → Prop} {g : List D → M D} {ga : M (List D)} (hr : CallA K WE r g) (σ : L2.St) (H : Hp) (Q : VK) (h : tE K WE (M.bind ga g) σ H Q) : tCB r (tA K WE ga) σ H Q := by
  obtain ⟨B, φ, S, R, run⟩ := h
  refine ⟨B, φ, S, R, run.bind.imp ?_⟩
  rintro xs H1 ⟨l, B1, φ1, S1, e1, R1, r1, run1⟩
  exact hr B1 φ1 S1 σ H1 l xs Q R1 r1 run1
theorem de_callB {x : Str} {p pos : Pos} {e : Expr} {es : List Expr} {id : String} {r : List V → Hp → VK → Prop} {g : List D → M D} {ga : M (List D)} (hc : CallR X (.builtin id) r) (hr : CallA X.K WE r g) (hm : X.mg x = none) (hv : bootBuiltins x = some (.builtin id)) (ha : PA X (e :: es) (tA X.K WE ga)) (hg : Gl X x := by rfl) (hn : x ≠ "__name__" := by decide)
    (hdb : (x == ("__debug__" : Str)) = false := by decide) (he : starEach (e :: es) X.env = (false, eval e X.env) :: starEach es X.env := by rfl) (hpl : (backTo pos (starEach es X.env)).any (·.1) = false := by rfl) : PE X (.Call (.Name x p) (e :: es) [] pos) (tE X.K WE (M.bind ga g)) :=
  PE.weak (pe_callB hc hg hm hv ha hn hdb he hpl) fun σ H Q h => tCB_of hr σ H Q h
theorem de_callTy {x : Str} {p pos : Pos} {e : Expr} {es : List Expr} {T : String} {r : List V → Hp → VK → Prop} {g : List D → M D} {ga : M (List D)} (hc : CallR X (.type T) r) (hr : CallA X.K WE r g) (hm : X.mg x = none) (hv : bootBuiltins x = some (.type T)) (ha : PA X (e :: es) (tA X.K WE ga)) (hg : Gl X x := by rfl) (hn : x ≠ "__name__" := by decide)
    (hdb : (x == ("__debug__" : Str)) = false := by decide) (he : starEach (e :: es) X.env = (false, eval e X.env) :: starEach es X.env := by rfl) (hpl : (backTo pos (starEach es X.env)).any (·.1) = false := by rfl) : PE X (.Call (.Name x p) (e :: es) [] pos) (tE X.K WE (M.bind ga g)) :=
  PE.weak (pe_callTy hc hg hm hv ha hn hdb he hpl) fun σ H Q h => tCB_of hr σ H Q h
def bLen (ds : List D) : M D := fun S P _ => match ds with
  | [.str z] => z.length ≤ sizeLine ∧ P (.int z.length) S
  | [d] => (match rdS S.W d with
    | some l => P (.int l.length) S
    | none => False)
  | _ => False
theorem one_inv {K : PySem.W.Frag} {B : Hp} {φ : List Addr} {d : D} {vs : List V} (h : Reps K B φ [d] vs) : ∃ v, vs = [v] ∧ Rep K B φ d v := by
  obtain ⟨x, r, rfl, h1, t⟩ := h.cons_inv
  rw [t.nil_inv]
  exact ⟨x, rfl, h1⟩
theorem two_inv {K : PySem.W.Frag} {B : Hp} {φ : List Addr} {d e : D} {vs : List V} (h : Reps K B φ [d, e] vs) : ∃ v u, vs = [v, u] ∧ Rep K B φ d v ∧ Rep K B φ e u := by
  obtain ⟨x, r, rfl, h1, t⟩ := h.cons_inv
  obtain ⟨y, rfl, h2⟩ := one_inv t
  exact ⟨x, y, rfl, h1, h2⟩
theorem ca_len : CallA X.K WE (fun xs H Q => ∃ x n, xs = [x] ∧ LenV X.K x H n ∧ Q (.int n) H) bLen := by
  intro B φ S σ H ds vs Q R r q
  obtain ⟨P, Xx, h1, h2, h3⟩ := q
  match ds, r, h1 with
  | [d], r, h1 =>
    obtain ⟨v, rfl, r1⟩ := one_inv r
    have gen : (match rdS S.W d with
      | some l => P (.int l.length) S
      | none => False) → ∃ x n, [v] = [x] ∧ LenV X.K x H n ∧ Q (.int n) H := fun g => by
      split at g
      · rename_i l e
        obtain ⟨p, xs, rfl, hp, hr⟩ := rdS_ok R.w r1 e
        refine ⟨_, xs.length, rfl, ?_, Run.fin h2 g R (by simp only [Rep, hr.length])⟩
        rcases hp with hp | hp
        · exact .inl ⟨xs, hp, rfl⟩
        · exact .inr ⟨xs, hp, rfl⟩
      · exact g.elim
    cases d with
    | str z =>
      simp only [Rep] at r1
      subst r1
      exact ⟨_, z.length, rfl, ⟨h1.1, rfl⟩, Run.fin h2 h1.2 R (by simp only [Rep])⟩
    | _ => exact gen h1
  | [], _, h1 => exact False.elim h1
  | a :: b :: c, _, h1 => cases a <;> exact False.elim h1
def bMax (ds : List D) : M D := fun S P _ => match ds with
  | [.int i, .int j] => P (.int (if j > i then j else i)) S
  | _ => False
def bMin (ds : List D) : M D := fun S P _ => match ds with
  | [.int i, .int j] => P (.int (if j < i then j else i)) S
  | _ => False
theorem ca_max : CallA X.K WE (fun xs H Q => ∃ i j, xs = [.int i, .int j] ∧ Q (.int (if j > i then j else i)) H) bMax := by
  intro B φ S σ H ds vs Q R r q
  obtain ⟨P, Xx, h1, h2, h3⟩ := q
  unfold bMax at h1
  split at h1
  · rename_i i j
    obtain ⟨v, u, rfl, r1, r2⟩ := two_inv r
    simp only [Rep] at r1 r2
    subst r1; subst r2
    exact ⟨i, j, rfl, Run.fin h2 h1 R (by simp only [Rep])⟩
  · exact h1.elim
theorem ca_min : CallA X.K WE (fun xs H Q => ∃ i j, xs = [.int i, .int j] ∧ Q (.int (if j < i then j else i)) H) bMin := by
  intro B φ S σ H ds vs Q R r q
  obtain ⟨P, Xx, h1, h2, h3⟩ := q
  unfold bMin at h1
  split at h1
  · rename_i i j
    obtain ⟨v, u, rfl, r1, r2⟩ := two_inv r
    simp only [Rep] at r1 r2
    subst r1; subst r2
    exact ⟨i, j, rfl, Run.fin h2 h1 R (by simp only [Rep])⟩
  · exact h1.elim
/-- min of a list of ints -/
def bMinL (ds : List D) : M D := fun S P _ => match ds with
  | [d] => ∃ ns : List Int, rdL S.W d = some (ns.map D.int) ∧ 0 < ns.length ∧ ∀ m, m ∈ ns → (∀ y, y ∈ ns → m ≤ y) → P (.int m) S
  | _ => False
theorem reps_ints {K : PySem.W.Frag} {B : Hp} {φ : List Addr} : ∀ {ns : List Int} {xs : List V}, Reps K B φ (ns.map D.int) xs → xs = ns.map V.int
  | [], xs, h => by rw [h.nil_inv]; rfl
  | n :: ns, xs, h => by
    obtain ⟨x, r, rfl, h1, t⟩ := h.cons_inv
    simp only [Rep] at h1
    subst h1
    rw [reps_ints t]
    rfl
theorem ca_minL : CallA X.K WE (rMin X.K) bMinL := by
  intro B φ S σ H ds vs Q R r q
  obtain ⟨P, Xx, h1, h2, h3⟩ := q
  unfold bMinL at h1
  split at h1
  · rename_i d
    obtain ⟨v, rfl, r1⟩ := one_inv r
    obtain ⟨ns, e, hl, hm⟩ := h1
    obtain ⟨p, xs, rfl, hp, hr⟩ := rdL_ok R.w r1 e
    have := reps_ints hr
    subst this
    exact ⟨p, ns, rfl, hp, hl, fun m m1 m2 => Run.fin h2 (hm m m1 m2) R (by simp only [Rep])⟩
  · exact h1.elim
/-- isinstance -/
def tyN (W : Wd) : D → Option String
  | .non => some "NoneType"
  | .bl _ => some "bool"
  | .int _ => some "int"
  | .str _ => some "str"
  | .tup _ => some "tuple"
  | .lst _ => some "list"
  | .dct _ _ => some "dict"
  | .hnd n => match W[n]? with
    | some (.lst _) => some "list"
    | some (.dct _ _) => some "dict"
    | _ => none
  | _ => none
def isT (a b : String) : Bool := decide (a = b) || (decide (a = "bool") && decide (b = "int"))
theorem isT_ok : ∀ a ∈ ["NoneType", "bool", "int", "str", "tuple", "list", "dict"], ∀ b ∈ ["int", "str", "bool", "tuple", "list", "dict"], kitB a b = some (isT a b) := by decide +kernel
def bIsi (ds : List D) : M D := fun S P _ => match ds with
  | [d, .ty n] => n ∈ ["int", "str", "bool", "tuple", "list", "dict"] ∧ (match tyN S.W d with
    | some t => P (.bl (isT t n)) S
    | none => False)
  | _ => False
theorem tyN_ok {K : PySem.W.Frag} {B H : Hp} {φ : List Addr} {W : Wd} (R : RelW K B φ W H) {d : D} {v : V} {t : String} (h : Rep K B φ d v) (e : tyN W d = some t) : TyX K H v (.type t) ∧ t ∈ ["NoneType", "bool", "int", "str", "tuple", "list", "dict"] := by
  cases d with
  | non => simp only [tyN, Option.some.injEq] at e; subst e; simp only [Rep] at h; subst h; exact ⟨.base .non, by decide⟩
  | bl b => simp only [tyN, Option.some.injEq] at e; subst e; simp only [Rep] at h; subst h; exact ⟨.base (.bl _), by decide⟩
  | int b => simp only [tyN, Option.some.injEq] at e; subst e; simp only [Rep] at h; subst h; exact ⟨.base (.int _), by decide⟩
  | str b => simp only [tyN, Option.some.injEq] at e; subst e; simp only [Rep] at h; subst h; exact ⟨.base (.str _), by decide⟩
  | tup l =>
    simp only [tyN, Option.some.injEq] at e; subst e; simp only [Rep] at h
    obtain ⟨p, xs, rfl, hp, _⟩ := h
    rcases R.sqT hp with (q | ⟨o, q⟩) | ⟨o, its, n, k, c, _⟩
    · exact ⟨.base (.tup q), by decide⟩
    · exact ⟨.fTuple q, by decide⟩
    · exact ⟨.kTuple k c, by decide⟩
  | lst l =>
    simp only [tyN, Option.some.injEq] at e; subst e; simp only [Rep] at h
    obtain ⟨p, xs, rfl, hp, _⟩ := h
    exact ⟨.base (.lst (R.lst hp)), by decide⟩
  | dct ks l =>
    simp only [tyN, Option.some.injEq] at e; subst e; simp only [Rep] at h
    obtain ⟨p, xs, rfl, hp, _⟩ := h
    rcases R.sub.rd hp with q | ⟨o, q⟩
    · exact ⟨.base (.dK q), by decide⟩
    · exact ⟨.fDict q, by decide⟩
  | hnd n =>
    simp only [tyN] at e
    simp only [Rep] at h
    obtain ⟨a, ha, rfl⟩ := h
    split at e
    · rename_i l hl
      cases e
      obtain ⟨a', ha', xs, hx, hr⟩ := R.get hl
      rw [ha] at ha'; cases ha'
      exact ⟨.base (.lst hx), by decide⟩
    · rename_i ks l hl
      cases e
      obtain ⟨a', ha', xs, hx, hk, hr⟩ := R.get hl
      rw [ha] at ha'; cases ha'
      exact ⟨.base (.dK hx), by decide⟩
    · cases e
  | _ => simp [tyN] at e
theorem ca_isi : CallA X.K WE (rIsi X.K) bIsi := by
  intro B φ S σ H ds vs Q R r q
  obtain ⟨P, Xx, h1, h2, h3⟩ := q
  unfold bIsi at h1
  split at h1
  · rename_i d n
    obtain ⟨v, u, rfl, r1, r2⟩ := two_inv r
    simp only [Rep] at r2
    subst r2
    obtain ⟨hn, h1⟩ := h1
    split at h1
    · rename_i t e
      obtain ⟨ty, ht⟩ := tyN_ok R.w r1 e
      exact ⟨v, .ty n, .type t, .type n, isT t n, rfl, .ty n, ty, kit_ty (isT_ok t ht n hn), Run.fin h2 h1 R (by simp only [Rep])⟩
    · exact h1.elim
  · exact h1.elim
/-- list(x), of a list or tuple -/
def bList (h : Bool) (ds : List D) : M D := fun S P X => match ds with
  | [d] => (match rdS S.W d with
    | some l => newL h l S P X
    | none => False)
  | _ => False
theorem ca_list (hh : Bool) : CallA X.K WE (fun xs H Q => ∃ p ys, xs = [.ref p] ∧ (SqL X.K H p ys ∨ SqT X.K H p ys) ∧ ∀ l, H l = none → Q (.ref l) (upd H l (.lst ys))) (bList hh) := by
  intro B φ S σ H ds vs Q R r q
  obtain ⟨P, Xx, h1, h2, h3⟩ := q
  unfold bList at h1
  split at h1
  · rename_i d
    obtain ⟨v, rfl, r1⟩ := one_inv r
    split at h1
    · rename_i l e
      obtain ⟨p, xs, rfl, hp, hr⟩ := rdS_ok R.w r1 e
      exact ⟨p, xs, rfl, hp, fun z hz => newL_ok (WE := WE) R ⟨P, Xx, h1, h2, h3⟩ hr hz⟩
    · exact h1.elim
  · exact h1.elim
end
end Tw

set_option Elab.async false
set_option linter.all false
set_option maxRecDepth 100000
set_option maxHeartbeats 4000000
namespace Tw
open PySem PySem.Spec PyProof.Rows L2

/-! ### targets -/
abbrev MG := D → AS → (AS → Prop) → Prop
abbrev MGs := List D → AS → (AS → Prop) → Prop
def tG (K : PySem.W.Frag) (own : List Nat) (f : MG) : TG := fun v σ H Q => ∃ B φ S d P, Rel K B φ S σ H ∧ Rep K B φ d v ∧ f d S P ∧ ∀ S' σ' B' φ' H', P S' → Ext B φ B' φ' → Rel K B' φ' S' σ' H' → wipe σ' own = wipe σ own → Q σ' H'
def tGs (K : PySem.W.Frag) (own : List Nat) (f : MGs) : TGs := fun v σ H Q => ∃ B φ S d P, Rel K B φ S σ H ∧ Reps K B φ d v ∧ f d S P ∧ ∀ S' σ' B' φ' H', P S' → Ext B φ B' φ' → Rel K B' φ' S' σ' H' → wipe σ' own = wipe σ own → Q σ' H'
theorem wipe_get : ∀ (own : List Nat) (σ : L2.St) (j : Nat), (wipe σ own)[j]? = if j ∈ own ∧ j < σ.length then some none else σ[j]?
  | [], σ, j => by simp [wipe]
  | v :: vs, σ, j => by
    unfold wipe
    rw [List.getElem?_set, wipe_length, wipe_get vs σ j]
    by_cases h1 : v = j
    · subst h1
      by_cases h2 : v < σ.length
      · simp [h2]
      · simp [h2]
    · have h3 : ¬ j = v := fun z => h1 z.symm
      simp [h1, h3]
theorem wipe_set {own : List Nat} {i : Nat} (h : i ∈ own) (σ : L2.St) (v : Option V) : wipe (σ.set i v) own = wipe σ own := by
  apply List.ext_getElem?
  intro j
  rw [wipe_get, wipe_get, List.length_set]
  by_cases hj : j ∈ own
  · by_cases hl : j < σ.length
    · simp [hj, hl]
    · simp [hj, hl]
  · have : i ≠ j := fun z => hj (z ▸ h)
    simp [hj, List.getElem?_set_ne this]
section
variable {X : Cx} {WE : WX} {pos : Pos}
theorem PG.weak {e : Expr} {t t' : TG} (h : PG X e t) (w : ∀ v σ H Q, t' v σ H Q → t v σ H Q) : PG X e t' := ⟨fun pins s σ H v u Q I r q => h.run pins s σ H v u Q I r (w v σ H Q q)⟩
theorem PGs.weak {e : List Expr} {t t' : TGs} (h : PGs X e t) (w : ∀ v σ H Q, t' v σ H Q → t v σ H Q) : PGs X e t' := ⟨fun pins s σ H v u Q I r q => h.run pins s σ H v u Q I r (w v σ H Q q)⟩
def gN (i : Nat) : MG := fun d S P => P ⟨S.σ.set i (some d), S.W⟩
theorem dg_name (i : Nat) {own : List Nat} {x : Str} (hN : X.N.Nodup) (ho : i ∈ own := by decide) (hi : X.N[i]? = some x := by rfl) (hx : Loc X.env.scope x := by first | exact Or.inl rfl | exact Or.inr rfl) (hf : X.fn x = true ∨ X.env.scope.names.lookup x = some .local := by first | exact .inl rfl | exact .inr rfl | assumption) : PG X (.Name x pos) (tG X.K own (gN i)) :=
  PG.weak (pg_name hN hi hx hf) fun v σ H Q ⟨B, φ, S, d, P, R, r, h1, h2⟩ => h2 _ _ _ _ _ h1 (Ext.refl _ _) (R.set r) (wipe_set ho σ _)
def gNil : MGs := fun l S P => l = [] ∧ P S
def gCons (g : MG) (gs : MGs) : MGs := fun l S P => match l with
  | d :: r => g d S fun S1 => gs r S1 P
  | [] => False
theorem dgs_nil {own : List Nat} : PGs X [] (tGs X.K own gNil) := PGs.weak pgs_nil fun v σ H Q ⟨B, φ, S, d, P, R, r, ⟨h0, h1⟩, h2⟩ => by
  subst h0
  exact ⟨r.nil_inv, h2 _ _ _ _ _ h1 (Ext.refl _ _) R rfl⟩
theorem dgs_cons {own : List Nat} {e : Expr} {es : List Expr} {g : MG} {gs : MGs} (h1 : PG X e (tG X.K own g)) (h2 : PGs X es (tGs X.K own gs)) (hs : (assignEach (e :: es) X.env).map (·.2) = assign e X.env :: (assignEach es X.env).map (·.2) := by rfl) : PGs X (e :: es) (tGs X.K own (gCons g gs)) :=
  PGs.weak (pgs_cons h1 h2 hs) fun v σ H Q ⟨B, φ, S, l, P, R, r, q1, q2⟩ => by
    cases l with
    | nil => exact q1.elim
    | cons d l =>
      obtain ⟨x, xs, rfl, r1, r2⟩ := r.cons_inv
      refine ⟨x, xs, rfl, B, φ, S, d, _, R, r1, q1, fun S' σ' B' φ' H' p e R' w' => ?_⟩
      exact ⟨B', φ', S', l, P, R', r2.mono e _ _, p, fun S2 σ2 B2 φ2 H2 p2 e2 R2 w2 => q2 S2 σ2 B2 φ2 H2 p2 (e.trans e2) R2 (w2.trans w')⟩
def gTup (n : Nat) (gs : MGs) : MG := fun d S P => match d with
  | .tup l => l.length = n ∧ gs l S P
  | _ => False
theorem dg_tup {own : List Nat} {es : List Expr} {k : Nat} {gs : MGs} {n : Nat} (hc : X.calm = true) (h : PGs X es (tGs X.K own gs)) (hn : (assignEach es X.env).length = n := by rfl) (hst : (assignEach es X.env).findIdx? (·.1) = none := by rfl) : PG X (.Tuple es k pos) (tG X.K own (gTup n gs)) :=
  PG.weak (pg_tup hc h hn hst) fun v σ H Q ⟨B, φ, S, d, P, R, r, h1, h2⟩ => by
    cases d with
    | tup l =>
      simp only [Rep] at r
      obtain ⟨p, xs, rfl, hp, hr⟩ := r
      exact ⟨p, xs, rfl, R.w.sqT hp, by rw [hr.length]; exact h1.1, B, φ, S, l, P, R, hr, h1.2, h2⟩
    | _ => exact h1.elim
/-- o[i] = v -/
def repD : List Key → List D → Key → D → List D
  | k0 :: ks, d0 :: l, k, d => (if k0 = k then d else d0) :: repD ks l k d
  | _, l, _, _ => l
def putD (ks : List Key) (l : List D) (k : Key) (d : D) : List Key × List D := if (ks.any fun k0 => decide (k0 = k)) = true then (ks, repD ks l k d) else (ks ++ [k], l ++ [d])
def ixSet (l : List D) (i d : D) (k : List D → Prop) : Prop := match i with
  | .int j => (match ixN l.length j with
    | some m => k (l.set m d)
    | none => False)
  | _ => False
def dSet (o i d : D) : AS → (AS → Prop) → Prop := fun S P => match o with
  | .hnd n => (match S.W[n]? with
    | some (.lst l) => ixSet l i d fun l' => P ⟨S.σ, S.W.set n (.lst l')⟩
    | some (.dct ks l) => (match toKey i with
      | some k => ks.length < sizeLine ∧ P ⟨S.σ, S.W.set n (.dct (putD ks l k d).1 (putD ks l k d).2)⟩
      | none => False)
    | _ => False)
  | _ => False
def rSetAll : TSet := fun o i v H Q => rSetL o i v H Q ∨ ∃ a H', o = .ref a ∧ DPut H a i v H' ∧ Q H'
theorem set_all (hu : X.A.units + 64 < cLine) : PSet X rSetAll := by
  intro pins s σ H o i v ov iv u Q I ro ri rv h
  rcases h with h | ⟨a, H', rfl, g, q⟩
  · exact set_list pins s σ H o i v ov iv u Q I ro ri rv h
  · obtain rfl : ov = Value.ref a := ro
    exact d_setItem (by omega) I g ri rv fun s' I' => ⟨H', I', q⟩
theorem rep_rep {K : PySem.W.Frag} {B : Hp} {φ : List Addr} {k : Key} {d : D} {v : V} (rd : Rep K B φ d v) : ∀ {kvs : List (Key × V)} {l : List D}, Reps K B φ l (kvs.map (·.2)) →
    Reps K B φ (repD (kvs.map (·.1)) l k d) ((kvs.map (fun kv => if kv.1 = k then (kv.1, v) else kv)).map (·.2))
  | [], l, r => by simpa [repD] using r
  | (k0, v0) :: kvs, [], r => by simp [Reps] at r
  | (k0, v0) :: kvs, d0 :: l, r => by
    obtain ⟨x, xs, e, r1, r2⟩ := r.cons_inv
    simp only [List.map_cons, List.cons.injEq] at e
    obtain ⟨rfl, rfl⟩ := e
    have i2 := rep_rep (k := k) rd r2
    simp only [List.map_cons, repD]
    by_cases hk : k0 = k
    · simp only [hk, if_pos]
      exact Reps.cons rd i2
    · simp only [hk, if_false]
      exact Reps.cons r1 i2
theorem put_rep {K : PySem.W.Frag} {B : Hp} {φ : List Addr} {k : Key} {d : D} {v : V} (rd : Rep K B φ d v) {kvs : List (Key × V)} {l : List D} (r : Reps K B φ l (kvs.map (·.2))) :
    (putK kvs k v).map (·.1) = (putD (kvs.map (·.1)) l k d).1 ∧ Reps K B φ (putD (kvs.map (·.1)) l k d).2 ((putK kvs k v).map (·.2)) := by
  unfold putK putD
  have ea : ((kvs.map (·.1)).any fun k0 => decide (k0 = k)) = kvs.any fun kv => decide (kv.1 = k) := by rw [List.any_map]; rfl
  rw [ea]
  by_cases h' : (kvs.any fun kv => decide (kv.1 = k)) = true
  · rw [if_pos h', if_pos h']
    refine ⟨?_, rep_rep rd r⟩
    rw [List.map_map]
    refine List.map_congr_left fun p _ => ?_
    simp only [Function.comp]
    split <;> rfl
  · rw [if_neg h', if_neg h']
    rw [List.map_append, List.map_append]
    exact ⟨rfl, r.append (Reps.cons rd Reps.nil)⟩
def gSub (fo fi : M D) : MG := fun d S P => fo S (fun o S1 => fi S1 (fun i S2 => dSet o i d S2 P) fun _ _ => False) fun _ _ => False
theorem ixSet_inv {l : List D} {i d : D} {k : List D → Prop} (h : ixSet l i d k) : ∃ j m, i = .int j ∧ ixN l.length j = some m ∧ k (l.set m d) := by
  unfold ixSet at h
  split at h
  · split at h
    · rename_i j _ m e
      exact ⟨j, m, rfl, e, h⟩
    · exact h.elim
  · exact h.elim
theorem dSet_ok {K : PySem.W.Frag} {o i d : D} {x y v : V} {B : Hp} {φ : List Addr} {S : AS} {σ : L2.St} {H : Hp} {Q : Hp → Prop} {P : AS → Prop} (R : Rel K B φ S σ H) (ro : Rep K B φ o x) (ri : Rep K B φ i y) (rv : Rep K B φ d v) (h : dSet o i d S P)
    (hq : ∀ S' H', P S' → Rel K B φ S' σ H' → Q H') : rSetAll x y v H Q := by
  cases o with
  | hnd n =>
    simp only [Rep] at ro
    obtain ⟨a, ha, rfl⟩ := ro
    have h' : match S.W[n]? with
      | some (.lst l) => ixSet l i d fun l' => P ⟨S.σ, S.W.set n (.lst l')⟩
      | some (.dct ks l) => (match toKey i with
        | some k => ks.length < sizeLine ∧ P ⟨S.σ, S.W.set n (.dct (putD ks l k d).1 (putD ks l k d).2)⟩
        | none => False)
      | _ => False := h
    split at h'
    · rename_i l hl
      obtain ⟨a', ha', xs, hx, hr⟩ := R.w.get hl
      rw [ha] at ha'; cases ha'
      obtain ⟨j, m, rfl, em, hp⟩ := ixSet_inv h'
      simp only [Rep] at ri
      refine .inl ⟨a, xs, j, m, rfl, ri, hx, by rw [hr.length]; exact em, hq _ _ hp ?_⟩
      exact R.ext (Ext.refl _ _) (R.w.put ha ⟨_, upd_same, hr.set rv⟩)
    · rename_i ks l hl
      obtain ⟨a', ha', kvs, hx, hk, hr⟩ := R.w.get hl
      rw [ha] at ha'; cases ha'
      subst hk
      split at h'
      · rename_i k ek
        obtain ⟨hz, hp⟩ := h'
        obtain rfl := toKey_ok ri ek
        obtain ⟨p1, p2⟩ := put_rep (k := k) rv hr
        refine .inr ⟨a, upd H a (.dK (putK kvs k v)), rfl, .inl ⟨kvs, k, hx, rfl, by simpa using hz, rfl⟩, hq _ _ hp ?_⟩
        exact R.ext (Ext.refl _ _) (R.w.put ha ⟨_, upd_same, p1, p2⟩)
      · exact h'.elim
    · exact h'.elim
  | _ => exact False.elim h
theorem dg_sub {own : List Nat} {o i : Expr} {fo fi : M D} (hu : X.A.units + 64 < cLine) (ho : PE X o (tE X.K (fun _ _ _ _ => False) fo)) (hi : PE X i (tE X.K (fun _ _ _ _ => False) fi))
    (ha : ∀ v, assign (.Subscript o i pos) X.env v = (do
      let ov ← holding [v] (eval o X.env)
      let iv ← holding [v, ov] (eval i X.env)
      standAt pos
      holding [v, ov, iv] (setItem ov iv v)
      release [v, ov, iv] []) := by intro _; rfl) : PG X (.Subscript o i pos) (tG X.K own (gSub fo fi)) :=
  PG.weak (pg_sub ho hi (set_all hu) ha) fun v σ H Q ⟨B, φ, S, d, P, R, r, h1, h2⟩ => by
    refine ⟨B, φ, S, R, _, _, h1, ?_, fun _ _ _ _ _ _ _ z => z.elim⟩
    intro o' S1 x B1 φ1 H1 q1 e1 R1 r1
    refine ⟨B1, φ1, S1, R1, _, _, q1, ?_, fun _ _ _ _ _ _ _ z => z.elim⟩
    intro i' S2 y B2 φ2 H2 q2 e2 R2 r2
    exact dSet_ok R2 (r1.mono e2 _ _) r2 ((r.mono e1 _ _).mono e2 _ _) q2 fun S' H' p R' => h2 S' σ B2 φ2 H' p (e1.trans e2) R' rfl

/-! ### statements -/
def sSeq (f g : MS) : MS := fun S E => f S { E with nx := fun S1 => g S1 E }
def sNext : MS := fun S E => E.nx S
def sSet (i : Nat) (f : M D) : MS := fun S E => f S (fun d S1 => E.nx ⟨S1.σ.set i (some d), S1.W⟩) E.ex
def sAsg (g : MG) (f : M D) : MS := fun S E => f S (fun d S1 => g d S1 E.nx) E.ex
def sRet (f : M D) : MS := fun S E => f S E.rt E.ex
def sExpr (f : M D) : MS := fun S E => f S (fun _ S1 => E.nx S1) E.ex
def sIf (c : M Bool) (f g : MS) : MS := fun S E => c S (fun t S1 => if t = true then f S1 E else g S1 E) E.ex
def sBreak : MS := fun S E => E.bk S
def sCont : MS := fun S E => E.ct S
variable {st : Stmt} {rest : List Stmt} {f g : MS} {e : Expr} {fe : M D}
theorem ds_nil : PSs X [] (tS X.K WE sNext) := PSs.weak pss_nil fun D σ H ⟨B, φ, S, R, E, h, hn, _⟩ => hn _ _ _ _ _ h (Ext.refl _ _) R
theorem ds_cons (h1 : PS X st (tS X.K WE f)) (h2 : PSs X rest (tS X.K WE g)) : PSs X (st :: rest) (tS X.K WE (sSeq f g)) :=
  PSs.weak (pss_cons h1 h2) fun D σ H ⟨B, φ, S, R, E, h, hn, hr, hb, hc, hx⟩ => by
    refine ⟨B, φ, S, R, _, h, ?_, hr, hb, hc, hx⟩
    intro S' σ' B' φ' H' q e R'
    exact ⟨B', φ', S', R', E, q, fun S2 σ2 B2 φ2 H2 a b c => hn S2 σ2 B2 φ2 H2 a (e.trans b) c, fun d S2 σ2 v B2 φ2 H2 a b c r => hr d S2 σ2 v B2 φ2 H2 a (e.trans b) c r, fun S2 σ2 B2 φ2 H2 a b c => hb S2 σ2 B2 φ2 H2 a (e.trans b) c,
      fun S2 σ2 B2 φ2 H2 a b c => hc S2 σ2 B2 φ2 H2 a (e.trans b) c, fun x S2 σ2 cls d B2 φ2 H2 a b c r => hx x S2 σ2 cls d B2 φ2 H2 a (e.trans b) c r⟩
theorem ds_one (h1 : PS X st (tS X.K WE f)) : PSs X [st] (tS X.K WE f) := pss_one h1
theorem d_pass : PS X (.Pass pos) (tS X.K WE sNext) := PS.weak ps_pass fun D σ H ⟨B, φ, S, R, E, h, hn, _⟩ => hn _ _ _ _ _ h (Ext.refl _ _) R
theorem d_break : PS X (.Break pos) (tS X.K WE sBreak) := PS.weak ps_break fun D σ H ⟨B, φ, S, R, E, h, hn, hr, hb, _⟩ => hb _ _ _ _ _ h (Ext.refl _ _) R
theorem d_cont : PS X (.Continue pos) (tS X.K WE sCont) := PS.weak ps_continue fun D σ H ⟨B, φ, S, R, E, h, hn, hr, hb, hc, _⟩ => hc _ _ _ _ _ h (Ext.refl _ _) R
theorem d_set (i : Nat) {x : Str} {pos' : Pos} (hN : X.N.Nodup) (he : PE X e (tE X.K WE fe)) (hi : X.N[i]? = some x := by rfl) (hx : Loc X.env.scope x := by first | exact Or.inl rfl | exact Or.inr rfl) (hs : swapsWith e (some (.Name x pos')) pos.line X.env = pure false := by rfl)
    (hf : X.fn x = true ∨ X.env.scope.names.lookup x = some .local := by first | exact .inl rfl | exact .inr rfl | assumption) : PS X (.Assign [.Name x pos'] e pos) (tS X.K WE (sSet i fe)) :=
  PS.weak (ps_set hN hi hx he hs hf) fun D σ H ⟨B, φ, S, R, run⟩ => by
    refine ⟨B, φ, S, R, (RunS.expr (g := fun d S1 E => E.nx ⟨S1.σ.set i (some d), S1.W⟩) run).imp ?_⟩
    rintro v H1 ⟨d, B1, φ1, S1, e1, R1, r1, E, h, hn, _⟩
    exact hn _ _ _ _ _ h (Ext.refl _ _) (R1.set r1)
theorem d_asg {own : List Nat} {tg : Expr} {g : MG} (he : PE X e (tE X.K WE fe)) (hg : PG X tg (tG X.K own g)) (hs : swapsWithSole [tg] e pos.line X.env = pure false := by rfl) (hw : swappedStores [tg] e X.env = pure none := by rfl)
    (h1 : (assignEach [tg] X.env).map (·.2) = [assign tg X.env] := by rfl) : PS X (.Assign [tg] e pos) (tS X.K WE (sAsg g fe)) :=
  PS.weak (ps_asg he hg hs hw h1) fun D σ H ⟨B, φ, S, R, run⟩ => by
    refine ⟨B, φ, S, R, (RunS.expr (g := fun d S1 E => g d S1 E.nx) run).imp ?_⟩
    rintro v H1 ⟨d, B1, φ1, S1, e1, R1, r1, E, h, hn, _⟩
    exact ⟨B1, φ1, S1, d, _, R1, r1, h, fun S' σ' B' φ' H' a b c _ => hn S' σ' B' φ' H' a b c⟩
theorem d_expr (he : PE X e (tE X.K WE fe)) (hs : swapsWith e none pos.line X.env = pure false := by rfl) : PS X (.Expr e pos) (tS X.K WE (sExpr fe)) :=
  PS.weak (ps_expr he hs) fun D σ H ⟨B, φ, S, R, run⟩ => by
    refine ⟨B, φ, S, R, (RunS.expr (g := fun d S1 E => E.nx S1) run).imp ?_⟩
    rintro v H1 ⟨d, B1, φ1, S1, e1, R1, r1, E, h, hn, _⟩
    exact hn _ _ _ _ _ h (Ext.refl _ _) R1
theorem d_ret (he : PE X e (tE X.K WE fe)) : PS X (.Return (some e) pos) (tS X.K WE (sRet fe)) :=
  PS.weak (ps_ret he) fun D σ H ⟨B, φ, S, R, run⟩ => by
    refine ⟨B, φ, S, R, (RunS.expr (g := fun d S1 E => E.rt d S1) run).imp ?_⟩
    rintro v H1 ⟨d, B1, φ1, S1, e1, R1, r1, E, h, hn, hr, _⟩
    exact hr _ _ _ _ _ _ _ h (Ext.refl _ _) R1 r1
theorem d_retN : PS X (.Return none pos) (tS X.K WE (sRet (mC .non))) := PS.weak ps_retN fun D σ H ⟨B, φ, S, R, E, h, hn, hr, _⟩ => hr _ _ _ _ _ _ _ h (Ext.refl _ _) R (by simp only [Rep])
theorem d_if {c : Expr} {fc : M Bool} {a b : List Stmt} (hc : PT X c (tT X.K WE fc)) (ha : PSs X a (tS X.K WE f)) (hb : PSs X b (tS X.K WE g)) : PS X (.If c a b pos) (tS X.K WE (sIf fc f g)) :=
  PS.weak (ps_if hc ha hb) fun D σ H ⟨B, φ, S, R, run⟩ => by
    refine ⟨B, φ, S, R, (RunS.expr (g := fun t S1 E => if t = true then f S1 E else g S1 E) run).imp ?_⟩
    rintro t H1 ⟨t', B1, φ1, S1, e1, R1, rfl, run1⟩
    cases t with
    | true => exact iteT ⟨B1, φ1, S1, R1, run1⟩
    | false => exact iteF ⟨B1, φ1, S1, R1, run1⟩
/-- name op= e, ints -/
def sAug (i : Nat) (op : Int → Int → Int) (f : M D) : MS := fun S E => match S.σ[i]? with
  | some (some (.int x)) => f S (fun d S1 => match d with
    | .int y => E.nx ⟨S1.σ.set i (some (.int (op x y))), S1.W⟩
    | _ => False) E.ex
  | _ => False
theorem d_aug (i : Nat) {x : Str} {pos' : Pos} {op : Operator} {h : Int → Int → Int} (hN : X.N.Nodup) (hop : PIp X op (ipI h)) (he : PE X e (tE X.K WE fe)) (hi : X.N[i]? = some x := by rfl) (hx : Loc X.env.scope x := by first | exact Or.inl rfl | exact Or.inr rfl)
    (hf : X.fn x = true ∨ X.env.scope.names.lookup x = some .local := by first | exact .inl rfl | exact .inr rfl | assumption) : PS X (.AugAssign (.Name x pos') op e pos) (tS X.K WE (sAug i h fe)) :=
  PS.weak (ps_aug hN hi hx he hop hf) fun D σ H ⟨B, φ, S, R, E, q, hn, hr, hb, hc, hxx⟩ => by
    unfold sAug at q
    split at q
    · rename_i x0 e0
      obtain ⟨v, hv, rv⟩ := R.slot i _ e0
      simp only [Rep] at rv
      subst rv
      refine ⟨_, hv, ?_⟩
      have run : RunS X.K WE (fun S E => fe S (fun d S1 => (match d with
        | .int y => E.nx ⟨S1.σ.set i (some (.int (h x0 y))), S1.W⟩
        | _ => False)) E.ex) B φ S σ H { nx := D.nx, rt := D.rt, bk := D.bk, ct := D.ct } := ⟨E, q, hn, hr, hb, hc, hxx⟩
      refine ⟨B, φ, S, R, (RunS.expr (g := fun d S1 E => (match d with
        | .int y => E.nx ⟨S1.σ.set i (some (.int (h x0 y))), S1.W⟩
        | _ => False)) run).imp ?_⟩
      rintro w H1 ⟨d, B1, φ1, S1, e1, R1, r1, E1, h1, hn1, _⟩
      cases d with
      | int y =>
        simp only [Rep] at r1
        exact ⟨x0, y, rfl, r1, hn1 _ _ _ _ _ h1 (Ext.refl _ _) (R1.set (by simp only [Rep]))⟩
      | _ => exact h1.elim
    · exact q.elim

/-! ### loops -/
/-- an iterator gives these items while the world is as it should be -/
structure ItOk (K : PySem.W.Frag) (B : Hp) (φ : List Addr) (l : List D) (chk : Wd → Prop) (J : It) : Prop where
  go : ∀ (i : Nat) B1 φ1 W H, Ext B φ B1 φ1 → RelW K B1 φ1 W H → chk W → i < l.length → J.go i H
  yld : ∀ (i : Nat) B1 φ1 W H x H', Ext B φ B1 φ1 → RelW K B1 φ1 W H → chk W → J.yld i H x H' → ∀ d, l[i]? = some d → ∃ B2, Ext B1 φ1 B2 φ1 ∧ RelW K B2 φ1 W H' ∧ Rep K B2 φ1 d x
  stop : ∀ (i : Nat) B1 φ1 W H, Ext B φ B1 φ1 → RelW K B1 φ1 W H → chk W → i = l.length → J.stop i H
abbrev Items := List D × (Wd → Prop)
abbrev tIt (K : PySem.W.Frag) (WE : WX) (f : M Items) : TI := tOfG K WE (fun B φ a J => ItOk K B φ a.1 a.2 J) f
def loop (chk : Wd → Prop) (step : D → MS) : List D → MS
  | [], S, E => E.nx S
  | x :: xs, S, E => step x S { E with nx := fun S1 => chk S1.W ∧ loop chk step xs S1 E, ct := fun S1 => chk S1.W ∧ loop chk step xs S1 E, bk := E.nx }
def sFor (it : M Items) (g : MG) (body : MS) : MS := fun S E => it S (fun a S1 => a.2 S1.W ∧ loop a.2 (fun x S2 E2 => g x S2 fun S3 => body S3 E2) a.1 S1 E) E.ex
theorem d_for {own : List Nat} {tg iter : Expr} {body : List Stmt} {it : M Items} {g : MG} {f : MS} (hp : PassesOwn (model X.prog X.w) X.A X.env X.xe) (hc : X.calm = true) (hi : PI X tg iter (tIt X.K WE it)) (hg : PG X tg (tG X.K own g)) (hb : PSs X body (tS X.K WE f))
    (hs : ∀ x, foldedSetIterable iter X.env x = pure x := by intro _; rfl) : PS X (.For tg iter body [] pos) (tS X.K WE (sFor it g f)) :=
  PS.weak (ps_for hp hc hi hg hb hs) fun D σ H ⟨B, φ, S, R, run⟩ => by
    refine ⟨B, φ, S, R, (RunS.expr (g := fun (a : Items) S1 E => a.2 S1.W ∧ loop a.2 (fun x S2 E2 => g x S2 fun S3 => f S3 E2) a.1 S1 E) run).imp ?_⟩
    rintro J H1 ⟨⟨l, chk⟩, B1, φ1, S1, e1, R1, ok, E, ⟨c0, h⟩, hn, hr, hbk, hct, hx⟩
    refine ⟨fun i m σ H => m = l.length - i ∧ i ≤ l.length ∧ ∃ B2 φ2 S2, Ext B1 φ1 B2 φ2 ∧ Rel X.K B2 φ2 S2 σ H ∧ chk S2.W ∧ loop chk (fun x S2 E2 => g x S2 fun S3 => f S3 E2) (l.drop i) S2 E, ⟨l.length, by simp, Nat.zero_le _, B1, φ1, S1, Ext.refl _ _, R1, c0, h⟩, ?_⟩
    rintro i m σ' H' ⟨rfl, hi, B2, φ2, S2, e2, R2, c2, h2⟩
    by_cases hlt : i < l.length
    · refine .inr ⟨ok.go i B2 φ2 S2.W H' e2 R2.w c2 hlt, fun σ H => ∃ B2 φ2 S2, Ext B1 φ1 B2 φ2 ∧ Rel X.K B2 φ2 S2 σ H ∧ chk S2.W ∧ loop chk (fun x S2 E2 => g x S2 fun S3 => f S3 E2) (l.drop (i + 1)) S2 E, fun σ3 H3 q => ⟨l.length - (i + 1), by omega, rfl, hlt, q⟩, ?_⟩
      intro x H3 y
      obtain ⟨B3, e3, w3, r3⟩ := ok.yld i B2 φ2 S2.W H' x H3 e2 R2.w c2 y l[i] (List.getElem?_eq_getElem hlt)
      rw [List.drop_eq_getElem_cons hlt] at h2
      have R3 : Rel X.K B3 φ2 S2 σ' H3 := R2.ext e3 w3
      refine ⟨B3, φ2, S2, l[i], _, R3, r3, h2, ?_⟩
      intro S4 σ4 B4 φ4 H4 q4 e4 R4 _
      have eAll : Ext B1 φ1 B4 φ4 := (e2.trans e3).trans e4
      refine ⟨B4, φ4, S4, R4, _, q4, ?_, ?_, ?_, ?_, ?_⟩
      · intro S5 σ5 B5 φ5 H5 ⟨c5, q5⟩ e5 R5
        exact ⟨B5, φ5, S5, eAll.trans e5, R5, c5, q5⟩
      · intro d S5 σ5 v B5 φ5 H5 q5 e5 R5 r5
        exact hr d S5 σ5 v B5 φ5 H5 q5 (eAll.trans e5) R5 r5
      · intro S5 σ5 B5 φ5 H5 q5 e5 R5
        exact hn S5 σ5 B5 φ5 H5 q5 (eAll.trans e5) R5
      · intro S5 σ5 B5 φ5 H5 ⟨c5, q5⟩ e5 R5
        exact ⟨B5, φ5, S5, eAll.trans e5, R5, c5, q5⟩
      · intro x S5 σ5 cls d B5 φ5 H5 q5 e5 R5 r5
        exact hx x S5 σ5 cls d B5 φ5 H5 q5 (eAll.trans e5) R5 r5
    · have e : i = l.length := by omega
      subst e
      rw [List.drop_length] at h2
      exact .inl ⟨ok.stop _ B2 φ2 S2.W H' e2 R2.w c2 rfl, hn S2 σ' B2 φ2 H' h2 e2 R2⟩
/-- while -/
def whileN (c : M Bool) (b : MS) : Nat → MS
  | 0, _, _ => False
  | n + 1, S, E => c S (fun t S1 => if t = true then b S1 { E with nx := fun S2 => whileN c b n S2 E, ct := fun S2 => whileN c b n S2 E, bk := E.nx } else E.nx S1) E.ex
def sWhile (c : M Bool) (b : MS) : MS := fun S E => ∃ n, whileN c b n S E
theorem d_while {c : Expr} {body : List Stmt} {fc : M Bool} {f : MS} (hp : PassesOwn (model X.prog X.w) X.A X.env X.xe) (hc : PT X c (tT X.K WE fc)) (hb : PSs X body (tS X.K WE f)) : PS X (.While c body [] pos) (tS X.K WE (sWhile fc f)) :=
  PS.weak (ps_while hp hc hb) fun D σ H ⟨B, φ, S, R, E, ⟨n, h⟩, hn, hr, hbk, hct, hx⟩ => by
    refine ⟨fun m σ H => ∃ B2 φ2 S2, Ext B φ B2 φ2 ∧ Rel X.K B2 φ2 S2 σ H ∧ whileN fc f m S2 E, ⟨n, B, φ, S, Ext.refl _ _, R, h⟩, ?_⟩
    rintro m σ' H' ⟨B2, φ2, S2, e2, R2, h2⟩
    cases m with
    | zero => exact h2.elim
    | succ m =>
      refine ⟨B2, φ2, S2, R2, _, _, h2, ?_, ?_⟩
      · rintro t S3 t' B3 φ3 H3 q3 e3 R3 rfl
        cases t' with
        | true =>
          have q3' : f S3 { E with nx := fun S2 => whileN fc f m S2 E, ct := fun S2 => whileN fc f m S2 E, bk := E.nx } := q3
          have eA := e2.trans e3
          refine iteT ⟨fun σ H => ∃ B2 φ2 S2, Ext B φ B2 φ2 ∧ Rel X.K B2 φ2 S2 σ H ∧ whileN fc f m S2 E, fun σ4 H4 q => ⟨m, Nat.lt_succ_self _, q⟩, B3, φ3, S3, R3, _, q3', ?_, ?_, ?_, ?_, ?_⟩
          · intro S5 σ5 B5 φ5 H5 q5 e5 R5
            exact ⟨B5, φ5, S5, eA.trans e5, R5, q5⟩
          · intro d S5 σ5 v B5 φ5 H5 q5 e5 R5 r5
            exact hr d S5 σ5 v B5 φ5 H5 q5 (eA.trans e5) R5 r5
          · intro S5 σ5 B5 φ5 H5 q5 e5 R5
            exact hn S5 σ5 B5 φ5 H5 q5 (eA.trans e5) R5
          · intro S5 σ5 B5 φ5 H5 q5 e5 R5
            exact ⟨B5, φ5, S5, eA.trans e5, R5, q5⟩
          · intro x S5 σ5 cls d B5 φ5 H5 q5 e5 R5 r5
            exact hx x S5 σ5 cls d B5 φ5 H5 q5 (eA.trans e5) R5 r5
        | false => exact iteF (hn S3 σ' B3 φ3 H3 q3 (e2.trans e3) R3)
      · intro x S5 cls d B5 φ5 H5 q5 e5 R5 r5
        exact hx x S5 σ' cls d B5 φ5 H5 q5 (e2.trans e5) R5 r5
end
end Tw

set_option Elab.async false
set_option linter.all false
set_option maxRecDepth 100000
set_option maxHeartbeats 4000000
namespace Tw
open PySem PySem.Spec PyProof.Rows L2

/-! ### what is walked -/
section
variable {X : Cx} {WE : WX} {pos : Pos} {tg e : Expr} {fe : M D}
theorem PI.weak {t t' : TI} (h : PI X tg e t) (w : ∀ σ H Q, t' σ H Q → t σ H Q) : PI X tg e t' := ⟨fun pins s σ H Q I q => h.run pins s σ H Q I (w σ H Q q)⟩
def iAny (K : PySem.W.Frag) (te : TE) : TI := fun σ H R => te σ H fun x H1 => (∃ a, x = .ref a ∧ (∃ xs, SqL K H1 a xs) ∧ R (Itl K a) H1) ∨ (∃ a, x = .ref a ∧ (∃ xs, SqT K H1 a xs) ∧ R (Itt K a) H1) ∨ ∃ z, x = .str z ∧ R (Its z) H1
theorem pi_any {te : TE} (he : PE X e te) : PI X tg e (iAny X.K te) := by
  refine ⟨fun pins s σ H R I h => ?_⟩
  refine thn (he.run pins s σ H _ I h) fun v s1 ⟨x, H1, I1, r1, q1⟩ => ?_
  have all : ∀ {te' : TE}, True := trivial
  rcases q1 with ⟨a, e, ⟨xs, hq⟩, q⟩ | ⟨a, e, ⟨xs, hq⟩, q⟩ | ⟨z, e, q⟩
  · subst e
    cases r1
    obtain ⟨its, rv, p, hz⟩ := I1.list hq
    refine wpAny_pyIter_list p.isList ?_
    refine ⟨s1.heap.objs.size, [s1.heap.objs.size], _, _, H1, rfl, I1.kept (t' := s1.toks) fun b o e => Heap.get?_push_of_some _ e, turn_list a _, ⟨_, Heap.get?_push_size _ rfl, rfl, rfl⟩, fun b hb => ?_, q⟩
    have e : b = s1.heap.objs.size := by simpa using hb
    subst e
    exact I1.fpOk (Nat.le_refl _) (I1.hok.fresh (Nat.le_refl _))
  · subst e
    cases r1
    obtain ⟨its, rv, p, hz⟩ := I1.tuple hq
    refine wpAny_pyIter_tuple (show s1.heap.IsTuple a its.toArray from p) ?_
    refine ⟨s1.heap.objs.size, [s1.heap.objs.size], _, _, H1, rfl, I1.kept (t' := s1.toks) fun b o e => Heap.get?_push_of_some _ e, turn_tuple a _, ⟨_, Heap.get?_push_size _ rfl, rfl, rfl⟩, fun b hb => ?_, q⟩
    have e : b = s1.heap.objs.size := by simpa using hb
    subst e
    exact I1.fpOk (Nat.le_refl _) (I1.hok.fresh (Nat.le_refl _))
  · subst e
    obtain ⟨t, rfl⟩ := r1
    cases ha : z.cps.all (· < 128)
    · exact wpAny_pyIter_wide ha (pi_one (tk := s1.toks) I1 _ (turn_str _ z t "str_iterator" (.inr rfl)) ⟨_, Heap.get?_push_size _ rfl, rfl, rfl⟩ q)
    · exact wpAny_pyIter_ascii ha (pi_one (tk := s1.toks) I1 _ (turn_str _ z t "str_ascii_iterator" (.inl rfl)) ⟨_, Heap.get?_push_size _ rfl, rfl, rfl⟩ q)
def bIter (d : D) : M Items := fun S P _ => match d with
  | .str z => P (z.cps.toList.map fun c => .str ⟨#[c]⟩, fun _ => True) S
  | d => (match rdS S.W d with
    | some l => P (l, fun W => rdS W d = some l) S
    | none => False)
theorem rdS_kind {W : Wd} {d : D} {l : List D} (e : rdS W d = some l) : (d = .tup l) ∨ rdL W d = some l := by
  cases d with
  | tup m => simp only [rdS, Option.some.injEq] at e; subst e; exact .inl rfl
  | _ => exact .inr e
theorem itOk_list {K : PySem.W.Frag} {B : Hp} {φ : List Addr} {d : D} {a : Addr} {l : List D} (r : Rep K B φ d (.ref a)) (nt : ∀ m, d ≠ .tup m) : ItOk K B φ l (fun W => rdS W d = some l) (Itl K a) := by
  have rd : ∀ {B1 φ1 W H}, Ext B φ B1 φ1 → RelW K B1 φ1 W H → rdS W d = some l → ∃ xs, SqL K H a xs ∧ Reps K B1 φ1 l xs := fun {B1 φ1 W H} e1 R c => by
    rcases rdS_kind c with rfl | c
    · exact absurd rfl (nt l)
    obtain ⟨p, xs, e, h1, h2⟩ := rdL_ok R (r.mono e1 _ _) c
    cases e
    exact ⟨xs, h1, h2⟩
  refine ⟨fun i B1 φ1 W H e1 R c hi => ?_, fun i B1 φ1 W H x H' e1 R c y d' hd' => ?_, fun i B1 φ1 W H e1 R c hi => ?_⟩
  · obtain ⟨xs, h1, h2⟩ := rd e1 R c
    exact ⟨xs, xs[i]'(by rw [h2.length]; exact hi), h1, List.getElem?_eq_getElem _⟩
  · obtain ⟨xs, h1, h2⟩ := rd e1 R c
    obtain ⟨rfl, y⟩ := y
    obtain ⟨v, hv, rv⟩ := h2.get hd'
    rw [y xs h1] at hv
    cases hv
    exact ⟨B1, Ext.refl _ _, R, rv⟩
  · obtain ⟨xs, h1, h2⟩ := rd e1 R c
    exact ⟨xs, h1, by rw [h2.length]; omega⟩
theorem itOk_tup {K : PySem.W.Frag} {B : Hp} {φ : List Addr} {a : Addr} {l : List D} {chk : Wd → Prop} (r : Rep K B φ (.tup l) (.ref a)) : ItOk K B φ l chk (Itt K a) := by
  have rd : ∀ {B1 φ1 W H}, Ext B φ B1 φ1 → RelW K B1 φ1 W H → ∃ xs, SqT K H a xs ∧ Reps K B1 φ1 l xs := fun {B1 φ1 W H} e1 R => by
    have r' := r.mono e1 _ _
    simp only [Rep] at r'
    obtain ⟨p, xs, e, h1, h2⟩ := r'
    cases e
    exact ⟨xs, R.sqT h1, h2⟩
  refine ⟨fun i B1 φ1 W H e1 R c hi => ?_, fun i B1 φ1 W H x H' e1 R c y d' hd' => ?_, fun i B1 φ1 W H e1 R c hi => ?_⟩
  · obtain ⟨xs, h1, h2⟩ := rd e1 R
    exact ⟨xs, xs[i]'(by rw [h2.length]; exact hi), h1, List.getElem?_eq_getElem _⟩
  · obtain ⟨xs, h1, h2⟩ := rd e1 R
    obtain ⟨rfl, y⟩ := y
    obtain ⟨v, hv, rv⟩ := h2.get hd'
    rw [y xs h1] at hv
    cases hv
    exact ⟨B1, Ext.refl _ _, R, rv⟩
  · obtain ⟨xs, h1, h2⟩ := rd e1 R
    exact ⟨xs, h1, by rw [h2.length]; omega⟩
theorem itOk_str {K : PySem.W.Frag} {B : Hp} {φ : List Addr} {z : Str} {chk : Wd → Prop} : ItOk K B φ (z.cps.toList.map fun c => .str ⟨#[c]⟩) chk (Its z) := by
  refine ⟨fun i B1 φ1 W H e1 R c hi => ?_, fun i B1 φ1 W H x H' e1 R c y d' hd' => ?_, fun i B1 φ1 W H e1 R c hi => ?_⟩
  · show i < z.cps.size
    simpa using hi
  · obtain ⟨rfl, c, hc, rfl⟩ := y
    rw [List.getElem?_map] at hd'
    have : z.cps.toList[i]? = some c := by simpa using hc
    rw [this] at hd'
    cases hd'
    exact ⟨B1, Ext.refl _ _, R, by simp only [Rep]⟩
  · show z.cps.size ≤ i
    simp at hi
    omega
theorem di_any (he : PE X e (tE X.K WE fe)) : PI X tg e (tIt X.K WE (M.bind fe bIter)) :=
  PI.weak (pi_any he) fun σ H Q h => by
    obtain ⟨B, φ, S, R, run⟩ := h
    refine ⟨B, φ, S, R, run.bind.imp ?_⟩
    rintro x H1 ⟨d, B1, φ1, S1, e1, R1, r1, P, Xx, h1, h2, h3⟩
    have gen : (match rdS S1.W d with
      | some l => P (l, fun W => rdS W d = some l) S1
      | none => False) → (∃ a, x = .ref a ∧ (∃ xs, SqL X.K H1 a xs) ∧ Q (Itl X.K a) H1) ∨ (∃ a, x = .ref a ∧ (∃ xs, SqT X.K H1 a xs) ∧ Q (Itt X.K a) H1) ∨ ∃ z, x = .str z ∧ Q (Its z) H1 := fun g => by
      split at g
      · rename_i l ec
        rcases rdS_kind ec with rfl | ec'
        · have r2 := r1
          simp only [Rep] at r2
          obtain ⟨p, xs, rfl, hp, hr⟩ := r2
          exact .inr (.inl ⟨p, rfl, ⟨xs, R1.w.sqT hp⟩, h2 _ _ _ _ _ _ g (Ext.refl _ _) R1 (itOk_tup r1)⟩)
        · obtain ⟨p, xs, rfl, hp, hr⟩ := rdL_ok R1.w r1 ec'
          refine .inl ⟨p, rfl, ⟨xs, hp⟩, h2 _ _ _ _ _ _ g (Ext.refl _ _) R1 (itOk_list r1 fun m em => ?_)⟩
          subst em
          simp [rdL] at ec'
      · exact g.elim
    cases d with
    | str z =>
      simp only [Rep] at r1
      exact .inr (.inr ⟨z, r1, h2 _ _ _ _ _ _ h1 (Ext.refl _ _) R1 itOk_str⟩)
    | _ => exact gen h1
/-- ranges -/
def rngD (i : Int) (n : Nat) : List D := (List.range n).map fun k => .int (i + (k : Nat))
theorem itOk_rng {K : PySem.W.Frag} {B : Hp} {φ : List Addr} {i : Int} {n : Nat} : ItOk K B φ (rngD i n) (fun _ => True) (Itr i n) := by
  refine ⟨fun i B1 φ1 W H e1 R c hi => ?_, fun j B1 φ1 W H x H' e1 R c y d' hd' => ?_, fun i B1 φ1 W H e1 R c hi => ?_⟩
  · show i < n
    simpa [rngD] using hi
  · obtain ⟨rfl, rfl⟩ := y
    unfold rngD at hd'
    rw [List.getElem?_map] at hd'
    by_cases hj : j < n
    · rw [List.getElem?_range hj] at hd'
      cases hd'
      exact ⟨B1, Ext.refl _ _, R, by simp only [Rep]⟩
    · rw [List.getElem?_eq_none (by simpa using hj)] at hd'
      cases hd'
  · show n ≤ i
    simp [rngD] at hi
    omega
def bRange1 (ds : List D) : M Items := fun S P _ => match ds with
  | [.int j] => -(2 ^ 62) ≤ j ∧ j < 2 ^ 62 ∧ P (rngD 0 j.toNat, fun _ => True) S
  | _ => False
def bRange2 (ds : List D) : M Items := fun S P _ => match ds with
  | [.int i, .int j] => (-(2 ^ 62) ≤ i ∧ i < 2 ^ 62 ∧ -(2 ^ 62) ≤ j ∧ j < 2 ^ 62) ∧ P (rngD i (j - i).toNat, fun _ => True) S
  | _ => False
theorem di_range1 {a : Expr} {ga : M (List D)} {p : Pos} (hm : X.mg "range" = none) (ha : PA X [a] (tA X.K WE ga)) (hg : Gl X "range" := by rfl) (hs : starEach [a] X.env = [(false, eval a X.env)] := by rfl) : PI X tg (.Call (.Name "range" p) [a] [] pos) (tIt X.K WE (M.bind ga bRange1)) :=
  PI.weak (pi_range1 hg hm ha hs) fun σ H Q h => by
    obtain ⟨B, φ, S, R, run⟩ := h
    refine ⟨B, φ, S, R, run.bind.imp ?_⟩
    rintro xs H1 ⟨ds, B1, φ1, S1, e1, R1, r1, P, Xx, h1, h2, h3⟩
    unfold bRange1 at h1
    split at h1
    · rename_i j
      obtain ⟨v, rfl, rv⟩ := one_inv r1
      simp only [Rep] at rv
      subst rv
      exact ⟨j, rfl, h1.1, h1.2.1, h2 _ _ _ _ _ _ h1.2.2 (Ext.refl _ _) R1 itOk_rng⟩
    · exact h1.elim
theorem di_range2 {a b : Expr} {ga : M (List D)} {p : Pos} (hm : X.mg "range" = none) (ha : PA X [a, b] (tA X.K WE ga)) (hg : Gl X "range" := by rfl) (hs : starEach [a, b] X.env = [(false, eval a X.env), (false, eval b X.env)] := by rfl) (hs2 : starEach [b] X.env = [(false, eval b X.env)] := by rfl) :
    PI X tg (.Call (.Name "range" p) [a, b] [] pos) (tIt X.K WE (M.bind ga bRange2)) :=
  PI.weak (pi_range2 hg hm ha hs hs2) fun σ H Q h => by
    obtain ⟨B, φ, S, R, run⟩ := h
    refine ⟨B, φ, S, R, run.bind.imp ?_⟩
    rintro xs H1 ⟨ds, B1, φ1, S1, e1, R1, r1, P, Xx, h1, h2, h3⟩
    unfold bRange2 at h1
    split at h1
    · rename_i i j
      obtain ⟨v, u, rfl, rv, ru⟩ := two_inv r1
      simp only [Rep] at rv ru
      subst rv; subst ru
      exact ⟨i, j, rfl, h1.1, h2 _ _ _ _ _ _ h1.2 (Ext.refl _ _) R1 itOk_rng⟩
    · exact h1.elim
/-- enumerate -/
def enumD : Nat → List D → List D
  | _, [] => []
  | n, d :: l => .tup [.int (n : Nat), d] :: enumD (n + 1) l
theorem enumD_get : ∀ (n : Nat) (l : List D) (i : Nat), (enumD n l)[i]? = (l[i]?).map fun d => .tup [.int ((n + i : Nat) : Int), d]
  | n, [], i => by simp [enumD]
  | n, d :: l, 0 => by simp [enumD]
  | n, d :: l, i + 1 => by
    simp only [enumD, List.getElem?_cons_succ]
    rw [enumD_get (n + 1) l i]
    have : n + 1 + i = n + (i + 1) := by omega
    rw [this]
theorem enumD_len : ∀ (n : Nat) (l : List D), (enumD n l).length = l.length
  | n, [] => rfl
  | n, d :: l => by simp [enumD, enumD_len (n + 1) l]
def bEnum (ds : List D) : M Items := fun S P _ => match ds with
  | [d] => (match rdL S.W d with
    | some l => P (enumD 0 l, fun W => rdL W d = some l) S
    | none => False)
  | _ => False
theorem itOk_enum {K : PySem.W.Frag} {B : Hp} {φ : List Addr} {d : D} {a : Addr} {l : List D} (r : Rep K B φ d (.ref a)) : ItOk K B φ (enumD 0 l) (fun W => rdL W d = some l) (Ite K a) := by
  have rd : ∀ {B1 φ1 W H}, Ext B φ B1 φ1 → RelW K B1 φ1 W H → rdL W d = some l → ∃ xs, SqL K H a xs ∧ Reps K B1 φ1 l xs := fun {B1 φ1 W H} e1 R c => by
    obtain ⟨p, xs, e, h1, h2⟩ := rdL_ok R (r.mono e1 _ _) c
    cases e
    exact ⟨xs, h1, h2⟩
  refine ⟨fun i B1 φ1 W H e1 R c hi => ?_, fun i B1 φ1 W H x H' e1 R c y d' hd' => ?_, fun i B1 φ1 W H e1 R c hi => ?_⟩
  · obtain ⟨xs, h1, h2⟩ := rd e1 R c
    rw [enumD_len] at hi
    exact ⟨xs, xs[i]'(by rw [h2.length]; exact hi), h1, List.getElem?_eq_getElem _⟩
  · obtain ⟨xs, h1, h2⟩ := rd e1 R c
    obtain ⟨T, x, rfl, hT, rfl, y⟩ := y
    rw [enumD_get, Option.map_eq_some_iff] at hd'
    obtain ⟨d0, e0, rfl⟩ := hd'
    obtain ⟨v, hv, rv⟩ := h2.get e0
    rw [y xs h1] at hv
    cases hv
    obtain ⟨w, e⟩ := R.frz (o := .tup [.int (i : Nat), x]) hT
    refine ⟨_, e, w, ?_⟩
    simp only [Rep]
    refine ⟨T, _, rfl, SqT.of upd_same, Reps.cons (by simp only [Rep]; simp) (Reps.cons (rv.mono e _ _) Reps.nil)⟩
  · obtain ⟨xs, h1, h2⟩ := rd e1 R c
    rw [enumD_len] at hi
    exact ⟨xs, h1, by rw [h2.length]; omega⟩
theorem di_enum {a : Expr} {ga : M (List D)} {p tpos : Pos} {elts : List Expr} {kk : Nat} (hm : X.mg "enumerate" = none) (ha : PA X [a] (tA X.K WE ga)) (hg : Gl X "enumerate" := by rfl) (hs : starEach [a] X.env = [(false, eval a X.env)] := by rfl) :
    PI X (.Tuple elts kk tpos) (.Call (.Name "enumerate" p) [a] [] pos) (tIt X.K WE (M.bind ga bEnum)) :=
  PI.weak (pi_enum hg hm ha hs) fun σ H Q h => by
    obtain ⟨B, φ, S, R, run⟩ := h
    refine ⟨B, φ, S, R, run.bind.imp ?_⟩
    rintro xs H1 ⟨ds, B1, φ1, S1, e1, R1, r1, P, Xx, h1, h2, h3⟩
    unfold bEnum at h1
    split at h1
    · rename_i d
      obtain ⟨v, rfl, rv⟩ := one_inv r1
      split at h1
      · rename_i l el
        obtain ⟨p, xs, rfl, hp, hr⟩ := rdL_ok R1.w rv el
        exact ⟨p, xs, rfl, hp, h2 _ _ _ _ _ _ h1 (Ext.refl _ _) R1 (itOk_enum rv)⟩
      · exact h1.elim
    · exact h1.elim
/-- zip of two lists -/
def zipD : List D → List D → List D
  | a :: l, b :: m => .tup [a, b] :: zipD l m
  | _, _ => []
theorem zipD_get : ∀ (l m : List D) (i : Nat), (zipD l m)[i]? = match l[i]?, m[i]? with
    | some a, some b => some (.tup [a, b])
    | _, _ => none
  | [], m, i => by simp [zipD]
  | a :: l, [], i => by
    simp only [zipD, List.getElem?_nil]
    split <;> simp_all
  | a :: l, b :: m, 0 => by simp [zipD]
  | a :: l, b :: m, i + 1 => by
    simp only [zipD, List.getElem?_cons_succ]
    exact zipD_get l m i
theorem zipD_len : ∀ (l m : List D), (zipD l m).length = min l.length m.length
  | [], m => by simp [zipD]
  | a :: l, [] => by simp [zipD]
  | a :: l, b :: m => by simp only [zipD, List.length_cons, zipD_len l m]; omega
def bZip2 (ds : List D) : M Items := fun S P _ => match ds with
  | [d, e] => (match rdL S.W d, rdL S.W e with
    | some l, some m => P (zipD l m, fun W => rdL W d = some l ∧ rdL W e = some m) S
    | _, _ => False)
  | _ => False
theorem itOk_zip {K : PySem.W.Frag} {B : Hp} {φ : List Addr} {d d2 : D} {a b : Addr} {l m : List D} (r : Rep K B φ d (.ref a)) (r2 : Rep K B φ d2 (.ref b)) : ItOk K B φ (zipD l m) (fun W => rdL W d = some l ∧ rdL W d2 = some m) (Itz K a b) := by
  have rd : ∀ {B1 φ1 W H} {d : D} {a : Addr} {l : List D}, Rep K B φ d (.ref a) → Ext B φ B1 φ1 → RelW K B1 φ1 W H → rdL W d = some l → ∃ xs, SqL K H a xs ∧ Reps K B1 φ1 l xs := fun {B1 φ1 W H d a l} r e1 R c => by
    obtain ⟨p, xs, e, h1, h2⟩ := rdL_ok R (r.mono e1 _ _) c
    cases e
    exact ⟨xs, h1, h2⟩
  refine ⟨fun i B1 φ1 W H e1 R c hi => ?_, fun i B1 φ1 W H x H' e1 R c y d' hd' => ?_, fun i B1 φ1 W H e1 R c hi => ?_⟩
  · obtain ⟨xs, h1, h2⟩ := rd r e1 R c.1
    obtain ⟨ys, h3, h4⟩ := rd r2 e1 R c.2
    rw [zipD_len] at hi
    exact ⟨xs, ys, xs[i]'(by rw [h2.length]; omega), ys[i]'(by rw [h4.length]; omega), h1, h3, List.getElem?_eq_getElem _, List.getElem?_eq_getElem _⟩
  · obtain ⟨xs, h1, h2⟩ := rd r e1 R c.1
    obtain ⟨ys, h3, h4⟩ := rd r2 e1 R c.2
    obtain ⟨T, x, y', rfl, hT, rfl, y1, y2⟩ := y
    rw [zipD_get] at hd'
    split at hd'
    · rename_i da db ea eb
      cases hd'
      obtain ⟨v, hv, rv⟩ := h2.get ea
      obtain ⟨u, hu, ru⟩ := h4.get eb
      rw [y1 xs h1] at hv
      cases hv
      rw [y2 ys h3] at hu
      cases hu
      obtain ⟨w, e⟩ := R.frz (o := .tup [x, y']) hT
      refine ⟨_, e, w, ?_⟩
      simp only [Rep]
      exact ⟨T, _, rfl, SqT.of upd_same, Reps.cons (rv.mono e _ _) (Reps.cons (ru.mono e _ _) Reps.nil)⟩
    · cases hd'
  · obtain ⟨xs, h1, h2⟩ := rd r e1 R c.1
    obtain ⟨ys, h3, h4⟩ := rd r2 e1 R c.2
    rw [zipD_len] at hi
    refine ⟨xs, ys, h1, h3, ?_⟩
    rw [h2.length, h4.length]
    omega
theorem di_zip2 {a b : Expr} {ga : M (List D)} {p tpos : Pos} {elts : List Expr} {kk : Nat} (hm : X.mg "zip" = none) (ha : PA X [a, b] (tA X.K WE ga)) (hg : Gl X "zip" := by rfl)
    (hs : starEach [a, b] X.env = (false, eval a X.env) :: starEach [b] X.env := by rfl) (hpl : (backTo pos (starEach [b] X.env)).any (·.1) = false := by rfl) : PI X (.Tuple elts kk tpos) (.Call (.Name "zip" p) [a, b] [] pos) (tIt X.K WE (M.bind ga bZip2)) :=
  PI.weak (pi_zip hg hm ha hs hpl) fun σ H Q h => by
    obtain ⟨B, φ, S, R, run⟩ := h
    refine ⟨B, φ, S, R, run.bind.imp ?_⟩
    rintro xs H1 ⟨ds, B1, φ1, S1, e1, R1, r1, P, Xx, h1, h2, h3⟩
    unfold bZip2 at h1
    split at h1
    · rename_i d d2
      obtain ⟨v, u, rfl, rv, ru⟩ := two_inv r1
      split at h1
      · rename_i l m el em
        obtain ⟨p, xs, rfl, hp, hr⟩ := rdL_ok R1.w rv el
        obtain ⟨p2, ys, rfl, hp2, hr2⟩ := rdL_ok R1.w ru em
        exact ⟨p, p2, xs, ys, rfl, hp, hp2, h2 _ _ _ _ _ _ h1 (Ext.refl _ _) R1 (itOk_zip rv ru)⟩
      · exact h1.elim
    · exact h1.elim
/-- reversed(list) -/
def bRev (ds : List D) : M Items := fun S P _ => match ds with
  | [d] => (match rdL S.W d with
    | some l => P (l.reverse, fun W => rdL W d = some l) S
    | none => False)
  | _ => False
theorem itOk_rev {K : PySem.W.Frag} {B : Hp} {φ : List Addr} {d : D} {a : Addr} {l : List D} (r : Rep K B φ d (.ref a)) : ItOk K B φ l.reverse (fun W => rdL W d = some l) (Itv K a l.length) := by
  have rd : ∀ {B1 φ1 W H}, Ext B φ B1 φ1 → RelW K B1 φ1 W H → rdL W d = some l → ∃ xs, SqL K H a xs ∧ Reps K B1 φ1 l xs := fun {B1 φ1 W H} e1 R c => by
    obtain ⟨p, xs, e, h1, h2⟩ := rdL_ok R (r.mono e1 _ _) c
    cases e
    exact ⟨xs, h1, h2⟩
  refine ⟨fun i B1 φ1 W H e1 R c hi => ?_, fun i B1 φ1 W H x H' e1 R c y d' hd' => ?_, fun i B1 φ1 W H e1 R c hi => ?_⟩
  · obtain ⟨xs, h1, h2⟩ := rd e1 R c
    rw [List.length_reverse] at hi
    exact ⟨hi, xs, xs[l.length - 1 - i]'(by rw [h2.length]; omega), h1, List.getElem?_eq_getElem _⟩
  · obtain ⟨xs, h1, h2⟩ := rd e1 R c
    obtain ⟨rfl, y⟩ := y
    have hi : i < l.length := by
      have := (List.getElem?_eq_some_iff.mp hd').1
      simpa using this
    rw [List.getElem?_reverse hi] at hd'
    obtain ⟨v, hv, rv⟩ := h2.get hd'
    rw [y xs h1] at hv
    cases hv
    exact ⟨B1, Ext.refl _ _, R, rv⟩
  · show l.length ≤ i
    rw [List.length_reverse] at hi
    omega
theorem di_rev {a : Expr} {ga : M (List D)} {p : Pos} (hm : X.mg "reversed" = none) (ha : PA X [a] (tA X.K WE ga)) (hg : Gl X "reversed" := by rfl) (hs : starEach [a] X.env = [(false, eval a X.env)] := by rfl) : PI X tg (.Call (.Name "reversed" p) [a] [] pos) (tIt X.K WE (M.bind ga bRev)) :=
  PI.weak (pi_reversed hg hm ha hs) fun σ H Q h => by
    obtain ⟨B, φ, S, R, run⟩ := h
    refine ⟨B, φ, S, R, run.bind.imp ?_⟩
    rintro xs H1 ⟨ds, B1, φ1, S1, e1, R1, r1, P, Xx, h1, h2, h3⟩
    unfold bRev at h1
    split at h1
    · rename_i d
      obtain ⟨v, rfl, rv⟩ := one_inv r1
      split at h1
      · rename_i l el
        obtain ⟨p, xs, rfl, hp, hr⟩ := rdL_ok R1.w rv el
        exact ⟨p, xs, rfl, hp, by rw [hr.length]; exact h2 _ _ _ _ _ _ h1 (Ext.refl _ _) R1 (itOk_rev rv)⟩
      · exact h1.elim
    · exact h1.elim
end

/-! ### handles let go -/
mutual
def D.bel (n : Nat) : D → Bool
  | .hnd m => decide (m < n)
  | .tup l => D.bels n l
  | .lst l => D.bels n l
  | .sq l => D.bels n l
  | .dct _ l => D.bels n l
  | _ => true
def D.bels (n : Nat) : List D → Bool
  | [] => true
  | d :: l => D.bel n d && D.bels n l
end
def O.bel (n : Nat) : O → Bool
  | .lst l => D.bels n l
  | .dct _ l => D.bels n l
  | .ins _ fs => D.bels n (fs.map (·.2))
section
variable {K : PySem.W.Frag} {B B1 : Hp} {φ ψ : List Addr}
theorem narrow_hnd {n : Nat} {a : Addr} (h : n < φ.length) (e : (φ ++ ψ)[n]? = some a) : φ[n]? = some a := by rwa [List.getElem?_append_left h] at e
mutual
theorem Rep.narrow : ∀ (d : D) (v : V), d.bel φ.length = true → Rep K B (φ ++ ψ) d v → Rep K B φ d v
  | .non, v, _, h => by simpa only [Rep] using h
  | .bl _, v, _, h => by simpa only [Rep] using h
  | .int _, v, _, h => by simpa only [Rep] using h
  | .str _, v, _, h => by simpa only [Rep] using h
  | .ty _, v, _, h => by simpa only [Rep] using h
  | .gl _, v, _, h => by simpa only [Rep] using h
  | .tup l, v, b, h => by
    simp only [Rep] at h ⊢
    obtain ⟨p, xs, h1, h2, h3⟩ := h
    exact ⟨p, xs, h1, h2, Reps.narrow l xs (by simpa only [D.bel] using b) h3⟩
  | .lst l, v, b, h => by
    simp only [Rep] at h ⊢
    obtain ⟨p, xs, h1, h2, h3⟩ := h
    exact ⟨p, xs, h1, h2, Reps.narrow l xs (by simpa only [D.bel] using b) h3⟩
  | .sq l, v, b, h => by
    simp only [Rep] at h ⊢
    obtain ⟨p, xs, h1, h2, h3⟩ := h
    exact ⟨p, xs, h1, h2, Reps.narrow l xs (by simpa only [D.bel] using b) h3⟩
  | .dct ks l, v, b, h => by
    simp only [Rep] at h ⊢
    obtain ⟨p, kvs, h1, h2, h3, h4⟩ := h
    exact ⟨p, kvs, h1, h2, h3, Reps.narrow l _ (by simpa only [D.bel] using b) h4⟩
  | .hnd n, v, b, h => by
    simp only [Rep] at h ⊢
    obtain ⟨a, h1, h2⟩ := h
    exact ⟨a, narrow_hnd (by simpa [D.bel] using b) h1, h2⟩
theorem Reps.narrow : ∀ (l : List D) (xs : List V), D.bels φ.length l = true → Reps K B (φ ++ ψ) l xs → Reps K B φ l xs
  | [], xs, _, h => by simpa only [Reps] using h
  | d :: l, xs, b, h => by
    obtain ⟨x, r, rfl, h1, t⟩ := h.cons_inv
    have b' : d.bel φ.length = true ∧ D.bels φ.length l = true := by simpa [D.bels] using b
    exact Reps.cons (Rep.narrow d x b'.1 h1) (Reps.narrow l r b'.2 t)
end
mutual
theorem Rep.bel : ∀ (d : D) (v : V), Rep K B φ d v → d.bel φ.length = true
  | .non, v, h => by simp only [D.bel]
  | .bl _, v, h => by simp only [D.bel]
  | .int _, v, h => by simp only [D.bel]
  | .str _, v, h => by simp only [D.bel]
  | .ty _, v, h => by simp only [D.bel]
  | .gl _, v, h => by simp only [D.bel]
  | .tup l, v, h => by
    simp only [Rep] at h
    obtain ⟨p, xs, h1, h2, h3⟩ := h
    simp only [D.bel]
    exact Reps.bel l xs h3
  | .lst l, v, h => by
    simp only [Rep] at h
    obtain ⟨p, xs, h1, h2, h3⟩ := h
    simp only [D.bel]
    exact Reps.bel l xs h3
  | .sq l, v, h => by
    simp only [Rep] at h
    obtain ⟨p, xs, h1, h2, h3⟩ := h
    simp only [D.bel]
    exact Reps.bel l xs h3
  | .dct ks l, v, h => by
    simp only [Rep] at h
    obtain ⟨p, kvs, h1, h2, h3, h4⟩ := h
    simp only [D.bel]
    exact Reps.bel l _ h4
  | .hnd n, v, h => by
    simp only [Rep] at h
    obtain ⟨a, h1, h2⟩ := h
    simp only [D.bel, decide_eq_true_eq]
    exact (List.getElem?_eq_some_iff.mp h1).1
theorem Reps.bel : ∀ (l : List D) (xs : List V), Reps K B φ l xs → D.bels φ.length l = true
  | [], xs, _ => by simp only [D.bels]
  | d :: l, xs, h => by
    obtain ⟨x, r, rfl, h1, t⟩ := h.cons_inv
    simp only [D.bels, Bool.and_eq_true]
    exact ⟨Rep.bel d x h1, Reps.bel l r t⟩
end
theorem ORep.bel {H : Hp} {a : Addr} : ∀ {o : O}, ORep K B φ H a o → o.bel φ.length = true
  | .lst l, ⟨xs, h, r⟩ => Reps.bel l xs r
  | .dct ks l, ⟨kvs, h, k, r⟩ => Reps.bel l _ r
  | .ins C fs, ⟨dx, fvs, h, k, r⟩ => Reps.bel _ _ r
theorem ORep.narrow {H : Hp} {a : Addr} : ∀ {o : O}, o.bel φ.length = true → ORep K B (φ ++ ψ) H a o → ORep K B φ H a o
  | .lst l, b, ⟨xs, h, r⟩ => ⟨xs, h, Reps.narrow l xs b r⟩
  | .dct ks l, b, ⟨kvs, h, k, r⟩ => ⟨kvs, h, k, Reps.narrow l _ b r⟩
  | .ins C fs, b, ⟨dx, fvs, h, k, r⟩ => ⟨dx, fvs, h, k, Reps.narrow _ _ b r⟩
/-- what stands in the kept world was there, or speaks of its handles alone -/
def Cl (W W0 : Wd) : Prop := ∀ (i : Nat) (o : O), W0[i]? = some o → W[i]? = some o ∨ o.bel W0.length = true
theorem Cl.refl (W : Wd) : Cl W W := fun _ _ h => .inl h
theorem RelW.drop {H H1 : Hp} {W W0 g : Wd} (R : RelW K B φ W H) (R1 : RelW K B1 (φ ++ ψ) (W0 ++ g) H1) (hl : W0.length = W.length) (c : Cl W W0) : RelW K B1 φ W0 H1 := by
  refine ⟨R1.sub, by rw [R.len, hl], fun n a o ha ho => ?_, (List.nodup_append.mp R1.nd).1, fun a ha => R1.off a (List.mem_append_left _ ha)⟩
  have r := R1.obj n a o (by rw [List.getElem?_append_left (List.getElem?_eq_some_iff.mp ha).1]; exact ha) (by rw [List.getElem?_append_left (List.getElem?_eq_some_iff.mp ho).1]; exact ho)
  refine r.narrow ?_
  rcases c n o ho with q | q
  · exact (R.obj n a o ha q).bel
  · rw [R.len, ← hl]; exact q
/-- one of the dropped lists is frozen -/
theorem RelW.frzDrop {H H1 : Hp} {W W0 g : Wd} {k : Nat} {l : List D} {a : Addr} (R : RelW K B φ W H) (R1 : RelW K B1 (φ ++ ψ) (W0 ++ g) H1) (hl : W0.length = W.length) (c : Cl W W0)
    (hk : φ.length ≤ k) (ha : (φ ++ ψ)[k]? = some a) (hg : (W0 ++ g)[k]? = some (.lst l)) (hb : D.bels φ.length l = true) :
    ∃ B2, Ext B1 φ B2 φ ∧ RelW K B2 φ W0 H1 ∧ Rep K B2 φ (.lst l) (.ref a) := by
  obtain ⟨xs, hx, r⟩ := R1.obj k a _ ha hg
  have hn : B1 a = none := R1.off a (List.mem_of_getElem? ha)
  have e : Ext B1 φ (upd B1 a (.lst xs)) φ := ext_frz hn
  have hna : ∀ b ∈ φ, b ≠ a := fun b hb z => by
    subst z
    obtain ⟨n, hn⟩ := List.mem_iff_getElem?.mp hb
    have h1 : (φ ++ ψ)[n]? = some b := by rw [List.getElem?_append_left (List.getElem?_eq_some_iff.mp hn).1]; exact hn
    obtain ⟨i1, e1⟩ := List.getElem?_eq_some_iff.mp h1
    obtain ⟨i2, e2⟩ := List.getElem?_eq_some_iff.mp ha
    have := (List.getElem_inj R1.nd).mp (e1.trans e2.symm)
    have := (List.getElem?_eq_some_iff.mp hn).1
    omega
  have R2 := R.drop R1 hl c
  refine ⟨_, e, ⟨fun b u hu => ?_, R2.len, fun n b o hb ho => (R2.obj n b o hb ho).mono e, R2.nd, fun b hb => ?_⟩, ?_⟩
  · by_cases hba : b = a
    · subst hba
      rw [upd_same] at hu
      cases hu
      exact .inl hx
    · rw [upd_ne hba] at hu
      exact R2.sub b u hu
  · rw [upd_ne (hna b hb)]
    exact R2.off b hb
  · simp only [Rep]
    exact ⟨a, xs, rfl, upd_same, (Reps.narrow l xs hb r).mono e _ _⟩
end
end Tw

set_option Elab.async false
set_option linter.all false
set_option maxRecDepth 100000
set_option maxHeartbeats 4000000
namespace Tw
open PySem PySem.Spec PyProof.Rows L2

/-! ### list comprehensions -/
def wipeA (σ : List (Option D)) : List Nat → List (Option D)
  | [] => σ
  | v :: vs => (wipeA σ vs).set v none
theorem wipeA_length (σ : List (Option D)) : ∀ vs : List Nat, (wipeA σ vs).length = σ.length
  | [] => rfl
  | v :: vs => by unfold wipeA; rw [List.length_set, wipeA_length σ vs]
theorem wipeA_some {σ : List (Option D)} {i : Nat} {d : D} : ∀ {vs : List Nat}, (wipeA σ vs)[i]? = some (some d) → σ[i]? = some (some d) ∧ i ∉ vs
  | [], h => ⟨h, by simp⟩
  | v :: vs, h => by
    unfold wipeA at h
    by_cases hv : v = i
    · subst hv
      rw [List.getElem?_set] at h
      split at h
      · split at h <;> simp at h
      · exact absurd rfl (by assumption)
    · rw [List.getElem?_set_ne hv] at h
      obtain ⟨a, b⟩ := wipeA_some h
      exact ⟨a, by simp [Ne.symm hv, b]⟩
theorem Rel.wipe {K : PySem.W.Frag} {B H : Hp} {φ : List Addr} {S : AS} {σ : L2.St} (R : Rel K B φ S σ H) (vs : List Nat) : Rel K B φ ⟨wipeA S.σ vs, S.W⟩ (wipe σ vs) H := by
  refine ⟨R.w, by rw [wipeA_length, wipe_length]; exact R.len, fun i d h => ?_⟩
  obtain ⟨a, b⟩ := wipeA_some h
  obtain ⟨v, hv, rv⟩ := R.slot i d a
  refine ⟨v, ?_, rv⟩
  rw [wipe_get, if_neg fun z => b z.1]
  exact hv
abbrev NoX : XA := fun _ _ => False
abbrev WE0 : WX := fun _ _ _ _ => False
def lcL (σ0 : List (Option D)) (own : List Nat) (h : Nat) (chk : Wd → Prop) (g : MG) (t : M Bool) (e : M D) : List D → Wd → (Wd → Prop) → Prop
  | [], W, k => k W
  | x :: xs, W, k => g x ⟨wipeA σ0 own, W⟩ fun S1 => t S1 (fun b S2 => if b = true then e S2 (fun d S3 => match S3.W[h]? with
      | some (.lst l) => l.length < sizeLine ∧ chk (S3.W.set h (.lst (l ++ [d]))) ∧ lcL σ0 own h chk g t e xs (S3.W.set h (.lst (l ++ [d]))) k
      | _ => False) NoX else chk S2.W ∧ lcL σ0 own h chk g t e xs S2.W k) NoX
def lcFin (frz : Bool) (S1 : AS) (P : D → AS → Prop) (W : Wd) : Prop :=
  if frz = true then ∃ W0 l, W = W0 ++ [.lst l] ∧ W0.length = S1.W.length ∧ Cl S1.W W0 ∧ D.bels S1.W.length l = true ∧ P (.lst l) ⟨S1.σ, W0⟩
  else P (.hnd S1.W.length) ⟨S1.σ, W⟩
def mLC (frz : Bool) (own : List Nat) (it : M Items) (g : MG) (t : M Bool) (e : M D) : M D := fun S P X =>
  it S (fun a S1 => a.2 (S1.W ++ [.lst []]) ∧ lcL S1.σ own S1.W.length a.2 g t e a.1 (S1.W ++ [.lst []]) (lcFin frz S1 P)) X
def mYes : M Bool := fun S P _ => P true S
section
variable {X : Cx} {WE : WX} {pos : Pos}
theorem lc_ok {frz : Bool} {own : List Nat} {it : M Items} {g : MG} {t : M Bool} {e : M D} {K : PySem.W.Frag} (σ : L2.St) (H : Hp) (Q : VK) (h : tE K WE (mLC frz own it g t e) σ H Q) :
    tLc (tIt K WE it) (tG K own g) (tT K WE0 t) (tE K WE0 e) own σ H Q := by
  obtain ⟨B, φ, S, R, P, Xx, h1, h2, h3⟩ := h
  refine ⟨B, φ, S, R, _, Xx, h1, ?_, h3⟩
  rintro ⟨l, chk⟩ S1 J B1 φ1 H1 ⟨c0, hl⟩ e1 R1 ok
  intro A hA
  obtain ⟨w1, e2⟩ := R1.w.add (o := .lst []) (ho := .lst []) hA ⟨[], upd_same, Reps.nil⟩
  refine ⟨fun i m H => m = l.length - i ∧ i ≤ l.length ∧ ∃ B2 φ2 W2, Ext B1 (φ1 ++ [A]) B2 φ2 ∧ RelW K B2 φ2 W2 H ∧ chk W2 ∧ lcL S1.σ own S1.W.length chk g t e (l.drop i) W2 (lcFin frz S1 P),
    ⟨l.length, by simp, Nat.zero_le _, B1, φ1 ++ [A], _, Ext.refl _ _, w1, c0, hl⟩, ?_⟩
  rintro i m H2 ⟨rfl, hi, B2, φ2, W2, x2, w2, c2, hl2⟩
  have x12 : Ext B1 φ1 B2 φ2 := e2.trans x2
  by_cases hlt : i < l.length
  · refine .inr ⟨ok.go i B2 φ2 W2 H2 x12 w2 c2 hlt, fun H => ∃ B2 φ2 W2, Ext B1 (φ1 ++ [A]) B2 φ2 ∧ RelW K B2 φ2 W2 H ∧ chk W2 ∧ lcL S1.σ own S1.W.length chk g t e (l.drop (i + 1)) W2 (lcFin frz S1 P),
      fun H3 q => ⟨l.length - (i + 1), by omega, rfl, hlt, q⟩, ?_⟩
    intro x H3 y
    obtain ⟨B3, x3, w3, r3⟩ := ok.yld i B2 φ2 W2 H2 x H3 x12 w2 c2 y l[i] (List.getElem?_eq_getElem hlt)
    rw [List.drop_eq_getElem_cons hlt] at hl2
    have R3 : Rel K B3 φ2 ⟨S1.σ, W2⟩ σ H3 := R1.ext (x12.trans x3) w3
    refine ⟨B3, φ2, _, l[i], _, R3.wipe own, r3, hl2, ?_⟩
    intro S4 σ4 B4 φ4 H4 q4 e4 R4 hw
    refine ⟨hw.trans ?_, B4, φ4, S4, R4, _, _, q4, ?_, fun _ _ _ _ _ _ _ z => z.elim⟩
    · apply List.ext_getElem?
      intro j
      rw [wipe_get, wipe_get, wipe_length]
      by_cases hj : j ∈ own ∧ j < σ.length
      · simp [hj]
      · simp [hj]
    rintro b S5 b' B5 φ5 H5 q5 e5 R5 rfl
    cases b' with
    | true =>
      refine iteT ⟨B5, φ5, S5, R5, _, _, q5, ?_, fun _ _ _ _ _ _ _ z => z.elim⟩
      intro d S6 v B6 φ6 H6 q6 e6 R6 r6
      have x16 : Ext B1 (φ1 ++ [A]) B6 φ6 := (((x2.trans x3).trans e4).trans e5).trans e6
      split at q6
      · rename_i l6 hl6
        have hA6 : φ6[S1.W.length]? = some A := x16.hnd (by rw [← R1.w.len, List.getElem?_append_right (Nat.le_refl _)]; simp)
        obtain ⟨a', ha', xs, hx, hr⟩ := R6.w.get hl6
        rw [hA6] at ha'; cases ha'
        refine ⟨xs, hx, by rw [hr.length]; exact q6.1, B6, φ6, _, x16, R6.w.put (o := .lst (l6 ++ [d])) hA6 ⟨xs ++ [v], upd_same, hr.append (Reps.cons r6 Reps.nil)⟩, q6.2.1, q6.2.2⟩
      · exact q6.elim
    | false => exact iteF ⟨B5, φ5, S5.W, ((x2.trans x3).trans e4).trans e5, R5.w, q5.1, q5.2⟩
  · have e : i = l.length := by omega
    subst e
    rw [List.drop_length] at hl2
    refine .inl ⟨ok.stop _ B2 φ2 W2 H2 x12 w2 c2 rfl, ?_⟩
    have hA2 : φ2[S1.W.length]? = some A := x2.hnd (by rw [← R1.w.len, List.getElem?_append_right (Nat.le_refl _)]; simp)
    cases frz with
    | false => exact h2 _ _ _ _ _ _ (show P (.hnd S1.W.length) ⟨S1.σ, W2⟩ from hl2) (e1.trans x12) (R1.ext x12 w2) (by simp only [Rep]; exact ⟨A, hA2, rfl⟩)
    | true =>
      have hl3 : lcFin true S1 P W2 := hl2
      unfold lcFin at hl3
      rw [if_pos rfl] at hl3
      obtain ⟨W0, l0, rfl, hl0, c, hb, hp⟩ := hl3
      obtain ⟨_, ψ, rfl⟩ := id x12
      obtain ⟨B5, x5, w5, r5⟩ := R1.w.frzDrop w2 hl0 c (k := S1.W.length) (l := l0) (a := A) (by rw [R1.w.len]; exact Nat.le_refl _) hA2 (by rw [← hl0, List.getElem?_append_right (Nat.le_refl _)]; simp) (by rw [R1.w.len]; exact hb)
      have x15 : Ext B1 φ1 B5 φ1 := ⟨fun a o z => x5.1 a o (x12.1 a o z), [], by simp⟩
      exact h2 _ _ _ _ _ _ hp (e1.trans x15) (R1.ext x15 w5) r5
theorem dts_nil : PTs X [] (tT X.K WE mYes) := ⟨fun pins s σ H Q I ⟨B, φ, S, R, P, Xx, h1, h2, h3⟩ => pts_nil.run pins s σ H Q I (Run.fin h2 (show P true S from h1) R rfl)⟩
theorem dts_one {c : Expr} {t : M Bool} (h : PT X c (tT X.K WE t)) : PTs X [c] (tT X.K WE t) := pts_one h
theorem de_lc {frz : Bool} {elt tg iter : Expr} {ifs : List Expr} {scope : Scope} (own : List (Str × Nat)) {it : M Items} {g : MG} {t : M Bool} {e : M D} (hc : X.calm = true) (hN : X.N.Nodup) (hi : PI X tg iter (tIt X.K WE it)) (ok : BlkOk X.N X.env.scope scope own)
    (hg : ∀ (s : Shared) (H : Hp) (C : Addr) (cl : List (Str × Addr)) (fp : List Addr), PG (X.blk s H scope (compEnvC scope cl C X.env) fp) tg (tG X.K (own.map (·.2)) g))
    (ht : ∀ (s : Shared) (H : Hp) (C : Addr) (cl : List (Str × Addr)) (fp : List Addr), PTs (X.blk s H scope (compEnvC scope cl C X.env) fp) ifs (tT X.K WE0 t))
    (he : ∀ (s : Shared) (H : Hp) (C : Addr) (cl : List (Str × Addr)) (fp : List Addr), PE (X.blk s H scope (compEnvC scope cl C X.env) fp) elt (tE X.K WE0 e)) (hs : ∀ x, foldedSetIterable iter X.env x = pure x := by intro _; rfl) :
    PE X (.ListComp elt [⟨tg, iter, ifs, 0⟩] scope pos) (tE X.K WE (mLC frz (own.map (·.2)) it g t e)) :=
  PE.weak (pe_lc hc hN hi ok hg ht he hs) fun σ H Q h => lc_ok σ H Q h
theorem d_setLc (i : Nat) {frz : Bool} {y : Str} {py : Pos} {elt tg iter : Expr} {ifs : List Expr} {scope : Scope} (own : List (Str × Nat)) {it : M Items} {g : MG} {t : M Bool} {e : M D} {spos : Pos} (hc : X.calm = true) (hN : X.N.Nodup)
    (hsw : swapsWith (.ListComp elt [⟨tg, iter, ifs, 0⟩] scope pos) (some (.Name y py)) spos.line X.env = pure true) (hi : PI X tg iter (tIt X.K WE it)) (ok : BlkOk X.N X.env.scope scope own)
    (hg : ∀ (s : Shared) (H : Hp) (C : Addr) (cl : List (Str × Addr)) (fp : List Addr), PG (X.blk s H scope (compEnvC scope cl C X.env) fp) tg (tG X.K (own.map (·.2)) g))
    (ht : ∀ (s : Shared) (H : Hp) (C : Addr) (cl : List (Str × Addr)) (fp : List Addr), PTs (X.blk s H scope (compEnvC scope cl C X.env) fp) ifs (tT X.K WE0 t))
    (he : ∀ (s : Shared) (H : Hp) (C : Addr) (cl : List (Str × Addr)) (fp : List Addr), PE (X.blk s H scope (compEnvC scope cl C X.env) fp) elt (tE X.K WE0 e)) (hy : X.N[i]? = some y := by rfl) (hyl : X.env.scope.names.lookup y = some .local := by rfl) (hs : ∀ x, foldedSetIterable iter X.env x = pure x := by intro _; rfl) :
    PS X (.Assign [.Name y py] (.ListComp elt [⟨tg, iter, ifs, 0⟩] scope pos) spos) (tS X.K WE (sSet i (mLC frz (own.map (·.2)) it g t e))) :=
  PS.weak (ps_setLc hc hN hy hyl hsw hi ok hg ht he hs) fun D σ H ⟨B, φ, S, R, run⟩ => by
    have h : tE X.K WE (mLC frz (own.map (·.2)) it g t e) σ H fun v H1 => D.nx (σ.set i (some v)) H1 := by
      refine ⟨B, φ, S, R, (RunS.expr (g := fun d S1 E => E.nx ⟨S1.σ.set i (some d), S1.W⟩) run).imp ?_⟩
      rintro v H1 ⟨d, B1, φ1, S1, e1, R1, r1, E, h, hn, _⟩
      exact hn _ _ _ _ _ h (Ext.refl _ _) (R1.set r1)
    exact lc_ok σ H _ h
end

/-! ### functions -/
abbrev FC := List D → Wd → (D → Wd → Prop) → (Exn → Wd → Prop) → Prop
def spOf (K : PySem.W.Frag) (c : FC) : Sp := fun vs H Q E => ∃ B φ W ds P X, RelW K B φ W H ∧ Reps K B φ ds vs ∧ c ds W P X ∧
  (∀ d W' v B' φ' H', P d W' → Ext B φ B' φ' → RelW K B' φ' W' H' → Rep K B' φ' d v → Q v H') ∧
  ∀ x W' cls dd B' φ' H', X x W' → Ext B φ B' φ' → RelW K B' φ' W' H' → RepX K B' φ' x cls dd → E cls dd H'
/-- what a return may hand on: as it is, or frozen, or a list of one's own; what was made meanwhile is let go -/
def Done (W : Wd) (P : D → Wd → Prop) (d : D) (W1 : Wd) : Prop :=
  P d W1 ∨ (∃ W0 g, W1 = W0 ++ g ∧ W0.length = W.length ∧ Cl W W0 ∧ ((d.bel W.length = true ∧ P d W0) ∨
    ∃ k l, d = .hnd k ∧ W.length ≤ k ∧ W1[k]? = some (.lst l) ∧ D.bels W.length l = true ∧ (P (.lst l) W0 ∨ P (.hnd W.length) (W0 ++ [.lst l]))))
def Exn.bel (n : Nat) (x : Exn) : Bool := match x.fs with
  | none => true
  | some fs => D.bels n (fs.map (·.2))
def DoneX (W : Wd) (X : Exn → Wd → Prop) (x : Exn) (W1 : Wd) : Prop := X x W1 ∨ ∃ W0 g, W1 = W0 ++ g ∧ W0.length = W.length ∧ Cl W W0 ∧ x.bel W.length = true ∧ X x W0
/-- .. a list of one's own, the others let go: the handle moves up -/
theorem RelW.ownDrop {K : PySem.W.Frag} {B B1 H H1 : Hp} {φ ψ : List Addr} {W W0 g : Wd} {k : Nat} {l : List D} {a : Addr} (R : RelW K B φ W H) (R1 : RelW K B1 (φ ++ ψ) (W0 ++ g) H1) (hl : W0.length = W.length) (c : Cl W W0)
    (hk : φ.length ≤ k) (ha : (φ ++ ψ)[k]? = some a) (hg : (W0 ++ g)[k]? = some (.lst l)) (hb : D.bels φ.length l = true) :
    RelW K B1 (φ ++ [a]) (W0 ++ [.lst l]) H1 := by
  obtain ⟨xs, hx, r⟩ := R1.obj k a _ ha hg
  have R2 := R.drop R1 hl c
  have hna : a ∉ φ := fun hb => by
    obtain ⟨n, hn⟩ := List.mem_iff_getElem?.mp hb
    have h1 : (φ ++ ψ)[n]? = some a := by rw [List.getElem?_append_left (List.getElem?_eq_some_iff.mp hn).1]; exact hn
    obtain ⟨i1, e1⟩ := List.getElem?_eq_some_iff.mp h1
    obtain ⟨i2, e2⟩ := List.getElem?_eq_some_iff.mp ha
    have := (List.getElem_inj R1.nd).mp (e1.trans e2.symm)
    have := (List.getElem?_eq_some_iff.mp hn).1
    omega
  have e : Ext B1 φ B1 (φ ++ [a]) := ext_add [a]
  refine ⟨R1.sub, by simp [R2.len], fun n b o hn ho => ?_, ?_, fun b hb => ?_⟩
  · by_cases hlt : n < φ.length
    · rw [List.getElem?_append_left hlt] at hn
      rw [List.getElem?_append_left (by rw [← R2.len]; exact hlt)] at ho
      exact (R2.obj n b o hn ho).mono e
    · have h1 : n < (φ ++ [a]).length := (List.getElem?_eq_some_iff.mp hn).1
      have h2 : n = φ.length := by simp at h1; omega
      subst h2
      rw [List.getElem?_append_right (Nat.le_refl _)] at hn
      rw [R2.len, List.getElem?_append_right (Nat.le_refl _)] at ho
      simp at hn ho
      subst hn; subst ho
      exact ⟨xs, hx, (Reps.narrow l xs hb r).mono e _ _⟩
  · rw [List.nodup_append]
    refine ⟨R2.nd, by simp, fun b hb d hd => ?_⟩
    simp at hd; subst hd
    exact ne_mem hb hna
  · rcases List.mem_append.mp hb with q | q
    · exact R2.off b q
    · simp at q; subst q
      exact R1.off b (List.mem_of_getElem? ha)
theorem done_ok {K : PySem.W.Frag} {B B1 H H1 : Hp} {φ φ1 : List Addr} {W W1 : Wd} {P : D → Wd → Prop} {Q : VK} {d : D} {v : V} (R : RelW K B φ W H) (hq : ∀ d W' v B' φ' H', P d W' → Ext B φ B' φ' → RelW K B' φ' W' H' → Rep K B' φ' d v → Q v H')
    (h : Done W P d W1) (e : Ext B φ B1 φ1) (R1 : RelW K B1 φ1 W1 H1) (r : Rep K B1 φ1 d v) : Q v H1 := by
  rcases h with h | ⟨W0, g, rfl, hl, c, h⟩
  · exact hq _ _ _ _ _ _ h e R1 r
  · obtain ⟨eB, ψ, rfl⟩ := id e
    have e0 : Ext B φ B1 φ := ⟨eB, [], by simp⟩
    rcases h with ⟨hb, hp⟩ | ⟨k, l, rfl, hk, hg, hb, h⟩
    · rw [← R.len] at hb
      exact hq _ _ _ _ _ _ hp e0 (R.drop R1 hl c) (Rep.narrow d v hb r)
    · simp only [Rep] at r
      obtain ⟨a, ha, rfl⟩ := r
      rw [← R.len] at hk hb
      rcases h with hp | hp
      · obtain ⟨B2, e2, w2, r2⟩ := R.frzDrop R1 hl c hk ha hg hb
        exact hq _ _ _ _ _ _ hp (e0.trans e2) w2 r2
      · exact hq _ _ _ _ _ _ hp (e0.trans (ext_add [a])) (R.ownDrop R1 hl c hk ha hg hb) (by
          simp only [Rep]
          exact ⟨a, by rw [← R.len, List.getElem?_append_right (Nat.le_refl _)]; simp, rfl⟩)
theorem doneX_ok {K : PySem.W.Frag} {B B1 H H1 : Hp} {φ φ1 : List Addr} {W W1 : Wd} {X : Exn → Wd → Prop} {E : XK} {x : Exn} {cls : Value} {dd : Option Addr} (R : RelW K B φ W H)
    (hq : ∀ x W' cls dd B' φ' H', X x W' → Ext B φ B' φ' → RelW K B' φ' W' H' → RepX K B' φ' x cls dd → E cls dd H')
    (h : DoneX W X x W1) (e : Ext B φ B1 φ1) (R1 : RelW K B1 φ1 W1 H1) (r : RepX K B1 φ1 x cls dd) : E cls dd H1 := by
  rcases h with h | ⟨W0, g, rfl, hl, c, hb, h⟩
  · exact hq _ _ _ _ _ _ _ h e R1 r
  · obtain ⟨eB, ψ, rfl⟩ := id e
    have e0 : Ext B φ B1 φ := ⟨eB, [], by simp⟩
    refine hq _ _ _ _ _ _ _ h e0 (R.drop R1 hl c) ?_
    obtain ⟨xc, fs⟩ := x
    obtain ⟨h1, h2⟩ := r
    refine ⟨h1, ?_⟩
    cases fs with
    | none => exact h2
    | some fs =>
      obtain ⟨dd', fvs, a, b, c', g'⟩ := h2
      have hb' : D.bels W.length (fs.map (·.2)) = true := hb
      rw [← R.len] at hb'
      exact ⟨dd', fvs, a, b, c', Reps.narrow _ _ hb' g'⟩
def startA (n : Nat) (ds : List D) : List (Option D) := ds.map some ++ List.replicate (n - ds.length) none
def fEnds (W : Wd) (P : D → Wd → Prop) (X : Exn → Wd → Prop) : AEnds := ⟨fun S => Done W P .non S.W, fun d S => Done W P d S.W, fun _ => False, fun _ => False, fun x S => DoneX W X x S.W⟩
theorem start_rel {K : PySem.W.Frag} {B H : Hp} {φ : List Addr} {W : Wd} {ds : List D} {vs : List V} {N : List Str} (R : RelW K B φ W H) (r : Reps K B φ ds vs) : Rel K B φ ⟨startA N.length ds, W⟩ (L2.start N vs) H := by
  refine ⟨R, by unfold startA L2.start; simp [r.length], fun i d h => ?_⟩
  unfold startA at h
  have hi : i < ds.length := by
    by_cases hi : i < ds.length
    · exact hi
    · rw [List.getElem?_append_right (by simpa using hi), List.getElem?_replicate] at h
      split at h <;> simp at h
  rw [List.getElem?_append_left (by simpa using hi), List.getElem?_map, Option.map_eq_some_iff] at h
  obtain ⟨d', h1, h2⟩ := h
  cases h2
  obtain ⟨v, hv, rv⟩ := r.get h1
  refine ⟨v, ?_, rv⟩
  unfold L2.start
  rw [List.getElem?_append_left (by rw [List.length_map, r.length]; exact hi), List.getElem?_map, hv]
  rfl
section
variable {P : Program} {w : World} {K : PySem.W.Frag} {mg : Str → Option Value} {base : Heap}
abbrev bodyCx (P : Program) (w : World) (K : PySem.W.Frag) (mg : Str → Option Value) (base : Heap) (N : List Str) (qual : Str) (st : Stmt) (f : Addr) (cdv : Value) (A : Around) (outer : List Env) (s : Shared) (H : Hp) (E : XK) : Cx :=
  cxOf (L2.CX P w) P w K mg base N qual (defScope st) f cdv A outer s H E
abbrev wOf (E : XK) : WX := fun cls d _ H => E cls d H
theorem fnD {x qual : Str} {st : Stmt} {f : Addr} {fd : FuncData} {N ps : List Str} {k : Nat} {c : FC} {fb : MS} (F : FunD K x qual (defArgs st) (defBody st) (defScope st) [] [] f fd) (S : FnScope N ps (defScope st)) (hl : ∀ ds W P X, c ds W P X → ds.length = ps.length)
    (body : ∀ (cdv : Value) (A : Around) (outer : List Env) (s : Shared) (H : Hp) (E : XK), Room k (bodyCx P w K mg base N qual st f cdv A outer s H E).A → Takes (bodyCx P w K mg base N qual st f cdv A outer s H E) (wOf E) →
      PSs (bodyCx P w K mg base N qual st f cdv A outer s H E) (defBody st) (tS K (wOf E) fb))
    (pure : ∀ ds W P X, c ds W P X → fb ⟨startA N.length ds, W⟩ (fEnds W P X)) : FnOk P w K mg base (L2.CX P w) (k + 1) f fd ps (spOf K c) := by
  refine F.ok S (fun vs H Q E h => ?_) (fun cdv A outer s H vs Q E hr h => ⟨_, body cdv A outer s H E hr (takes_of rfl rfl rfl rfl), ?_⟩)
  · obtain ⟨B, φ, W, ds, P, X, R, r, h, _⟩ := h
    rw [r.length]
    exact hl _ _ _ _ h
  · obtain ⟨B, φ, W, ds, P, X, R, r, h, h1, h2⟩ := h
    refine ⟨B, φ, _, start_rel R r, _, pure ds W P X h, ?_, ?_, ?_, ?_, ?_⟩
    · intro S' σ' B' φ' H' q e R'
      exact done_ok R h1 q e R'.w (by simp only [Rep])
    · intro a S' σ' v B' φ' H' q e R' r'
      exact done_ok R h1 q e R'.w r'
    · intro S' σ' B' φ' H' q
      exact q.elim
    · intro S' σ' B' φ' H' q
      exact q.elim
    · intro x S' σ' cls d B' φ' H' q e R' r'
      exact doneX_ok R h2 q e R'.w r'
end
/-- a weaker (or another) promise -/
theorem FnOk.cons {P : Program} {w : World} {K : PySem.W.Frag} {mg : Str → Option Value} {base : Heap} {CX : CXT} {k : Nat} {f : Addr} {fd : FuncData} {ps : List Str} {c c' : FC} (F : FnOk P w K mg base CX k f fd ps (spOf K c))
    (h : ∀ ds W P X, c' ds W P X → c ds W P X) : FnOk P w K mg base CX k f fd ps (spOf K c') :=
  F.imp fun vs H Q E ⟨B, φ, W, ds, P, X, R, r, q, h1, h2⟩ => ⟨B, φ, W, ds, P, X, R, r, h ds W P X q, h1, h2⟩

/-! ### calls -/
def mCall (c : FC) (ga : M (List D)) : M D := M.bind ga fun ds S P X => c ds S.W (fun d W => P d ⟨S.σ, W⟩) (fun x W => X x ⟨S.σ, W⟩)
section
variable {X : Cx} {WE : WX} {x m : Str} {p pos apos : Pos} {e o : Expr} {es : List Expr} {ga : M (List D)} {fo : M D}
theorem spOf_of {K : PySem.W.Frag} {c : FC} {B H : Hp} {φ : List Addr} {S : AS} {σ : L2.St} {ds : List D} {vs : List V} {Q : VK} (R : Rel K B φ S σ H) (r : Reps K B φ ds vs)
    (q : RRun K WE (fun S P X => c ds S.W (fun d W => P d ⟨S.σ, W⟩) (fun x W => X x ⟨S.σ, W⟩)) B φ S σ H Q) : spOf K c vs H Q (L2.WE WE σ) := by
  obtain ⟨P, Xx, h1, h2, h3⟩ := q
  refine ⟨B, φ, S.W, ds, _, _, R.w, r, h1, ?_, ?_⟩
  · intro d W' v B' φ' H' hp e w r'
    exact h2 _ _ _ _ _ _ hp e (R.ext e w) r'
  · intro x W' cls dd B' φ' H' hp e w r'
    exact h3 _ _ _ _ _ _ _ hp e (R.ext e w) r'
theorem de_call {k : Nat} {f : Addr} {fd : FuncData} {ps : List Str} {c : FC} (F : FnOk X.prog X.w X.K X.mg X.base (L2.CX X.prog X.w) k f fd ps (spOf X.K c)) (hr : Room k X.A) (hm : X.mg x = some (.ref f)) (hk : PySem.W.keepIn X.K (.ref f) = true) (hb : Binds X.K fd ps []) (tk : Takes X WE)
    (ha : PA X (e :: es) (tA X.K WE ga)) (hg : Gl X x := by rfl) (hdb : (x == ("__debug__" : Str)) = false := by decide) (he : starEach (e :: es) X.env = (false, eval e X.env) :: starEach es X.env := by rfl) (hpl : (backTo pos (starEach es X.env)).any (·.1) = false := by rfl) :
    PE X (.Call (.Name x p) (e :: es) [] pos) (tE X.K WE (mCall c ga)) :=
  PE.weak (pe_callSD (dvs := []) F hr hg hm hk hb .nil (passAt tk) ha hdb he hpl) fun σ H Q h => by
    obtain ⟨B, φ, S, R, run⟩ := h
    refine ⟨B, φ, S, R, run.bind.imp ?_⟩
    rintro xs H1 ⟨ds, B1, φ1, S1, e1, R1, r1, run1⟩
    rw [List.append_nil]
    exact spOf_of R1 r1 run1
/-- o.m(..), by the class of the receiver -/
structure MethOk (X : Cx) (k : Nat) (m : Str) (C : Addr) (c : FC) : Prop where
  ex : ∃ f fd ps, Cls X.K C ∧ Meth X.K C m f ∧ FnOk X.prog X.w X.K X.mg X.base (L2.CX X.prog X.w) k f fd ps (spOf X.K c) ∧ Binds X.K fd ps []
def dMeth (m : Str) (tbl : List (Addr × FC)) (ga : M (List D)) (d : D) : M D := fun S P X => match d with
  | .hnd n => (match S.W[n]? with
    | some (.ins C fs) => fs.lookup m = none ∧ ∃ c, (C, c) ∈ tbl ∧ (M.bind ga fun ds S1 P X => c (.hnd n :: ds) S1.W (fun d W => P d ⟨S1.σ, W⟩) (fun x W => X x ⟨S1.σ, W⟩)) S P X
    | _ => False)
  | _ => False
def mMeth (m : Str) (tbl : List (Addr × FC)) (fo : M D) (ga : M (List D)) : M D := M.bind fo (dMeth m tbl ga)
theorem lookup_none {fs : List (Str × D)} {m : Str} : ∀ {fvs : List (Str × V)}, fvs.map (·.1) = fs.map (·.1) → fs.lookup m = none → fvs.lookup m = none := fun {fvs} h q => by
  induction fs generalizing fvs with
  | nil =>
    simp at h
    subst h
    rfl
  | cons p fs ih =>
    cases fvs with
    | nil => rfl
    | cons p2 fvs =>
      simp only [List.map_cons, List.cons.injEq] at h
      rw [List.lookup_cons] at q ⊢
      rw [h.1]
      split at q
      · cases q
      · rename_i e
        exact ih h.2 q
theorem meth_core {k : Nat} {C : Addr} {c : FC} (M0 : MethOk X k m C c) (hr : Room k X.A) (tk : Takes X WE) {pins : List (Addr × Obj)} {s1 : Shared} {σ : L2.St} {H1 : Hp} {B1 : Hp} {φ1 : List Addr} {S1 : AS} {Q : VK} {n : Nat} {fs : List (Str × D)} {u : Value} {xv : V}
    (I1 : Inv X pins σ H1 s1) (R1 : Rel X.K B1 φ1 S1 σ H1) (r1 : Rep X.K B1 φ1 (.hnd n) xv) (rx : RelV xv u) (hw : S1.W[n]? = some (.ins C fs)) (hl : fs.lookup m = none)
    (run : RRun X.K WE (M.bind ga fun ds S1 P X => c (.hnd n :: ds) S1.W (fun d W => P d ⟨S1.σ, W⟩) (fun x W => X x ⟨S1.σ, W⟩)) B1 φ1 S1 σ H1 Q) :
    ∃ a dx fvs f, xv = .ref a ∧ u = .ref a ∧ H1 a = some (.ins C dx fvs) ∧ fvs.lookup m = none ∧ Cls X.K C ∧ Meth X.K C m f ∧
      tA X.K WE ga σ H1 fun vs H2 => ∀ s2 us pins2, Inv X pins2 σ H2 s2 → Vals vs us → wpAny (model X.prog X.w) X.A (call (.ref f) (.ref a :: us)) (EP X pins2 σ Q) X.xe s2 := by
  obtain ⟨f, fd, ps, hc, hm, F, hb⟩ := M0.ex
  have r1' := r1
  simp only [Rep] at r1'
  obtain ⟨a, ha, rfl⟩ := r1'
  obtain ⟨a', ha', dx, fvs, hx, hk, hv⟩ := R1.w.get hw
  rw [ha] at ha'; cases ha'
  refine ⟨a, dx, fvs, f, rfl, rx, hx, lookup_none hk hl, hc, hm, B1, φ1, S1, R1, run.bind.imp ?_⟩
  rintro vs H2 ⟨ds, B2, φ2, S2, e2, R2, r2, run2⟩ s2 us pins2 I2 rv
  have sp : spOf X.K c (.ref a :: vs) H2 Q (L2.WE WE σ) := spOf_of R2 (Reps.cons (r1.mono e2 _ _) r2) run2
  exact run_fnSD (dvs := []) (vs := .ref a :: vs) (us := .ref a :: us) F hr hb .nil (passAt tk σ) I2 (.cons rfl rv) (by rw [List.append_nil]; exact sp)
theorem de_meth {k : Nat} {tbl : List (Addr × FC)} {pl : Sem Bool} (ho : PE X o (tE X.K WE fo)) (M0 : ∀ p ∈ tbl, MethOk X k m p.1 p.2) (hr : Room k X.A) (tk : Takes X WE) (ha : PA X (e :: es) (tA X.K WE ga))
    (hst : starEach (e :: es) X.env = (false, eval e X.env) :: starEach es X.env := by rfl) (hpl : (backTo pos (starEach es X.env)).any (·.1) = false := by rfl)
    (ht : eval (.Call (.Attribute o m apos) (e :: es) [] pos) X.env = (do
      let ov ← eval o X.env
      standAt apos.atName
      let (f, first) ← holding [ov] (getMethod ov m pl)
      callWith pos f first (backTo pos (starEach (e :: es) X.env)) (backToKw pos (keywordEach [] X.env))) := by rfl) :
    PE X (.Call (.Attribute o m apos) (e :: es) [] pos) (tE X.K WE (mMeth m tbl fo ga)) := by
  refine ⟨fun pins s σ H Q I h => ?_⟩
  obtain ⟨B, φ, S, R, run⟩ := h
  refine PySem.W.methodCall_KW (pl := pl) (thn (ho.run pins s σ H _ I ⟨B, φ, S, R, run.bind⟩) fun u s1 ⟨x, H1, I1, rx, d, B1, φ1, S1, e1, R1, r1, P, Xx, h1, h2, h3⟩ => ?_) ht
  unfold dMeth at h1
  split at h1
  · rename_i n
    split at h1
    · rename_i C fs hw
      obtain ⟨hl, c, hc, h1⟩ := h1
      obtain ⟨a, dx, fvs, f, rfl, rfl, hx, hlv, hcl, hm, q⟩ := meth_core (M0 _ hc) hr tk I1 R1 r1 rx hw hl ⟨P, Xx, h1, h2, h3⟩
      refine getmeth_ok I1 hx hcl hm hlv ?_
      refine PySem.W.callWith_K (first := [.ref a]) (h₀ := X.base) I.ok.mod.kin hm.kp (thn (ha.run pos pins s1 σ H1 _ I1 q) fun us s2 ⟨vs, H2, I2, r, q2⟩ => ⟨I2.kIn, ?_⟩) hst hpl
      exact q2 s2 us pins I2 r
    · exact h1.elim
  · exact h1.elim
theorem de_meth0 {k : Nat} {tbl : List (Addr × FC)} {pl : Sem Bool} (ho : PE X o (tE X.K WE fo)) (M0 : ∀ p ∈ tbl, MethOk X k m p.1 p.2) (hr : Room k X.A) (tk : Takes X WE)
    (ht : eval (.Call (.Attribute o m apos) [] [] pos) X.env = (do
      let ov ← eval o X.env
      standAt apos.atName
      let (f, first) ← holding [ov] (getMethod ov m pl)
      callWith pos f first (backTo pos (starEach [] X.env)) (backToKw pos (keywordEach [] X.env))) := by rfl) :
    PE X (.Call (.Attribute o m apos) [] [] pos) (tE X.K WE (mMeth m tbl fo mNil)) := by
  refine ⟨fun pins s σ H Q I h => ?_⟩
  obtain ⟨B, φ, S, R, run⟩ := h
  refine PySem.W.methodCall_KW (pl := pl) (thn (ho.run pins s σ H _ I ⟨B, φ, S, R, run.bind⟩) fun u s1 ⟨x, H1, I1, rx, d, B1, φ1, S1, e1, R1, r1, P, Xx, h1, h2, h3⟩ => ?_) ht
  unfold dMeth at h1
  split at h1
  · rename_i n
    split at h1
    · rename_i C fs hw
      obtain ⟨hl, c, hc, h1⟩ := h1
      obtain ⟨a, dx, fvs, f, rfl, rfl, hx, hlv, hcl, hm, q⟩ := meth_core (M0 _ hc) hr tk I1 R1 r1 rx hw hl ⟨P, Xx, h1, h2, h3⟩
      refine getmeth_ok I1 hx hcl hm hlv ?_
      refine PySem.W.callWith_K0 (first := [.ref a]) I1.kIn hm.kp ?_
      have hq := (da_nil (X := X) (WE := WE)).run pos pins s1 σ H1 _ I1 q
      obtain ⟨B2, φ2, S2, R2, P2, X2, g1, g2, g3⟩ := q
      have : ∀ s2 us pins2, Inv X pins2 σ H1 s2 → Vals [] us → wpAny (model X.prog X.w) X.A (call (.ref f) (.ref a :: us)) (EP X pins2 σ Q) X.xe s2 := g2 [] S2 [] B2 φ2 H1 (show P2 [] S2 from g1) (Ext.refl _ _) R2 Reps.nil
      exact this s1 [] pins I1 .nil
    · exact h1.elim
  · exact h1.elim
/-- fields -/
def dFld (f : Str) (d : D) : M D := fun S P _ => match d with
  | .hnd n => (match S.W[n]? with
    | some (.ins C fs) => (match fs.lookup f with
      | some v => P v S
      | none => False)
    | _ => False)
  | _ => False
theorem lookup_some {K : PySem.W.Frag} {B : Hp} {φ : List Addr} {f : Str} {d : D} : ∀ {fs : List (Str × D)} {fvs : List (Str × V)}, fvs.map (·.1) = fs.map (·.1) → Reps K B φ (fs.map (·.2)) (fvs.map (·.2)) → fs.lookup f = some d → ∃ v, fvs.lookup f = some v ∧ Rep K B φ d v
  | [], fvs, h, r, q => by simp at q
  | p :: fs, [], h, r, q => by simp at h
  | p :: fs, p2 :: fvs, h, r, q => by
    simp only [List.map_cons, List.cons.injEq] at h
    obtain ⟨x, xs, e, r1, r2⟩ := r.cons_inv
    simp only [List.map_cons, List.cons.injEq] at e
    rw [List.lookup_cons] at q ⊢
    rw [h.1]
    split at q
    · cases q
      rename_i e2
      exact ⟨_, rfl, by rw [e.1]; exact r1⟩
    · rename_i e2
      exact lookup_some h.2 (by rw [e.2]; exact r2) q
theorem de_fld {f : Str} {Cs : List Addr} (ho : PE X o (tE X.K WE fo)) (hcs : ∀ C ∈ Cs, Cls X.K C ∧ NoAttr X.K C f) (hb : attributeBase o f X.env (eval o X.env) = eval o X.env := by rfl) :
    PE X (.Attribute o f pos) (tE X.K WE (M.bind fo fun d S P Xx => (∀ n C fs, d = .hnd n → S.W[n]? = some (.ins C fs) → C ∈ Cs) ∧ dFld f d S P Xx)) :=
  PE.weak (pe_fld ho hb) fun σ H Q h => by
    obtain ⟨B, φ, S, R, run⟩ := h
    refine ⟨B, φ, S, R, run.bind.imp ?_⟩
    rintro x H1 ⟨d, B1, φ1, S1, e1, R1, r1, P, Xx, ⟨hC, h1⟩, h2, h3⟩
    unfold dFld at h1
    split at h1
    · rename_i n
      split at h1
      · rename_i C fs hw
        split at h1
        · rename_i v hv
          simp only [Rep] at r1
          obtain ⟨a, ha, rfl⟩ := r1
          obtain ⟨a', ha', dx, fvs, hx, hk, hr⟩ := R1.w.get hw
          rw [ha] at ha'; cases ha'
          obtain ⟨v', hv', rv'⟩ := lookup_some hk hr hv
          obtain ⟨c1, c2⟩ := hcs C (hC n C fs rfl hw)
          exact ⟨a, C, dx, fvs, v', rfl, hx, c1, c2, hv', Run.fin h2 h1 R1 rv'⟩
        · exact h1.elim
      · exact h1.elim
    · exact h1.elim
end
end Tw

set_option Elab.async false
set_option linter.all false
set_option maxRecDepth 100000
set_option maxHeartbeats 4000000
namespace Tw
open PySem PySem.Spec PyProof.Rows L2

/-! ### the facts of a text, by places in two lists -/
structure FT (fa : List He.Fa) (fn : List He.DefD) (K : PySem.W.Frag) (mg : Str → Option Value) : Prop where
  says : He.SaysD fa fn K
  heap : ∃ h : Heap, K.In h ∧ h.Ns mainGlobals mg
section
variable {fa : List He.Fa} {fn : List He.DefD} {K : PySem.W.Frag} {mg : Str → Option Value}
theorem FT.fr (T : FT fa fn K mg) (i : Nat) {x : Str} (h : fa[i]? = some (.free x) := by rfl) : mg x = none := let ⟨_, X, G⟩ := T.heap; He.free_ok X G (T.says.fact i h)
theorem FT.gl (T : FT fa fn K mg) (i : Nat) {x : Str} (h : fa[i]? = some (.glo x) := by rfl) : mg x = some (.ref (He.ga K x)) := let ⟨_, X, G⟩ := T.heap; He.glo_ok X G (T.says.fact i h)
theorem FT.int (T : FT fa fn K mg) (i : Nat) {x : Str} {v : Int} (h : fa[i]? = some (.int x v) := by rfl) : ∃ t, mg x = some (.int v t) := let ⟨_, X, G⟩ := T.heap; He.int_ok X G (T.says.fact i h)
theorem FT.str (T : FT fa fn K mg) (i : Nat) {x v : Str} (h : fa[i]? = some (.str x v) := by rfl) : ∃ t, mg x = some (.str v t) := let ⟨_, X, G⟩ := T.heap; He.str_ok X G (T.says.fact i h)
/-- a def of the module keeps its promise -/
structure FOk (P : Program) (w : World) (K : PySem.W.Frag) (mg : Str → Option Value) (base : Heap) (k : Nat) (x : Str) (c : FC) : Prop where
  ex : ∃ f fd ps, mg x = some (.ref f) ∧ PySem.W.keepIn K (.ref f) = true ∧ Binds K fd ps [] ∧ FnOk P w K mg base (L2.CX P w) k f fd ps (spOf K c)
theorem FT.fok {P : Program} {w : World} {base : Heap} (T : FT fa fn K mg) (i j : Nat) {x : Str} {d : He.DefD} {k : Nat} {c : FC} {ps : List Str} (hi : fn[i]? = some d) (hj : fa[j]? = some (.glo x)) (ha : d.at_ = (x, none))
    (hd : d.dfl = []) (hk : d.kwd = [])
    (hb : ∀ fd, FunD K d.name d.qual d.params d.body d.scope [] [] (He.ga K x) fd → Binds K fd ps [])
    (hF : ∀ fd, FunD K d.name d.qual d.params d.body d.scope [] [] (He.ga K x) fd → FnOk P w K mg base (L2.CX P w) k (He.ga K x) fd ps (spOf K c)) : FOk P w K mg base k x c := by
  obtain ⟨fd, F⟩ := T.says.def_ i hi
  have e1 : d.dvs K = [] := by unfold He.DefD.dvs; rw [hd]; rfl
  have e2 : d.kws K = [] := by unfold He.DefD.kws; rw [hk]; rfl
  have e3 : He.fAd K d.at_ = He.ga K x := by rw [ha]; rfl
  rw [e1, e2, e3] at F
  exact ⟨⟨_, fd, ps, T.gl j hj, F.kp, hb fd F, hF fd F⟩⟩
end
section
variable {X : Cx} {WE : WX} {x : Str} {p pos : Pos} {e : Expr} {es : List Expr} {ga : M (List D)}
theorem dc {j k : Nat} {c : FC} (F : FOk X.prog X.w X.K X.mg X.base j x c) (hr : Room k X.A) (tk : Takes X WE) (ha : PA X (e :: es) (tA X.K WE ga)) (hjk : j ≤ k := by decide) (hg : Gl X x := by rfl) (hdb : (x == ("__debug__" : Str)) = false := by decide)
    (he : starEach (e :: es) X.env = (false, eval e X.env) :: starEach es X.env := by rfl) (hpl : (backTo pos (starEach es X.env)).any (·.1) = false := by rfl) : PE X (.Call (.Name x p) (e :: es) [] pos) (tE X.K WE (mCall c ga)) := by
  obtain ⟨f, fd, ps, h1, h2, h3, h4⟩ := F.ex
  exact de_call h4 (hr.mono hjk) h1 h2 h3 tk ha hg hdb he hpl
theorem dgI {i : Int} (h : ∃ t, X.mg x = some (.int i t)) (hg : Gl X x := by rfl) (hd : (x == ("__debug__" : Str)) = false := by decide) : PE X (.Name x pos) (tE X.K WE (mC (.int i))) := let ⟨_, q⟩ := h; d_globI q hg hd
theorem dgS {i : Str} (h : ∃ t, X.mg x = some (.str i t)) (hg : Gl X x := by rfl) (hd : (x == ("__debug__" : Str)) = false := by decide) : PE X (.Name x pos) (tE X.K WE (mC (.str i))) := let ⟨_, q⟩ := h; d_globS q hg hd
end
theorem hu64 {k : Nat} {A : Around} (hr : Room k A) : A.units + 64 < cLine := by have := hr.un; omega
/-- no exception leaves: the law's own end -/
theorem cx_none (P : Program) (w : World) (H : Hp) (s : Shared) (e : Value) (s' : Shared) (h : L2.CX P w [] H s (fun _ _ _ => False) e s') : False := by
  obtain ⟨_, _, _, _, _, _, _, _, _, _, _, _, z⟩ := h
  exact z
/-- the law's promise: from a script, True -/
def cLaw : FC := fun ds W P _ => ∃ ns : List Int, ds = [.sq (ns.map D.int)] ∧ W = [] ∧ ns.length ≤ 63 ∧ ∀ W', P (.bl true) W'
theorem ints_reps {K : PySem.W.Frag} {B : Hp} {φ : List Addr} : ∀ ns : List Int, Reps K B φ (ns.map D.int) (ns.map V.int)
  | [] => Reps.nil
  | n :: ns => Reps.cons (by simp only [Rep]) (ints_reps ns)
theorem law_sp {K : PySem.W.Frag} {H : Hp} {a : Addr} {ns : List Int} (hl : ns.length ≤ 63) (hS : SqL K H a (ns.map V.int)) (hO : ∀ (a : Addr) (o : HO), H a = some o → H a = some o) : spOf K cLaw [.ref a] H (fun v _ => v = .bl true) fun _ _ _ => False := by
  refine ⟨H, [], [], [.sq (ns.map D.int)], fun d _ => d = .bl true, fun _ _ => False, ⟨fun a u h => .inl h, rfl, fun n a o h => by simp at h, List.nodup_nil, fun a h => by simp at h⟩, Reps.cons ?_ Reps.nil, ⟨ns, rfl, rfl, hl, fun _ => rfl⟩, ?_, ?_⟩
  · simp only [Rep]
    exact ⟨a, _, rfl, hS, ints_reps ns⟩
  · rintro d W' v B' φ' H' rfl _ _ r
    simpa only [Rep] using r
  · intro x W' cls dd B' φ' H' q
    exact q.elim
/-- a law, over a head by facts; what may be raised hangs on the world -/
theorem walk_ofX {l : PySem.W.OpenLaw} {n k : Nat} {q : Program} {loose : List Str} {XP : (Str → Option Value) → Heap → Prop} {YP : World → Heap → Prop} {d : DefRec} {CX : World → CXT} {x : Str}
    (hn : l.most = some n) (hn2 : n ≤ sizeLine) (hdf : d.params.defaults = []) (hr : Room k callerA)
    (F : ∀ (w : World) (mg : Str → Option Value) (fa : Addr) (h : Heap), YP w h → h.Ns mainGlobals mg → mg d.name = some (.ref fa) →
      ∃ (K : PySem.W.Frag) (fd : FuncData) (sp : Sp), K.In h ∧ (∀ (s : Shared) (u : Value), BindsTo s fd ⟨[u], []⟩ [(x, u)]) ∧
        (∀ (H : Hp) (a : Addr) (ns : List Int), ns.length ≤ n → SqL K H a (ns.map V.int) → sp [.ref a] H (fun v _ => v = .bl true) fun _ _ _ => False) ∧
        ∀ base : Heap, K.In base → base.Ns mainGlobals mg → FnOk l.prog w K mg base (CX w) k fa fd [x] sp)
    (hCX : ∀ (w : World) (H : Hp) (s : Shared) (e : Value) (s' : Shared), CX w [] H s (fun _ _ _ => False) e s' → False) :
    PySem.W.WalkO q loose XP YP l.row.toRowW d [] (fun f vs => PySem.call f vs) := by
  refine Att.attach_call hn hdf fun w s₀ s₁ mg mb fa o pm cd doc a vs ns G Y ho hd hcd hmg hobj hints hlen hg => ?_
  obtain ⟨K, fd, sp, KX, hb, hsp, hF⟩ := F w mg fa _ Y G.T.g hmg
  exact law_call KX G.T.g G.T.b G.T.builtins G.T.nolimit hg hobj hints (Nat.le_trans hlen hn2) hr hF hb (fun H hO hS => hsp H a ns hlen hS) fun H e s' => hCX w H s₁ e s'
/-- .. from the law's def -/
theorem law_end {fa : List He.Fa} {fn : List He.DefD} {l : PySem.W.OpenLaw} {k : Nat} {q : Program} {loose : List Str} {XP : (Str → Option Value) → Heap → Prop} {d : DefRec} {m i : Nat} {D : He.DefD}
    (hn : l.most = some 63) (hdf : d.params.defaults = []) (hr : Room k callerA) (hi : fn[i]? = some D) (ha : D.at_ = (("law" : Str), (none : Option Str))) (hd0 : D.dfl = []) (hd1 : D.kwd = []) (hnm : d.name = ("law" : Str))
    (hb : ∀ (K : PySem.W.Frag) (fd : FuncData), FunD K D.name D.qual D.params D.body D.scope [] [] (He.ga K "law") fd → ∀ (s : Shared) (u : Value), BindsTo s fd ⟨[u], []⟩ [("script", u)])
    (hF : ∀ (w : World) (K : PySem.W.Frag) (mg : Str → Option Value) (base : Heap), FT fa fn K mg → ∀ fd, FunD K D.name D.qual D.params D.body D.scope [] [] (He.ga K "law") fd → FnOk l.prog w K mg base (L2.CX l.prog w) k (He.ga K "law") fd ["script"] (spOf K cLaw))
    {j : Nat} (hj : fa[j]? = some (.glo "law")) : PySem.W.WalkO q loose XP (He.hookD m fa fn).says l.row.toRowW d [] (fun f vs => PySem.call f vs) := by
  refine walk_ofX (CX := fun w => L2.CX l.prog w) (x := "script") hn (by decide) hdf hr ?_ (fun w H s e s' h => cx_none l.prog w H s e s' h)
  intro w mg f h Y G hmg
  obtain ⟨K, KX, c⟩ := Y
  have T : FT fa fn K mg := ⟨c, h, KX, G⟩
  rw [hnm] at hmg
  have e := hmg.symm.trans (T.gl j hj)
  cases e
  obtain ⟨fd, F⟩ := c.def_ i hi
  have e1 : D.dvs K = [] := by unfold He.DefD.dvs; rw [hd0]; rfl
  have e2 : D.kws K = [] := by unfold He.DefD.kws; rw [hd1]; rfl
  have e3 : He.fAd K D.at_ = He.ga K "law" := by rw [ha]; rfl
  rw [e1, e2, e3] at F
  exact ⟨K, fd, spOf K cLaw, KX, hb K fd F, fun H a ns hl hS => law_sp hl hS fun _ _ z => z, fun base _ _ => hF w K mg base T fd F⟩
end Tw

set_option Elab.async false
set_option linter.all false
set_option maxRecDepth 100000
set_option maxHeartbeats 4000000
namespace Tw
open PySem PySem.Spec PyProof.Rows L2
section
variable {K : PySem.W.Frag} {WE : WX}
theorem opa_sub : OpA K WE (rI0 fun i j => .int (i - j)) dSub := opa_int0 fun _ _ _ _ => by simp only [Rep]
theorem opa_mul : OpA K WE (rI CMul fun i j => .int (i * j)) dMul := opa_int fun _ _ _ _ => by simp only [Rep]
theorem opa_mod : OpA K WE (rI (fun _ j => 0 < j) fun i j => .int (i % j)) dMod := opa_int fun _ _ _ _ => by simp only [Rep]
theorem opa_div : OpA K WE (rI CDivW fun i j => .int (i / j)) dDiv := opa_int fun _ _ _ _ => by simp only [Rep]
theorem opa_pow : OpA K WE (rI CPow fun i j => .int (i ^ j.toNat)) dPow := opa_int fun _ _ _ _ => by simp only [Rep]
theorem opa_lt : OpA K WE (rI0 fun i j => .bl (decide (i < j))) dLt := opa_int0 fun _ _ _ _ => by simp only [Rep]
theorem opa_le : OpA K WE (rI0 fun i j => .bl (decide (i ≤ j))) dLe := opa_int0 fun _ _ _ _ => by simp only [Rep]
theorem opa_gt : OpA K WE (rI0 fun i j => .bl (decide (j < i))) dGt := opa_int0 fun _ _ _ _ => by simp only [Rep]
theorem opa_ge : OpA K WE (rI0 fun i j => .bl (decide (j ≤ i))) dGe := opa_int0 fun _ _ _ _ => by simp only [Rep]
/-- is, of bools -/
def dIsB (neg : Bool) : Dop
  | .bl a, .bl b => fun S P _ => P (.bl (negb neg (decide (a = b)))) S
  | _, _ => fun _ _ _ => False
theorem opa_isB : OpA K WE (fun x y H Q => ∃ a b, x = .bl a ∧ y = .bl b ∧ Q (.bl (decide (a = b))) H) (dIsB false) := by
  intro B φ S σ H a b x y Q R ra rb q
  obtain ⟨P, Xx, h1, h2, h3⟩ := q
  unfold dIsB at h1
  split at h1
  · rename_i i j
    simp only [Rep] at ra rb
    exact ⟨i, j, ra, rb, Run.fin h2 h1 R (by simp only [Rep]; rfl)⟩
  · exact h1.elim
end

/-! ### methods of lists, called for what they do -/
section
variable {X : Cx} {WE : WX} {o e : Expr} {fo : M D} {ga : M (List D)} {apos cpos : Pos}
def MtA (K : PySem.W.Frag) (WE : WX) (T : String) (r : V → List V → Hp → VK → Prop) (g : D → List D → M D) : Prop :=
  ∀ (B : Hp) (φ : List Addr) (S : AS) (σ : L2.St) (H : Hp) (d : D) (ds : List D) (x : V) (vs : List V) (Q : VK), Rel K B φ S σ H → Rep K B φ d x → Reps K B φ ds vs → RRun K WE (g d ds) B φ S σ H Q → r x vs H Q
/-- what a receiver must be ahead of its arguments -/
def isLst (S : AS) (d : D) : Prop := ∃ l, rdL S.W d = some l
def isDct (S : AS) (d : D) : Prop := ∃ ks l, rdD S.W d = some (ks, l)
def isStr (_ : AS) (d : D) : Prop := ∃ z, d = .str z
def mMt (pre : AS → D → Prop) (g : D → List D → M D) (fo : M D) (ga : M (List D)) : M D := M.bind fo fun d S P X => pre S d ∧ (M.bind ga fun ds => g d ds) S P X
theorem ty_lst {K : PySem.W.Frag} {B H : Hp} {φ : List Addr} {S : AS} {σ : L2.St} {d : D} {x : V} (R : Rel K B φ S σ H) (r : Rep K B φ d x) (h : isLst S d) : tyV K "list" x H := by
  obtain ⟨l, e⟩ := h
  obtain ⟨p, xs, rfl, hp, _⟩ := rdL_ok R.w r e
  exact .inl ⟨rfl, xs, hp⟩
theorem ty_str {K : PySem.W.Frag} {B H : Hp} {φ : List Addr} {S : AS} {σ : L2.St} {d : D} {x : V} (R : Rel K B φ S σ H) (r : Rep K B φ d x) (h : isStr S d) : tyV K "str" x H := by
  obtain ⟨z, rfl⟩ := h
  simp only [Rep] at r
  subst r
  rfl
theorem tBM_of {K : PySem.W.Frag} {T : String} {r : V → List V → Hp → VK → Prop} {g : D → List D → M D} {pre : AS → D → Prop} (hp : ∀ {B H : Hp} {φ : List Addr} {S : AS} {σ : L2.St} {d : D} {x : V}, Rel K B φ S σ H → Rep K B φ d x → pre S d → tyV K T x H)
    (hr : MtA K WE T r g) (σ : L2.St) (H : Hp) (Q : VK) (h : tE K WE (mMt pre g fo ga) σ H Q) : tBM K T r (tE K WE fo) (tA K WE ga) σ H Q := by
  obtain ⟨B, φ, S, R, run⟩ := h
  refine ⟨B, φ, S, R, run.bind.imp ?_⟩
  rintro x H1 ⟨d, B1, φ1, S1, e1, R1, r1, P, Xx, ⟨h0, h1⟩, h2, h3⟩
  refine ⟨hp R1 r1 h0, B1, φ1, S1, R1, (Run.bind ⟨P, Xx, h1, h2, h3⟩).imp ?_⟩
  rintro vs H2 ⟨ds, B2, φ2, S2, e2, R2, r2, run2⟩
  exact hr B2 φ2 S2 σ H2 d ds x vs Q R2 (r1.mono e2 _ _) r2 run2
theorem tBM0_of {K : PySem.W.Frag} {T : String} {r : V → List V → Hp → VK → Prop} {g : D → List D → M D} {pre : AS → D → Prop} (hp : ∀ {B H : Hp} {φ : List Addr} {S : AS} {σ : L2.St} {d : D} {x : V}, Rel K B φ S σ H → Rep K B φ d x → pre S d → tyV K T x H)
    (hr : MtA K WE T r g) (σ : L2.St) (H : Hp) (Q : VK) (h : tE K WE (mMt pre g fo mNil) σ H Q) : tBM0 K T r (tE K WE fo) σ H Q := by
  obtain ⟨B, φ, S, R, run⟩ := h
  refine ⟨B, φ, S, R, run.bind.imp ?_⟩
  rintro x H1 ⟨d, B1, φ1, S1, e1, R1, r1, P, Xx, ⟨h0, h1⟩, h2, h3⟩
  exact ⟨hp R1 r1 h0, hr B1 φ1 S1 σ H1 d [] x [] Q R1 r1 Reps.nil ⟨P, Xx, h1, h2, h3⟩⟩
def gAppend (d : D) (ds : List D) : M D := fun S P _ => match d, ds with
  | .hnd n, [y] => (match S.W[n]? with
    | some (.lst l) => l.length < sizeLine ∧ P .non ⟨S.σ, S.W.set n (.lst (l ++ [y]))⟩
    | _ => False)
  | _, _ => False
theorem hnd_lst {K : PySem.W.Frag} {B H : Hp} {φ : List Addr} {W : Wd} {n : Nat} {x : V} {l : List D} (R : RelW K B φ W H) (r : Rep K B φ (.hnd n) x) (h : W[n]? = some (.lst l)) : ∃ a xs, x = .ref a ∧ φ[n]? = some a ∧ H a = some (.lst xs) ∧ Reps K B φ l xs := by
  simp only [Rep] at r
  obtain ⟨a, ha, rfl⟩ := r
  obtain ⟨a', ha', xs, hx, hr⟩ := R.get h
  rw [ha] at ha'; cases ha'
  exact ⟨a, xs, rfl, ha, hx, hr⟩
theorem ma_append : MtA X.K WE "list" rAppend gAppend := by
  intro B φ S σ H d ds x vs Q R r rs q
  obtain ⟨P, Xx, h1, h2, h3⟩ := q
  unfold gAppend at h1
  split at h1
  · rename_i n y
    split at h1
    · rename_i l hw
      obtain ⟨a, xs, rfl, ha, hx, hr⟩ := hnd_lst R.w r hw
      obtain ⟨v, rfl, rv⟩ := one_inv rs
      exact ⟨a, xs, v, rfl, rfl, hx, by rw [hr.length]; exact h1.1, h2 _ _ _ _ _ _ h1.2 (Ext.refl _ _) (R.ext (Ext.refl _ _) (R.w.put (o := .lst (l ++ [y])) ha ⟨_, upd_same, hr.append (Reps.cons rv Reps.nil)⟩)) (by simp only [Rep])⟩
    · exact h1.elim
  · exact h1.elim
def gExtend (d : D) (ds : List D) : M D := fun S P _ => match d, ds with
  | .hnd n, [y] => (match S.W[n]?, rdM S.W y with
    | some (.lst l), some m => l.length + m.length ≤ sizeLine ∧ P .non ⟨S.σ, S.W.set n (.lst (l ++ m))⟩
    | _, _ => False)
  | _, _ => False
theorem ma_extend : MtA X.K WE "list" rExtend gExtend := by
  intro B φ S σ H d ds x vs Q R r rs q
  obtain ⟨P, Xx, h1, h2, h3⟩ := q
  unfold gExtend at h1
  split at h1
  · rename_i n y
    split at h1
    · rename_i l m hw hm
      obtain ⟨a, xs, rfl, ha, hx, hr⟩ := hnd_lst R.w r hw
      obtain ⟨v, rfl, rv⟩ := one_inv rs
      obtain ⟨p, ys, rfl, hp, hr2⟩ := rdM_ok R.w rv hm
      exact ⟨a, p, xs, ys, rfl, rfl, hx, hp, by rw [hr.length, hr2.length]; exact h1.1, h2 _ _ _ _ _ _ h1.2 (Ext.refl _ _) (R.ext (Ext.refl _ _) (R.w.put (o := .lst (l ++ m)) ha ⟨_, upd_same, hr.append hr2⟩)) (by simp only [Rep])⟩
    · exact h1.elim
  · exact h1.elim
def gClear (d : D) (ds : List D) : M D := fun S P _ => match d, ds with
  | .hnd n, [] => (match S.W[n]? with
    | some (.lst l) => P .non ⟨S.σ, S.W.set n (.lst [])⟩
    | _ => False)
  | _, _ => False
theorem ma_clear : MtA X.K WE "list" rClear gClear := by
  intro B φ S σ H d ds x vs Q R r rs q
  obtain ⟨P, Xx, h1, h2, h3⟩ := q
  unfold gClear at h1
  split at h1
  · rename_i n
    split at h1
    · rename_i l hw
      obtain ⟨a, xs, rfl, ha, hx, hr⟩ := hnd_lst R.w r hw
      exact ⟨a, xs, rfl, rs.nil_inv, hx, h2 _ _ _ _ _ _ h1 (Ext.refl _ _) (R.ext (Ext.refl _ _) (R.w.put (o := .lst []) ha ⟨[], upd_same, Reps.nil⟩)) (by simp only [Rep])⟩
    · exact h1.elim
  · exact h1.elim
theorem de_bm {e0 : Expr} {T : String} {r : V → List V → Hp → VK → Prop} {g : D → List D → M D} {pre : AS → D → Prop} (h : PE X e0 (tBM X.K T r (tE X.K WE fo) (tA X.K WE ga))) (hp : ∀ {B H : Hp} {φ : List Addr} {S : AS} {σ : L2.St} {d : D} {x : V}, Rel X.K B φ S σ H → Rep X.K B φ d x → pre S d → tyV X.K T x H)
    (hr : MtA X.K WE T r g) : PE X e0 (tE X.K WE (mMt pre g fo ga)) := PE.weak h fun σ H Q q => tBM_of hp hr σ H Q q
theorem de_bm0 {e0 : Expr} {T : String} {r : V → List V → Hp → VK → Prop} {g : D → List D → M D} {pre : AS → D → Prop} (h : PE X e0 (tBM0 X.K T r (tE X.K WE fo))) (hp : ∀ {B H : Hp} {φ : List Addr} {S : AS} {σ : L2.St} {d : D} {x : V}, Rel X.K B φ S σ H → Rep X.K B φ d x → pre S d → tyV X.K T x H)
    (hr : MtA X.K WE T r g) : PE X e0 (tE X.K WE (mMt pre g fo mNil)) := PE.weak h fun σ H Q q => tBM0_of hp hr σ H Q q
/-- sep.join(list of texts) -/
def gJoin (d : D) (ds : List D) : M D := fun S P _ => match d, ds with
  | .str a, [y] => ∃ ys : List Str, rdL S.W y = some (ys.map D.str) ∧ (ys.map fun z => z.length).sum + ys.length * a.length ≤ 16777216 ∧ P (.str (Txt.join a ys)) S
  | _, _ => False
theorem reps_strs {K : PySem.W.Frag} {B : Hp} {φ : List Addr} : ∀ {ns : List Str} {xs : List V}, Reps K B φ (ns.map D.str) xs → xs = ns.map V.str
  | [], xs, h => by rw [h.nil_inv]; rfl
  | n :: ns, xs, h => by
    obtain ⟨x, r, rfl, h1, t⟩ := h.cons_inv
    simp only [Rep] at h1
    subst h1
    rw [reps_strs t]
    rfl
theorem ma_join : MtA X.K WE "str" (fun x xs H Q => ∃ a p, ∃ ys : List Str, x = .str a ∧ xs = [.ref p] ∧ (SqL X.K H p (ys.map V.str) ∨ SqT X.K H p (ys.map V.str)) ∧ (ys.map (·.length)).sum + ys.length * a.length ≤ 16777216 ∧ Q (.str (Txt.join a ys)) H) gJoin := by
  intro B φ S σ H d ds x vs Q R r rs q
  obtain ⟨P, Xx, h1, h2, h3⟩ := q
  unfold gJoin at h1
  split at h1
  · rename_i a y
    obtain ⟨ys, e, hz, h1⟩ := h1
    obtain ⟨v, rfl, rv⟩ := one_inv rs
    obtain ⟨p, xs, rfl, hp, hr⟩ := rdL_ok R.w rv e
    have := reps_strs hr
    subst this
    simp only [Rep] at r
    exact ⟨a, p, ys, r, rfl, .inl hp, hz, Run.fin h2 h1 R (by simp only [Rep])⟩
  · exact h1.elim
end
end Tw

set_option Elab.async false
set_option linter.all false
set_option maxRecDepth 100000
set_option maxHeartbeats 4000000
namespace Tw
open PySem PySem.Spec PyProof.Rows L2
/-! ### the mirrors: data of the program -/
def oD : Option Int → D
  | none => .non
  | some i => .int i
def oS : Option Str → D
  | none => .non
  | some i => .str i
theorem oD_none : oD none = .non := rfl
theorem oD_some (i : Int) : oD (some i) = .int i := rfl
theorem oS_none : oS none = .non := rfl
theorem oS_some (i : Str) : oS (some i) = .str i := rfl
theorem sz_small {n : Nat} (h : n ≤ 1000000) : n ≤ sizeLine := Nat.le_trans h (by decide)
theorem sz_lt {n : Nat} (h : n ≤ 1000000) : n < sizeLine := Nat.lt_of_le_of_lt h (by decide)
theorem szN (n : Nat) (h : n ≤ 1000000 := by decide) : (n ≤ sizeLine) = True := eq_true (sz_small h)
theorem sz0 : (0 ≤ sizeLine) = True := szN 0
theorem sz1 : (1 ≤ sizeLine) = True := szN 1
theorem sz2 : (2 ≤ sizeLine) = True := szN 2
theorem sz3 : (3 ≤ sizeLine) = True := szN 3
theorem sz4 : (4 ≤ sizeLine) = True := szN 4
theorem sz5 : (5 ≤ sizeLine) = True := szN 5
theorem sz6 : (6 ≤ sizeLine) = True := szN 6
theorem sz7 : (7 ≤ sizeLine) = True := szN 7
theorem sz8 : (8 ≤ sizeLine) = True := szN 8
theorem sz9 : (9 ≤ sizeLine) = True := szN 9
theorem min_if (i j : Int) : (if j < i then j else i) = min i j := by rw [Int.min_def]; split <;> split <;> omega
theorem max_if (i j : Int) : (if j > i then j else i) = max i j := by rw [Int.max_def]; split <;> split <;> omega
theorem atI_of {α : Type} {l : List α} {k : Nat} {a : α} (h : l[k]? = some a) : atI l (k : Int) = some a := L2.atI_nat h
theorem atI_nat0 {α : Type} (l : List α) (k : Nat) : atI l (k : Int) = l[k]? := by
  unfold atI ixN
  by_cases h : (k : Int) < (l.length : Int)
  · rw [if_pos (by omega), if_pos h]
    simp
  · rw [if_pos (by omega), if_neg h]
    rw [List.getElem?_eq_none (by omega)]
    rfl
theorem atI_lit {α : Type} (l : List α) (i : Int) (k : Nat) (h : i = (k : Int) := by rfl) : atI l i = l[k]? := by rw [h, atI_nat0]
theorem atI0 {α : Type} (l : List α) : atI l 0 = l[0]? := atI_lit l 0 0
theorem atI1 {α : Type} (l : List α) : atI l 1 = l[1]? := atI_lit l 1 1
theorem atI2 {α : Type} (l : List α) : atI l 2 = l[2]? := atI_lit l 2 2
theorem atI3 {α : Type} (l : List α) : atI l 3 = l[3]? := atI_lit l 3 3
theorem atI4 {α : Type} (l : List α) : atI l 4 = l[4]? := atI_lit l 4 4
theorem atI5 {α : Type} (l : List α) : atI l 5 = l[5]? := atI_lit l 5 5
theorem atI6 {α : Type} (l : List α) : atI l 6 = l[6]? := atI_lit l 6 6
theorem atI7 {α : Type} (l : List α) : atI l 7 = l[7]? := atI_lit l 7 7
theorem atI8 {α : Type} (l : List α) : atI l 8 = l[8]? := atI_lit l 8 8
theorem atI11 {α : Type} (l : List α) : atI l 11 = l[11]? := atI_lit l 11 11
theorem ixN_nat (n k : Nat) (h : k < n) : ixN n (k : Int) = some k := by
  unfold ixN
  rw [if_pos (by omega), if_pos (by omega)]
  simp
theorem ixN0 (n : Nat) : ixN (n + 1) 0 = some 0 := ixN_nat (n + 1) 0 (by omega)
theorem cpow12 : CPow 10 12 = True := eq_true (by unfold CPow; decide)
theorem p12 : (10 : Int) ^ (12 : Int).toNat = 1000000000000 := by decide
theorem cdivW {i j : Int} (h0 : 0 < j) (h1 : j ≤ 1000000000000000000) : CDivW i j := wide_div (b := 64) h0 (by omega) (by decide) (by decide)
theorem cdivW2 (i : Int) : CDivW i 2 = True := eq_true (cdivW (by decide) (by decide))
theorem cdivW8 (i : Int) : CDivW i 8 = True := eq_true (cdivW (by decide) (by decide))
theorem de_non_non   : D.eq D.non D.non = true := by simp only [D.eq]
theorem de_non_bl  (a2 : Bool) : D.eq D.non (D.bl a2) = false := by simp only [D.eq]
theorem de_non_int  (i2 : Int) : D.eq D.non (D.int i2) = false := by simp only [D.eq]
theorem de_non_str  (s2 : Str) : D.eq D.non (D.str s2) = false := by simp only [D.eq]
theorem de_non_tup  (l2 : List D) : D.eq D.non (D.tup l2) = false := by simp only [D.eq]
theorem de_non_lst  (l2 : List D) : D.eq D.non (D.lst l2) = false := by simp only [D.eq]
theorem de_non_sq  (l2 : List D) : D.eq D.non (D.sq l2) = false := by simp only [D.eq]
theorem de_bl_non (a : Bool)  : D.eq (D.bl a) D.non = false := by simp only [D.eq]
theorem de_bl_bl (a : Bool) (a2 : Bool) : D.eq (D.bl a) (D.bl a2) = (a == a2) := by simp only [D.eq]
theorem de_bl_str (a : Bool) (s2 : Str) : D.eq (D.bl a) (D.str s2) = false := by simp only [D.eq]
theorem de_bl_tup (a : Bool) (l2 : List D) : D.eq (D.bl a) (D.tup l2) = false := by simp only [D.eq]
theorem de_bl_lst (a : Bool) (l2 : List D) : D.eq (D.bl a) (D.lst l2) = false := by simp only [D.eq]
theorem de_bl_sq (a : Bool) (l2 : List D) : D.eq (D.bl a) (D.sq l2) = false := by simp only [D.eq]
theorem de_int_non (i : Int)  : D.eq (D.int i) D.non = false := by simp only [D.eq]
theorem de_int_int (i : Int) (i2 : Int) : D.eq (D.int i) (D.int i2) = (i == i2) := by simp only [D.eq]
theorem de_int_str (i : Int) (s2 : Str) : D.eq (D.int i) (D.str s2) = false := by simp only [D.eq]
theorem de_int_tup (i : Int) (l2 : List D) : D.eq (D.int i) (D.tup l2) = false := by simp only [D.eq]
theorem de_int_lst (i : Int) (l2 : List D) : D.eq (D.int i) (D.lst l2) = false := by simp only [D.eq]
theorem de_int_sq (i : Int) (l2 : List D) : D.eq (D.int i) (D.sq l2) = false := by simp only [D.eq]
theorem de_str_non (s : Str)  : D.eq (D.str s) D.non = false := by simp only [D.eq]
theorem de_str_bl (s : Str) (a2 : Bool) : D.eq (D.str s) (D.bl a2) = false := by simp only [D.eq]
theorem de_str_int (s : Str) (i2 : Int) : D.eq (D.str s) (D.int i2) = false := by simp only [D.eq]
theorem de_str_str (s : Str) (s2 : Str) : D.eq (D.str s) (D.str s2) = (s == s2) := by simp only [D.eq]
theorem de_str_tup (s : Str) (l2 : List D) : D.eq (D.str s) (D.tup l2) = false := by simp only [D.eq]
theorem de_str_lst (s : Str) (l2 : List D) : D.eq (D.str s) (D.lst l2) = false := by simp only [D.eq]
theorem de_str_sq (s : Str) (l2 : List D) : D.eq (D.str s) (D.sq l2) = false := by simp only [D.eq]
theorem de_tup_non (l : List D)  : D.eq (D.tup l) D.non = false := by simp only [D.eq]
theorem de_tup_bl (l : List D) (a2 : Bool) : D.eq (D.tup l) (D.bl a2) = false := by simp only [D.eq]
theorem de_tup_int (l : List D) (i2 : Int) : D.eq (D.tup l) (D.int i2) = false := by simp only [D.eq]
theorem de_tup_str (l : List D) (s2 : Str) : D.eq (D.tup l) (D.str s2) = false := by simp only [D.eq]
theorem de_tup_tup (l : List D) (l2 : List D) : D.eq (D.tup l) (D.tup l2) = D.eqs l l2 := by simp only [D.eq]
theorem de_tup_lst (l : List D) (l2 : List D) : D.eq (D.tup l) (D.lst l2) = false := by simp only [D.eq]
theorem de_tup_sq (l : List D) (l2 : List D) : D.eq (D.tup l) (D.sq l2) = false := by simp only [D.eq]
theorem de_lst_non (l : List D)  : D.eq (D.lst l) D.non = false := by simp only [D.eq]
theorem de_lst_bl (l : List D) (a2 : Bool) : D.eq (D.lst l) (D.bl a2) = false := by simp only [D.eq]
theorem de_lst_int (l : List D) (i2 : Int) : D.eq (D.lst l) (D.int i2) = false := by simp only [D.eq]
theorem de_lst_str (l : List D) (s2 : Str) : D.eq (D.lst l) (D.str s2) = false := by simp only [D.eq]
theorem de_lst_tup (l : List D) (l2 : List D) : D.eq (D.lst l) (D.tup l2) = false := by simp only [D.eq]
theorem de_lst_lst (l : List D) (l2 : List D) : D.eq (D.lst l) (D.lst l2) = D.eqs l l2 := by simp only [D.eq]
theorem de_lst_sq (l : List D) (l2 : List D) : D.eq (D.lst l) (D.sq l2) = D.eqs l l2 := by simp only [D.eq]
theorem de_sq_non (l : List D)  : D.eq (D.sq l) D.non = false := by simp only [D.eq]
theorem de_sq_bl (l : List D) (a2 : Bool) : D.eq (D.sq l) (D.bl a2) = false := by simp only [D.eq]
theorem de_sq_int (l : List D) (i2 : Int) : D.eq (D.sq l) (D.int i2) = false := by simp only [D.eq]
theorem de_sq_str (l : List D) (s2 : Str) : D.eq (D.sq l) (D.str s2) = false := by simp only [D.eq]
theorem de_sq_tup (l : List D) (l2 : List D) : D.eq (D.sq l) (D.tup l2) = false := by simp only [D.eq]
theorem de_sq_lst (l : List D) (l2 : List D) : D.eq (D.sq l) (D.lst l2) = D.eqs l l2 := by simp only [D.eq]
theorem de_sq_sq (l : List D) (l2 : List D) : D.eq (D.sq l) (D.sq l2) = D.eqs l l2 := by simp only [D.eq]
theorem deqs_nn : D.eqs [] [] = true := by simp only [D.eqs]
theorem deqs_nc (x : D) (l : List D) : D.eqs [] (x :: l) = false := by simp only [D.eqs]
theorem deqs_cn (x : D) (l : List D) : D.eqs (x :: l) [] = false := by simp only [D.eqs]
theorem deqs_cc (x y : D) (l m : List D) : D.eqs (x :: l) (y :: m) = (D.eq x y && D.eqs l m) := by simp only [D.eqs]
theorem newL_t (l : List D) : newL true l = fun S P _ => P (.hnd S.W.length) ⟨S.σ, S.W ++ [.lst l]⟩ := rfl
theorem newL_f (l : List D) : newL false l = fun S P _ => P (.lst l) S := rfl
theorem tm_int : ("int" ∈ ["int", "str", "bool", "tuple", "list", "dict"]) = True := eq_true (by decide)
theorem tm_str : ("str" ∈ ["int", "str", "bool", "tuple", "list", "dict"]) = True := eq_true (by decide)
theorem tm_bool : ("bool" ∈ ["int", "str", "bool", "tuple", "list", "dict"]) = True := eq_true (by decide)
theorem tm_tuple : ("tuple" ∈ ["int", "str", "bool", "tuple", "list", "dict"]) = True := eq_true (by decide)
theorem tm_list : ("list" ∈ ["int", "str", "bool", "tuple", "list", "dict"]) = True := eq_true (by decide)
theorem tm_dict : ("dict" ∈ ["int", "str", "bool", "tuple", "list", "dict"]) = True := eq_true (by decide)
theorem isT_NoneType_int : isT "NoneType" "int" = false := by decide
theorem isT_NoneType_str : isT "NoneType" "str" = false := by decide
theorem isT_NoneType_bool : isT "NoneType" "bool" = false := by decide
theorem isT_NoneType_tuple : isT "NoneType" "tuple" = false := by decide
theorem isT_NoneType_list : isT "NoneType" "list" = false := by decide
theorem isT_NoneType_dict : isT "NoneType" "dict" = false := by decide
theorem isT_bool_int : isT "bool" "int" = true := by decide
theorem isT_bool_str : isT "bool" "str" = false := by decide
theorem isT_bool_bool : isT "bool" "bool" = true := by decide
theorem isT_bool_tuple : isT "bool" "tuple" = false := by decide
theorem isT_bool_list : isT "bool" "list" = false := by decide
theorem isT_bool_dict : isT "bool" "dict" = false := by decide
theorem isT_int_int : isT "int" "int" = true := by decide
theorem isT_int_str : isT "int" "str" = false := by decide
theorem isT_int_bool : isT "int" "bool" = false := by decide
theorem isT_int_tuple : isT "int" "tuple" = false := by decide
theorem isT_int_list : isT "int" "list" = false := by decide
theorem isT_int_dict : isT "int" "dict" = false := by decide
theorem isT_str_int : isT "str" "int" = false := by decide
theorem isT_str_str : isT "str" "str" = true := by decide
theorem isT_str_bool : isT "str" "bool" = false := by decide
theorem isT_str_tuple : isT "str" "tuple" = false := by decide
theorem isT_str_list : isT "str" "list" = false := by decide
theorem isT_str_dict : isT "str" "dict" = false := by decide
theorem isT_tuple_int : isT "tuple" "int" = false := by decide
theorem isT_tuple_str : isT "tuple" "str" = false := by decide
theorem isT_tuple_bool : isT "tuple" "bool" = false := by decide
theorem isT_tuple_tuple : isT "tuple" "tuple" = true := by decide
theorem isT_tuple_list : isT "tuple" "list" = false := by decide
theorem isT_tuple_dict : isT "tuple" "dict" = false := by decide
theorem isT_list_int : isT "list" "int" = false := by decide
theorem isT_list_str : isT "list" "str" = false := by decide
theorem isT_list_bool : isT "list" "bool" = false := by decide
theorem isT_list_tuple : isT "list" "tuple" = false := by decide
theorem isT_list_list : isT "list" "list" = true := by decide
theorem isT_list_dict : isT "list" "dict" = false := by decide
theorem isT_dict_int : isT "dict" "int" = false := by decide
theorem isT_dict_str : isT "dict" "str" = false := by decide
theorem isT_dict_bool : isT "dict" "bool" = false := by decide
theorem isT_dict_tuple : isT "dict" "tuple" = false := by decide
theorem isT_dict_list : isT "dict" "list" = false := by decide
theorem isT_dict_dict : isT "dict" "dict" = true := by decide
theorem nc0 : ((0 : Nat) : Int) = 0 := rfl
theorem nc1 : ((1 : Nat) : Int) = 1 := rfl
theorem nc2 : ((2 : Nat) : Int) = 2 := rfl
theorem nc3 : ((3 : Nat) : Int) = 3 := rfl
theorem nc4 : ((4 : Nat) : Int) = 4 := rfl
theorem nc5 : ((5 : Nat) : Int) = 5 := rfl
theorem nc6 : ((6 : Nat) : Int) = 6 := rfl
theorem nc7 : ((7 : Nat) : Int) = 7 := rfl
theorem nc8 : ((8 : Nat) : Int) = 8 := rfl
theorem nc9 : ((9 : Nat) : Int) = 9 := rfl
theorem vw_non (W : Wd)  : vw W D.non = D.non := rfl
theorem isNon_non  : isNon D.non = true := rfl
theorem vw_bl (W : Wd) (a : Bool) : vw W (D.bl a) = (D.bl a) := rfl
theorem isNon_bl (a : Bool) : isNon (D.bl a) = false := rfl
theorem vw_int (W : Wd) (i : Int) : vw W (D.int i) = (D.int i) := rfl
theorem isNon_int (i : Int) : isNon (D.int i) = false := rfl
theorem vw_str (W : Wd) (s : Str) : vw W (D.str s) = (D.str s) := rfl
theorem isNon_str (s : Str) : isNon (D.str s) = false := rfl
theorem vw_tup (W : Wd) (l : List D) : vw W (D.tup l) = (D.tup l) := rfl
theorem isNon_tup (l : List D) : isNon (D.tup l) = false := rfl
theorem vw_lst (W : Wd) (l : List D) : vw W (D.lst l) = (D.lst l) := rfl
theorem isNon_lst (l : List D) : isNon (D.lst l) = false := rfl
theorem vw_sq (W : Wd) (l : List D) : vw W (D.sq l) = (D.sq l) := rfl
theorem isNon_sq (l : List D) : isNon (D.sq l) = false := rfl
theorem vw_ty (W : Wd) (s : String) : vw W (D.ty s) = (D.ty s) := rfl
theorem isNon_ty (s : String) : isNon (D.ty s) = false := rfl
theorem vw_gl (W : Wd) (s : Addr) : vw W (D.gl s) = (D.gl s) := rfl
theorem isNon_gl (s : Addr) : isNon (D.gl s) = false := rfl
theorem vw_dct (W : Wd) (k : List Key) (l : List D) : vw W (D.dct k l) = (D.dct k l) := rfl
theorem isNon_dct (k : List Key) (l : List D) : isNon (D.dct k l) = false := rfl
theorem vw_hnd (W : Wd) (n : Nat) : vw W (.hnd n) = match W[n]? with
    | some (.lst l) => .lst l
    | _ => .hnd n := rfl
theorem isNon_hnd (n : Nat) : isNon (.hnd n) = false := rfl
theorem vw_oD (W : Wd) (o : Option Int) : vw W (oD o) = oD o := by cases o <;> rfl
theorem vw_oS (W : Wd) (o : Option Str) : vw W (oS o) = oS o := by cases o <;> rfl
theorem lay_oD (n : Nat) (o : Option Int) : (oD o).lay n = true := by cases o <;> simp only [oD, D.lay]
theorem lay_oS (n : Nat) (o : Option Str) : (oS o).lay n = true := by cases o <;> simp only [oS, D.lay]
theorem isNon_oD (o : Option Int) : isNon (oD o) = o.isNone := by cases o <;> rfl
theorem isNon_oS (o : Option Str) : isNon (oS o) = o.isNone := by cases o <;> rfl
theorem eq_oD (a b : Option Int) : D.eq (oD a) (oD b) = (a == b) := by cases a <;> cases b <;> simp [oD, D.eq]
theorem eq_oS (a b : Option Str) : D.eq (oS a) (oS b) = (a == b) := by cases a <;> cases b <;> simp [oS, D.eq]
theorem mAndV_eq (f g : M D) : mAndV f g = fun S P X => f S (fun d S1 => match d with
  | .bl b => if b = true then g S1 P X else P (.bl false) S1
  | _ => False) X := by
  funext S P X
  unfold mAndV M.bind
  congr
  funext d S1
  cases d <;> try rfl
  rename_i b
  cases b <;> rfl
theorem mOrV_eq (f g : M D) : mOrV f g = fun S P X => f S (fun d S1 => match d with
  | .bl b => if b = true then P (.bl true) S1 else g S1 P X
  | _ => False) X := by
  funext S P X
  unfold mOrV M.bind
  congr
  funext d S1
  cases d <;> try rfl
  rename_i b
  cases b <;> rfl
theorem cutD_to (l : List D) (v : Int) (k : Nat) (h : v = (k : Int)) : cutD l none (some v) = l.take k := by
  subst h
  unfold cutD
  rw [HT.sIx_none, HT.sIx_nat, Nat.sub_zero, List.drop_zero]
  by_cases c : k ≤ l.length
  · rw [Nat.min_eq_left c]
  · rw [Nat.min_eq_right (by omega), List.take_of_length_le (Nat.le_refl _), List.take_of_length_le (by omega)]
theorem cutD_from (l : List D) (v : Int) (k : Nat) (h : v = (k : Int)) : cutD l (some v) none = l.drop k := by
  subst h
  unfold cutD
  rw [HT.sIx_none, HT.sIx_nat]
  rw [List.take_of_length_le (by simp)]
  by_cases c : k ≤ l.length
  · rw [Nat.min_eq_left c]
  · rw [Nat.min_eq_right (by omega), List.drop_eq_nil_of_le (Nat.le_refl _), List.drop_eq_nil_of_le (by omega)]
theorem cutD_ft (l : List D) (v w : Int) (k m : Nat) (h : v = (k : Int)) (hm : w = (m : Int)) (h1 : k ≤ m) : cutD l (some v) (some w) = (l.drop k).take (m - k) := by
  subst h hm
  unfold cutD
  rw [HT.sIx_nat, HT.sIx_nat]
  by_cases c : m ≤ l.length
  · rw [Nat.min_eq_left c, Nat.min_eq_left (by omega)]
  · rw [Nat.min_eq_right (by omega : l.length ≤ m)]
    by_cases c2 : k ≤ l.length
    · rw [Nat.min_eq_left c2, List.take_of_length_le (by simp), List.take_of_length_le (by simp; omega)]
    · rw [Nat.min_eq_right (by omega), List.drop_eq_nil_of_le (Nat.le_refl _), List.drop_eq_nil_of_le (by omega)]
      simp
/-! ### stretches -/
abbrev Strt := Int × Option Int
def stD (s : Strt) : D := .tup [.int s.1, oD s.2]
def earlierEnd : Option Int → Option Int → Option Int
  | none, b => b
  | a, none => a
  | some a, some b => some (min a b)
def common (a b : Strt) : Option Strt := match earlierEnd a.2 b.2 with
  | some e => if e ≤ max a.1 b.1 then none else some (max a.1 b.1, some e)
  | none => some (max a.1 b.1, none)
def ostD : Option Strt → D
  | none => .non
  | some s => stD s
def inSt (s : Strt) (m : Int) : Bool := decide (s.1 ≤ m) && match s.2 with
  | none => true
  | some e => decide (m < e)
structure okSt (s : Strt) : Prop where
  lo : 0 ≤ s.1
  hi : s.1 ≤ 1000000000000
  en : ∀ e, s.2 = some e → s.1 < e ∧ e ≤ 1000000000000
theorem atI_ge {α : Type} {l : List α} {r : Int} (h0 : 0 ≤ r) (h1 : r < l.length) : ∃ a ∈ l, atI l r = some a := by
  have e : r = ((r.toNat : Nat) : Int) := by omega
  have hl : r.toNat < l.length := by omega
  rw [e, atI_nat0, List.getElem?_eq_getElem hl]
  exact ⟨_, List.getElem_mem hl, rfl⟩
theorem pick {l : List Int} {r : Int} (h0 : 0 ≤ r) (h1 : r < l.length) : ∃ m ∈ l, atI (l.map D.int) r = some (.int m) := by
  obtain ⟨a, ha, e⟩ := atI_ge (l := l.map D.int) h0 (by simpa using h1)
  obtain ⟨m, hm, rfl⟩ := List.mem_map.mp ha
  exact ⟨m, hm, e⟩
theorem set_set' {α : Type} (l : List α) (n : Nat) (a b : α) : (l.set n a).set n b = l.set n b := by simp
/-! ### a comprehension whose turns change nothing -/
def lcTurn (σ0 : List (Option D)) (own : List Nat) (g : MG) (t : M Bool) (e : M D) (x : D) (W : Wd) (k : Option D → Wd → Prop) : Prop :=
  g x ⟨wipeA σ0 own, W⟩ fun S1 => t S1 (fun b S2 => if b = true then e S2 (fun d S3 => k (some d) S3.W) NoX else k none S2.W) NoX
theorem lcL_turn {σ0 : List (Option D)} {own : List Nat} {h : Nat} {chk : Wd → Prop} {g : MG} {t : M Bool} {e : M D} {x : D} {xs : List D} {W : Wd} {k : Wd → Prop}
    (q : lcTurn σ0 own g t e x W fun od W3 => match od with
      | some d => (match W3[h]? with
        | some (.lst l) => l.length < sizeLine ∧ chk (W3.set h (.lst (l ++ [d]))) ∧ lcL σ0 own h chk g t e xs (W3.set h (.lst (l ++ [d]))) k
        | _ => False)
      | none => chk W3 ∧ lcL σ0 own h chk g t e xs W3 k) : lcL σ0 own h chk g t e (x :: xs) W k := q
theorem lcL_pure {σ0 : List (Option D)} {own : List Nat} {chk : Wd → Prop} {g : MG} {t : M Bool} {e : M D} {k : Wd → Prop} {W0 : Wd} (r : D → Option D) : ∀ {xs acc : List D}, (∀ x ∈ xs, ∀ acc k, k (r x) (W0 ++ [.lst acc]) → lcTurn σ0 own g t e x (W0 ++ [.lst acc]) k) →
    (∀ acc, chk (W0 ++ [.lst acc])) → acc.length + xs.length ≤ 1000000 → k (W0 ++ [.lst (acc ++ xs.filterMap r)]) → lcL σ0 own W0.length chk g t e xs (W0 ++ [.lst acc]) k
  | [], acc, hT, hc, hl, hk => by simpa [lcL] using hk
  | x :: xs, acc, hT, hc, hl, hk => by
    refine lcL_turn (hT x List.mem_cons_self acc _ ?_)
    simp only [List.length_cons] at hl
    cases e1 : r x with
    | none =>
      refine ⟨hc acc, lcL_pure r (fun y hy => hT y (List.mem_cons_of_mem _ hy)) hc (by omega) ?_⟩
      simpa [List.filterMap_cons, e1] using hk
    | some d =>
      have e2 : (W0 ++ [O.lst acc])[W0.length]? = some (.lst acc) := by rw [List.getElem?_append_right (Nat.le_refl _)]; simp
      have e3 : (W0 ++ [O.lst acc]).set W0.length (.lst (acc ++ [d])) = W0 ++ [.lst (acc ++ [d])] := by simp
      simp only [e2, e3]
      refine ⟨sz_lt (by omega), hc _, lcL_pure r (fun y hy => hT y (List.mem_cons_of_mem _ hy)) hc (by simp; omega) ?_⟩
      simpa [List.filterMap_cons, e1, List.append_assoc] using hk
theorem lcFin_frz {S1 : AS} {P : D → AS → Prop} {l : List D} (hb : D.bels S1.W.length l = true) (h : P (.lst l) ⟨S1.σ, S1.W⟩) : lcFin true S1 P (S1.W ++ [.lst l]) := by
  unfold lcFin
  rw [if_pos rfl]
  exact ⟨S1.W, l, rfl, rfl, Cl.refl _, hb, h⟩
theorem bels_ints (n : Nat) : ∀ l : List Int, D.bels n (l.map D.int) = true
  | [] => by simp [D.bels]
  | a :: l => by simp [D.bels, D.bel, bels_ints n l]
theorem lays_ints (n : Nat) : ∀ l : List Int, D.lays n (l.map D.int) = true
  | [] => by simp [D.lays]
  | a :: l => by simp [D.lays, D.lay, lays_ints n l]
/-! ### a loop by what holds between its turns -/
theorem loop_ind {α : Type} {chk : Wd → Prop} {step : D → MS} {E : AEnds} {S : AS} (enc : α → D) (I : List α → AS → Prop) (all : List α) (h0 : I [] S) (hc : ∀ pre S, I pre S → chk S.W)
    (hs : ∀ pre x post S, all = pre ++ x :: post → I pre S → ∀ N : AS → Prop, (∀ S', I (pre ++ [x]) S' → N S') → step (enc x) S { E with nx := N, ct := N, bk := E.nx }) (he : ∀ S, I all S → E.nx S) :
    loop chk step (all.map enc) S E := by
  have key : ∀ (post pre : List α) (S : AS), all = pre ++ post → I pre S → loop chk step (post.map enc) S E := by
    intro post
    induction post with
    | nil =>
      intro pre S e i
      rw [List.append_nil] at e
      subst e
      exact he S i
    | cons x post ih =>
      intro pre S e i
      refine hs pre x post S e i _ fun S' i' => ?_
      exact ⟨hc _ _ i', ih (pre ++ [x]) S' (by rw [e]; simp) i'⟩
  exact key all [] S (by simp) h0
theorem inSt_if (e m b0 : Int) : (match (if e ≤ b0 then none else some (b0, some e) : Option Strt) with
    | none => false
    | some s => inSt s m) = (decide (b0 ≤ m) && decide (m < e)) := by
  by_cases c : e ≤ b0
  · rw [if_pos c, Bool.eq_iff_iff]
    simp
    omega
  · rw [if_neg c]
    rfl
theorem inSt_common {a b : Strt} {m : Int} : (inSt a m && inSt b m) = match common a b with
    | none => false
    | some s => inSt s m := by
  obtain ⟨a1, a2⟩ := a
  obtain ⟨b1, b2⟩ := b
  unfold common
  cases a2 <;> cases b2 <;> simp only [earlierEnd, inSt_if] <;> rw [Bool.eq_iff_iff] <;> simp [inSt] <;> omega
end Tw

set_option Elab.async false
set_option linter.all false
set_option maxRecDepth 100000
set_option maxHeartbeats 4000000
namespace Tw
open PySem PySem.Spec PyProof.Rows L2
/-- the stream's list: a cell (by its digits), or a number that goes on by itself -/
def rowO (c w : Int) : O := .lst [.int c, .int w]
def rowOk (c w : Int) : Prop := w = 0 ∨ (w = 1 ∧ 0 ≤ c ∧ c < 536870909)
section
variable {K : PySem.W.Frag} {WE : WX}
/-- a new dict: frozen, or with a handle -/
def newD (h : Bool) (ks : List Key) (l : List D) : M D := fun S P _ => if h = true then P (.hnd S.W.length) ⟨S.σ, S.W ++ [.dct ks l]⟩ else P (.dct ks l) S
theorem newD_t (ks : List Key) (l : List D) : newD true ks l = fun S P _ => P (.hnd S.W.length) ⟨S.σ, S.W ++ [.dct ks l]⟩ := rfl
theorem newD_f (ks : List Key) (l : List D) : newD false ks l = fun S P _ => P (.dct ks l) S := rfl
theorem newD_ok {h : Bool} {ks : List Key} {l : List D} {B : Hp} {φ : List Addr} {S : AS} {σ : L2.St} {H : Hp} {Q : VK} (R : Rel K B φ S σ H) (q : Run K WE (fun B φ => Rep K B φ) (newD h ks l) B φ S σ H Q) {kvs : List (Key × V)} (hk : kvs.map (·.1) = ks)
    (r : Reps K B φ l (kvs.map (·.2))) {p : Addr} (hp : H p = none) : Q (.ref p) (upd H p (.dK kvs)) := by
  obtain ⟨P, Xx, h1, h2, h3⟩ := q
  cases h with
  | true =>
    have g : P (.hnd S.W.length) ⟨S.σ, S.W ++ [.dct ks l]⟩ := h1
    obtain ⟨w, e⟩ := R.w.add (o := .dct ks l) (ho := .dK kvs) hp ⟨kvs, upd_same, hk, r⟩
    refine h2 _ _ _ _ _ _ g e (R.ext e w) ?_
    simp only [Rep]
    exact ⟨p, by rw [← R.w.len, List.getElem?_append_right (Nat.le_refl _)]; simp, rfl⟩
  | false =>
    have g : P (.dct ks l) S := h1
    obtain ⟨w, e⟩ := R.w.frz (o := .dK kvs) hp
    refine h2 _ _ _ _ _ _ g e (R.ext e w) ?_
    simp only [Rep]
    exact ⟨p, kvs, rfl, .inl upd_same, hk, r.mono e _ _⟩
end
theorem mChain_eq (o1 o2 : Dop) (fa fb fc : M D) : mChain o1 o2 fa fb fc = M.bind fa fun x => M.bind fb fun y => fun S P X => o1 x y S (fun d S1 => match d with
  | .bl b => if b = true then M.bind fc (fun z => o2 y z) S1 P X else P (.bl false) S1
  | _ => False) X := by
  unfold mChain
  congr
  funext x
  congr
  funext y S P X
  unfold M.bind
  congr
  funext d S3
  cases d <;> try rfl
  rename_i b
  cases b <;> rfl
theorem sgn_list (c : Nat) : (⟨#[c]⟩ : Str).cps.toList = [c] := rfl
theorem cpow13 : CPow 10 13 = True := eq_true (by unfold CPow; decide)
theorem p13 : (10 : Int) ^ (13 : Int).toNat = 10000000000000 := by decide
theorem negb_f (b : Bool) : negb false b = b := rfl
theorem negb_t (b : Bool) : negb true b = !b := rfl
theorem op_inF {X : Cx} (hu : X.A.units + 64 < cLine) : OpR X (compareOp .In) (rInAll X.K false) := op_inAll hu false
theorem op_inT {X : Cx} (hu : X.A.units + 64 < cLine) : OpR X (compareOp .NotIn) (rInAll X.K true) := op_inAll hu true
section
variable {X : Cx} {WE : WX} {pos : Pos}
theorem de_dct0 {h : Bool} : PE X (.Dict [] [] pos) (tE X.K WE (newD h [] [])) := PE.weak pe_dnewK fun σ H Q q => by
  obtain ⟨B, φ, S, R, run⟩ := q
  exact fun p hp => newD_ok (WE := WE) R run (kvs := []) rfl Reps.nil hp
/-- z.find(y) -/
def gFind (d : D) (ds : List D) : M D := fun S P _ => match d, ds with
  | .str a, [.str b] => P (.int (Txt.find a b)) S
  | _, _ => False
theorem ma_find : MtA X.K WE "str" (fun x xs H Q => ∃ a b, x = .str a ∧ xs = [.str b] ∧ Q (.int (Txt.find a b)) H) gFind := by
  intro B φ S σ H d ds x vs Q R r rs q
  obtain ⟨P, Xx, h1, h2, h3⟩ := q
  unfold gFind at h1
  split at h1
  · rename_i a b
    obtain ⟨v, rfl, rv⟩ := one_inv rs
    simp only [Rep] at r rv
    subst r; subst rv
    exact ⟨a, b, rfl, rfl, Run.fin h2 h1 R (by simp only [Rep])⟩
  · exact h1.elim
/-- isinstance with a tuple of built-in types, just laid -/
def isTs (t : String) (l : List String) : Bool := l.any fun n => isT t n
def mTys (l : List String) : M (List D) := fun S P _ => P (l.map D.ty) S
def bIsiT (l : List String) (d : D) : M D := fun S P _ => match tyN S.W d with
  | some t => P (.bl (isTs t l)) S
  | none => False
theorem kitAny_ty {K : PySem.W.Frag} {t : String} (ht : t ∈ ["NoneType", "bool", "int", "str", "tuple", "list", "dict"]) : ∀ l : List String, (∀ n ∈ l, n ∈ ["int", "str", "bool", "tuple", "list", "dict"]) → PySem.W.kitAny K (.type t) (l.map Value.type) = some (isTs t l)
  | [], _ => rfl
  | n :: l, h => kitAny_cons (kit_ty (isT_ok t ht n (h n List.mem_cons_self))) (fun e => by
      rw [kitAny_ty ht l fun m hm => h m (List.mem_cons_of_mem _ hm)]
      simp [isTs, e]) fun e => by simp [isTs, e]
theorem reps_tys {K : PySem.W.Frag} {B : Hp} {φ : List Addr} : ∀ {l : List String} {xs : List V}, Reps K B φ (l.map D.ty) xs → xs = l.map V.ty
  | [], xs, h => by rw [h.nil_inv]; rfl
  | n :: l, xs, h => by
    obtain ⟨x, r, rfl, h1, t⟩ := h.cons_inv
    simp only [Rep] at h1
    rw [h1, reps_tys t]
    rfl
theorem clsv_tys : ∀ l : List String, Paired ClsV (l.map V.ty) (l.map Value.type)
  | [] => .nil
  | n :: l => .cons (.ty n) (clsv_tys l)
theorem de_isiT {a : Expr} {es : List Expr} {fx : M D} {tys : List String} {p p2 : Pos} {x1} (hm : X.mg "isinstance" = none) (hv : bootBuiltins "isinstance" = some (.builtin "isinstance")) (hx : PE X a (tE X.K WE fx)) (hes : PA X es (tA X.K WE (mTys tys)))
    (hin : ∀ n ∈ tys, n ∈ ["int", "str", "bool", "tuple", "list", "dict"]) (hl : tys.length ≤ 9) (hg : Gl X "isinstance" := by rfl) (hs : starEach [a, .Tuple es x1 p2] X.env = (false, eval a X.env) :: starEach [.Tuple es x1 p2] X.env := by rfl)
    (hs2 : starEach [.Tuple es x1 p2] X.env = (false, eval (.Tuple es x1 p2) X.env) :: starEach [] X.env := by rfl) (hpl : (backTo pos (starEach [.Tuple es x1 p2] X.env)).any (·.1) = false := by rfl) :
    PE X (.Call (.Name "isinstance" p) [a, .Tuple es x1 p2] [] pos) (tE X.K WE (M.bind fx (bIsiT tys))) :=
  PE.weak (pe_callB call_isiT hg hm hv (pa_cons hx (pa_cons (pe_tup hes) pa_nil hs2) hs) (by decide) (by decide) hs hpl) fun σ H Q h => by
    obtain ⟨B, φ, S, R, run⟩ := h
    refine ⟨B, φ, S, R, run.bind.imp ?_⟩
    rintro x H1 ⟨d, B1, φ1, S1, e1, R1, r1, P, Xx, h1, h2, h3⟩
    unfold bIsiT at h1
    split at h1
    · rename_i t e
      obtain ⟨ty, ht⟩ := tyN_ok R1.w r1 e
      refine ⟨B1, φ1, S1, R1, fun ds S2 => ds = tys.map D.ty ∧ S2 = S1, fun _ _ => False, ⟨rfl, rfl⟩, ?_, by intros; contradiction⟩
      rintro ds S2 xs B2 φ2 H2 ⟨rfl, rfl⟩ e2 R2 r2
      have ex := reps_tys r2
      subst ex
      refine ⟨by rw [List.length_map]; exact sz_small (by omega), fun q hq => ?_⟩
      obtain ⟨w, e3⟩ := R2.w.frz (o := .tup (tys.map V.ty)) hq
      refine ⟨x, q, tys.map V.ty, .type t, tys.map Value.type, isTs t tys, rfl, upd_same, clsv_tys tys, ?_, kitAny_ty ht tys hin, h2 _ _ _ _ _ _ h1 (e2.trans e3) (R2.ext e3 w) (by simp only [Rep])⟩
      exact (tyN_ok w (r1.mono (e2.trans e3) _ _) e).1
    · exact h1.elim
/-- range with a step -/
def rngC (i c : Int) (n : Nat) : List D := (List.range n).map fun k => .int (i + (k : Nat) * c)
variable {tg : Expr}
theorem itOk_rngC {K : PySem.W.Frag} {B : Hp} {φ : List Addr} {i c : Int} {n : Nat} : ItOk K B φ (rngC i c n) (fun _ => True) (Itc i c n) := by
  refine ⟨fun j B1 φ1 W H e1 R _ hi => ?_, fun j B1 φ1 W H x H' e1 R _ y d' hd' => ?_, fun j B1 φ1 W H e1 R _ hi => ?_⟩
  · show j < n
    simpa [rngC] using hi
  · obtain ⟨rfl, rfl⟩ := y
    unfold rngC at hd'
    rw [List.getElem?_map] at hd'
    by_cases hj : j < n
    · rw [List.getElem?_range hj] at hd'
      cases hd'
      exact ⟨B1, Ext.refl _ _, R, by simp only [Rep]⟩
    · rw [List.getElem?_eq_none (by simpa using hj)] at hd'
      cases hd'
  · show n ≤ j
    simp [rngC] at hi
    omega
def bRange3 (ds : List D) : M Items := fun S P _ => match ds with
  | [.int i, .int j, .int c] => ∃ n, RgC i j c n ∧ P (rngC i c n, fun _ => True) S
  | _ => False
theorem di_range3 {a b c : Expr} {ga : M (List D)} {p : Pos} (hm : X.mg "range" = none) (ha : PA X [a, b, c] (tA X.K WE ga)) (hg : Gl X "range" := by rfl)
    (hs : starEach [a, b, c] X.env = (false, eval a X.env) :: starEach [b, c] X.env := by rfl) (hpl : (backTo pos (starEach [b, c] X.env)).any (·.1) = false := by rfl) : PI X tg (.Call (.Name "range" p) [a, b, c] [] pos) (tIt X.K WE (M.bind ga bRange3)) :=
  PI.weak (pi_range3 hg hm ha hs hpl) fun σ H Q h => by
    obtain ⟨B, φ, S, R, run⟩ := h
    refine ⟨B, φ, S, R, run.bind.imp ?_⟩
    rintro xs H1 ⟨ds, B1, φ1, S1, e1, R1, r1, P, Xx, h1, h2, h3⟩
    unfold bRange3 at h1
    split at h1
    · rename_i i j k
      obtain ⟨v, r, rfl, rv, r2⟩ := r1.cons_inv
      obtain ⟨u, z, rfl, ru, rz⟩ := two_inv r2
      simp only [Rep] at rv ru rz
      subst rv; subst ru; subst rz
      obtain ⟨n, hn, h1⟩ := h1
      exact ⟨i, j, k, n, rfl, hn, h2 _ _ _ _ _ _ h1 (Ext.refl _ _) R1 itOk_rngC⟩
    · exact h1.elim
end
end Tw

set_option Elab.async false
set_option linter.all false
set_option maxRecDepth 100000
set_option maxHeartbeats 4000000
namespace Tw
open PySem PySem.Spec PyProof.Rows L2
/-! ### a comprehension whose turns may change the world ahead of its own list -/
theorem lcL_ind {σ0 : List (Option D)} {own : List Nat} {n : Nat} {chk : Wd → Prop} {g : MG} {t : M Bool} {e : M D} {k : Wd → Prop} {α : Type} (enc : α → D) (I : List α → List D → Wd → Prop) (all : List α) (W0 : Wd) (hW0 : W0.length = n) (h0 : I [] [] W0) (hc : ∀ W, chk W) (hl : all.length ≤ 1000000)
    (hs : ∀ pre x post acc W, all = pre ++ x :: post → W.length = n → I pre acc W → ∀ N : Option D → Wd → Prop, (∀ d W', W'.length = n → I (pre ++ [x]) (acc ++ d.toList) W' → N d (W' ++ [.lst acc])) → lcTurn σ0 own g t e (enc x) (W ++ [.lst acc]) N)
    (he : ∀ acc W, W.length = n → acc.length ≤ all.length → I all acc W → k (W ++ [.lst acc])) : lcL σ0 own n chk g t e (all.map enc) (W0 ++ [.lst []]) k := by
  have key : ∀ (post pre : List α) (acc : List D) (W : Wd), all = pre ++ post → W.length = n → acc.length ≤ pre.length → I pre acc W → lcL σ0 own n chk g t e (post.map enc) (W ++ [.lst acc]) k := by
    intro post
    induction post with
    | nil =>
      intro pre acc W ea hW hz i
      rw [List.append_nil] at ea
      subst ea
      exact he acc W hW hz i
    | cons x post ih =>
      intro pre acc W ea hW hz i
      refine lcL_turn (hs pre x post acc W ea hW i _ ?_)
      intro d W' hW' i'
      have hp : pre.length < all.length := by rw [ea]; simp
      have ea2 : all = (pre ++ [x]) ++ post := by rw [ea]; simp
      cases d with
      | none =>
        simp only [Option.toList_none, List.append_nil] at i'
        exact ⟨hc _, ih (pre ++ [x]) acc W' ea2 hW' (by simp; omega) i'⟩
      | some d =>
        have e2 : (W' ++ [O.lst acc])[n]? = some (.lst acc) := by rw [← hW', List.getElem?_append_right (Nat.le_refl _)]; simp
        have e3 : (W' ++ [O.lst acc]).set n (.lst (acc ++ [d])) = W' ++ [.lst (acc ++ [d])] := by rw [← hW']; simp
        simp only [e2, e3]
        simp only [Option.toList_some] at i'
        exact ⟨sz_lt (by omega), hc _, ih (pre ++ [x]) (acc ++ [d]) W' ea2 hW' (by simp; omega) i'⟩
  exact key all [] [] W0 (by simp) hW0 (Nat.le_refl _) h0
theorem Cl_set {W : Wd} {n : Nat} {o : O} (h : o.bel W.length = true) : Cl W (W.set n o) := by
  intro i u hu
  rw [List.getElem?_set] at hu
  split at hu
  · split at hu
    · cases hu
      right
      simpa using h
    · cases hu
  · exact .inl hu
theorem set_self {W : Wd} {n : Nat} {o : O} (h : W[n]? = some o) : W.set n o = W := by
  obtain ⟨hn, e⟩ := List.getElem?_eq_some_iff.mp h
  rw [← e]
  exact List.set_getElem_self hn
theorem lcFin_frz2 {S1 : AS} {P : D → AS → Prop} {l : List D} {W : Wd} (hl : W.length = S1.W.length) (c : Cl S1.W W) (hb : D.bels S1.W.length l = true) (h : P (.lst l) ⟨S1.σ, W⟩) : lcFin true S1 P (W ++ [.lst l]) := by
  unfold lcFin
  rw [if_pos rfl]
  exact ⟨W, l, rfl, hl, c, hb, h⟩
theorem rngD0 (n : Nat) : rngD 0 n = (List.range n).map fun k : Nat => D.int (k : Int) := by
  unfold rngD
  simp
theorem join1_len {l : List Str} (h : ∀ a ∈ l, a.length = 1) : (Txt.join "" l).length = l.length := PySem.W.KT.join_ones l h
theorem sum_ones : ∀ {l : List Str}, (∀ a ∈ l, a.length = 1) → (l.map fun z => z.length).sum = l.length
  | [], _ => rfl
  | a :: l, h => by
    rw [List.map_cons, List.sum_cons, h a List.mem_cons_self, sum_ones fun b hb => h b (List.mem_cons_of_mem _ hb), List.length_cons]
    omega
theorem rowO_bel (n : Nat) (c w : Int) : (rowO c w).bel n = true := by simp [rowO, O.bel, D.bels, D.bel]
theorem bels_strs (n : Nat) : ∀ l : List Str, D.bels n (l.map D.str) = true
  | [] => by simp [D.bels]
  | a :: l => by simp [D.bels, D.bel, bels_strs n l]
theorem lays_strs (n : Nat) : ∀ l : List Str, D.lays n (l.map D.str) = true
  | [] => by simp [D.lays]
  | a :: l => by simp [D.lays, D.lay, lays_strs n l]
/-! ### texts -/
theorem len_cps (s : Str) : s.cps.toList.length = s.length := by simp [Str.length]
theorem len_add (a b : Str) : (a ++ b).length = a.length + b.length := Str.length_append a b
theorem cps_add (a b : Str) : (a ++ b).cps.toList = a.cps.toList ++ b.cps.toList := by
  show (a.cps ++ b.cps).toList = _
  simp
theorem len_cut (s : Str) (lo hi : Option Int) : (cutS s lo hi).length ≤ s.length := cutS_length s lo hi
theorem len_one (c : Nat) : (⟨#[c]⟩ : Str).length = 1 := rfl
theorem str_ext {a b : Str} (h : a.cps.toList = b.cps.toList) : a = b := by
  cases a; cases b
  simp only [Str.mk.injEq]
  exact Array.toList_inj.mp h
theorem len0 {s : Str} (h : s.length = 0) : s = "" := str_ext (by
  have : s.cps.toList = [] := List.eq_nil_of_length_eq_zero (by rw [len_cps]; exact h)
  rw [this]
  decide +kernel)
def isSmall (c : Nat) : Bool := decide (97 ≤ c) && decide (c ≤ 122)
theorem abc_mem (c : Nat) : decide (c ∈ ("abcdefghijklmnopqrstuvwxyz" : Str).cps.toList) = isSmall c := by
  have e : ("abcdefghijklmnopqrstuvwxyz" : Str).cps.toList = (List.range 26).map (97 + ·) := by decide +kernel
  rw [e, Bool.eq_iff_iff, decide_eq_true_eq, isSmall, Bool.and_eq_true, decide_eq_true_eq, decide_eq_true_eq, List.mem_map]
  constructor
  · rintro ⟨a, ha, rfl⟩
    rw [List.mem_range] at ha
    omega
  · intro h
    exact ⟨c - 97, by rw [List.mem_range]; omega, by omega⟩
theorem zyx_mem (c : Nat) : decide (c ∈ ("zyxwvutsrqponmlkjihgfedcba" : Str).cps.toList) = isSmall c := by
  have e : ("zyxwvutsrqponmlkjihgfedcba" : Str).cps.toList = ("abcdefghijklmnopqrstuvwxyz" : Str).cps.toList.reverse := by decide +kernel
  rw [← abc_mem, e]
  simp
theorem abc_iff (c : Nat) : (c ∈ ("abcdefghijklmnopqrstuvwxyz" : Str).cps.toList) = (isSmall c = true) := by rw [← abc_mem]; simp
theorem zyx_iff (c : Nat) : (c ∈ ("zyxwvutsrqponmlkjihgfedcba" : Str).cps.toList) = (isSmall c = true) := by rw [← zyx_mem]; simp
theorem abc_len : ("abcdefghijklmnopqrstuvwxyz" : Str).length = 26 := by decide +kernel
theorem abc_at {r : Int} (h0 : 0 ≤ r) (h1 : r < 26) : ∃ c, atI ("abcdefghijklmnopqrstuvwxyz" : Str).cps.toList r = some c ∧ isSmall c = true := by
  obtain ⟨c, hc, e⟩ := atI_ge (l := ("abcdefghijklmnopqrstuvwxyz" : Str).cps.toList) h0 (by rw [len_cps, abc_len]; exact h1)
  exact ⟨c, e, by rw [← abc_mem]; exact decide_eq_true hc⟩
def lowS (s : Str) : Bool := s.cps.toList.all isSmall
def isNameS (s : Str) : Bool := decide (1 ≤ s.length) && decide (s.length ≤ 8) && lowS s
/-- the signs of a text, walked -/
theorem walk_str (z : Str) : (z.cps.toList.map fun c => D.str ⟨#[c]⟩) = z.cps.toList.map (fun c => D.str ⟨#[c]⟩) := rfl
/-! ### things, names, moments, stretches -/
def plainD : D → Bool
  | .non => true
  | .bl _ => true
  | .int _ => true
  | .str s => decide (s.length ≤ 1000000)
  | .tup _ => true
  | .lst _ => true
  | .dct _ _ => true
  | _ => false
def isMo : D → Bool
  | .int i => decide (0 ≤ i) && decide (i ≤ 1000000000000)
  | _ => false
def isNm : D → Bool
  | .str s => isNameS s
  | _ => false
def gtD : D → D → Bool
  | .int i, .int j => decide (i < j)
  | _, _ => false
def isStc (b e : D) : Bool := isMo b && (isNon e || (isMo e && gtD b e))
end Tw

set_option Elab.async false
set_option linter.all false
set_option maxRecDepth 100000
set_option maxHeartbeats 8000000
namespace Kx
open PySem PySem.Spec PyProof.Rows L2 Tw
local macro_rules | `(tactic| walk_at "tw") => `(tactic| simp only [startA, fEnds, oD_none, oD_some, oS_none, oS_some, sSeq, sNext, sSet, sAsg, sRet, sExpr, sIf, sBreak, sCont, sAug, mTest, mBin, M.bind, M.pure, mVar, mC, mCons, mNil, mTup, mLst, newL_t, newL_f, tm_int, tm_str, tm_bool, tm_tuple, tm_list, tm_dict, isT_NoneType_int, isT_NoneType_str, isT_NoneType_bool, isT_NoneType_tuple, isT_NoneType_list, isT_NoneType_dict, isT_bool_int, isT_bool_str, isT_bool_bool, isT_bool_tuple, isT_bool_list, isT_bool_dict, isT_int_int, isT_int_str, isT_int_bool, isT_int_tuple, isT_int_list, isT_int_dict, isT_str_int, isT_str_str, isT_str_bool, isT_str_tuple, isT_str_list, isT_str_dict, isT_tuple_int, isT_tuple_str, isT_tuple_bool, isT_tuple_tuple, isT_tuple_list, isT_tuple_dict, isT_list_int, isT_list_str, isT_list_bool, isT_list_tuple, isT_list_list, isT_list_dict, isT_dict_int, isT_dict_str, isT_dict_bool, isT_dict_tuple, isT_dict_list, isT_dict_dict, nc0, nc1, nc2, nc3, nc4, nc5, nc6, nc7, nc8, nc9, beq_self_eq_true, bne_self_eq_false, Int.reduceBEq, Int.reduceBNe,  mNoPart, mPart, mSl, dSl, mAnd, mOr, mNot, mAndV_eq, mOrV_eq, mNotV, mIf, mChain_eq, cpow13, p13, sgn_list, abc_iff, zyx_iff, Bool.not_eq_true, negb_f, negb_t, mYes, mCall,
  dAdd, dSub, dMul, dMod, dDiv, dPow, dNeg, dLt, dLe, dGt, dGe, iop, iop0, dEq, dNe, dIn, dIs, dIsB,  negb, dIx, ixL, ixN0, rdD, rdS, rdL, rdM, toKey, vw_non, isNon_non, vw_bl, isNon_bl, vw_int, isNon_int, vw_str, isNon_str, vw_tup, isNon_tup, vw_lst, isNon_lst, vw_sq, isNon_sq, vw_ty, isNon_ty, vw_gl, isNon_gl, vw_dct, isNon_dct, vw_hnd, isNon_hnd, vw_oD, vw_oS, lay_oD, lay_oS, isNon_oD, isNon_oS, eq_oD, eq_oS, Option.isNone_some, Option.isNone_none, bLen, bMax, bMin, bIsi, tyN, bList, Tw.gN, Tw.gNil, Tw.gCons, Tw.gTup, Tw.gSub, dSet, ixSet, mMt, gAppend, gExtend, gClear, isLst, isStr, sFor, bIter, bRange1, bRange2, bEnum, bZip2, bRev, newD_t, newD_f, gFind, bIsiT, bRange3,
  List.map_cons, List.map_nil, List.length_cons, List.length_nil, List.length_map, List.cons_append, List.nil_append, List.getElem?_cons_zero, List.getElem?_cons_succ, List.set_cons_zero, List.set_cons_succ, List.replicate_succ, List.replicate_zero, Nat.zero_add, Nat.reduceAdd, Nat.reduceSub, Nat.add_eq, Nat.sub_self,
  if_true, if_false, Bool.not_true, Bool.not_false, Bool.not_not, Bool.false_eq_true, ite_self, reduceIte, decide_eq_true_eq, decide_true, decide_false, Bool.not_eq_true', decide_eq_false_iff_not, true_and, and_true, Option.some.injEq, exists_eq', exists_eq_left', not_true_eq_false, not_false_eq_true,
  D.lay, D.lays, de_non_non, de_non_bl, de_non_int, de_non_str, de_non_tup, de_non_lst, de_non_sq, de_bl_non, de_bl_bl, de_bl_str, de_bl_tup, de_bl_lst, de_bl_sq, de_int_non, de_int_int, de_int_str, de_int_tup, de_int_lst, de_int_sq, de_str_non, de_str_bl, de_str_int, de_str_str, de_str_tup, de_str_lst, de_str_sq, de_tup_non, de_tup_bl, de_tup_int, de_tup_str, de_tup_tup, de_tup_lst, de_tup_sq, de_lst_non, de_lst_bl, de_lst_int, de_lst_str, de_lst_tup, de_lst_lst, de_lst_sq, de_sq_non, de_sq_bl, de_sq_int, de_sq_str, de_sq_tup, de_sq_lst, de_sq_sq, deqs_nn, deqs_nc, deqs_cn, deqs_cc, beq_iff_eq, Bool.and_true, Bool.true_and, Bool.and_eq_true, sz0, sz1, sz2, sz3, sz4, sz5, sz6, sz7, sz8, sz9, atI0, atI1, atI2, atI3, atI4, atI5, atI6, atI7, atI8, cpow12, p12, cdivW2, cdivW8, Int.reduceLT, Int.reduceLE, Int.reduceAdd, Int.reduceSub, Int.reduceNeg, Int.reduceEq, false_and, and_false, reduceCtorEq])
local macro_rules | `(tactic| walk_at "tws") => `(tactic| simp only [startA, fEnds, oD_none, oD_some, oS_none, oS_some, sSeq, sNext, sSet, sAsg, sRet, sExpr, sIf, sBreak, sCont, sAug, mTest, mBin, M.bind, M.pure, mVar, mC, mCons, mNil, mTup, mLst, newL_t, newL_f, tm_int, tm_str, tm_bool, tm_tuple, tm_list, tm_dict, isT_NoneType_int, isT_NoneType_str, isT_NoneType_bool, isT_NoneType_tuple, isT_NoneType_list, isT_NoneType_dict, isT_bool_int, isT_bool_str, isT_bool_bool, isT_bool_tuple, isT_bool_list, isT_bool_dict, isT_int_int, isT_int_str, isT_int_bool, isT_int_tuple, isT_int_list, isT_int_dict, isT_str_int, isT_str_str, isT_str_bool, isT_str_tuple, isT_str_list, isT_str_dict, isT_tuple_int, isT_tuple_str, isT_tuple_bool, isT_tuple_tuple, isT_tuple_list, isT_tuple_dict, isT_list_int, isT_list_str, isT_list_bool, isT_list_tuple, isT_list_list, isT_list_dict, isT_dict_int, isT_dict_str, isT_dict_bool, isT_dict_tuple, isT_dict_list, isT_dict_dict, nc0, nc1, nc2, nc3, nc4, nc5, nc6, nc7, nc8, nc9, beq_self_eq_true, bne_self_eq_false, Int.reduceBEq, Int.reduceBNe,  mNoPart, mPart, mSl, dSl, mAnd, mOr, mNot, mAndV_eq, mOrV_eq, mNotV, mIf, mChain_eq, cpow13, p13, sgn_list, abc_iff, zyx_iff, Bool.not_eq_true, negb_f, negb_t, mYes, mCall,
  dAdd, dSub, dMul, dMod, dDiv, dPow, dNeg, dLt, dLe, dGt, dGe, iop, iop0, dEq, dNe, dIn, dIs, dIsB,  negb, dIx, ixL, ixN0, rdD, rdS, rdL, rdM, toKey, vw_non, isNon_non, vw_bl, isNon_bl, vw_int, isNon_int, vw_str, isNon_str, vw_tup, isNon_tup, vw_lst, isNon_lst, vw_sq, isNon_sq, vw_ty, isNon_ty, vw_gl, isNon_gl, vw_dct, isNon_dct, vw_hnd, isNon_hnd, vw_oD, vw_oS, lay_oD, lay_oS, isNon_oD, isNon_oS, eq_oD, eq_oS, Option.isNone_some, Option.isNone_none, bLen, bMax, bMin, bIsi, tyN, bList, Tw.gN, Tw.gNil, Tw.gCons, Tw.gTup, Tw.gSub, dSet, ixSet, mMt, gAppend, gExtend, gClear, isLst, isStr, sFor, bIter, bRange1, bRange2, bEnum, bZip2, bRev, newD_t, newD_f, gFind, bIsiT, bRange3,
  List.map_cons, List.map_nil, List.length_cons, List.length_nil, List.length_map, List.cons_append, List.nil_append, List.getElem?_cons_zero, List.getElem?_cons_succ, List.set_cons_zero, List.set_cons_succ, List.replicate_succ, List.replicate_zero, Nat.zero_add, Nat.reduceAdd, Nat.reduceSub, Nat.add_eq, Nat.sub_self,
  if_true, if_false, Bool.not_true, Bool.not_false, Bool.not_not, Bool.false_eq_true, ite_self, reduceIte, decide_eq_true_eq, decide_true, decide_false, Bool.not_eq_true', decide_eq_false_iff_not, true_and, and_true, Option.some.injEq, exists_eq', exists_eq_left', not_true_eq_false, not_false_eq_true,
  D.lay, D.lays, de_non_non, de_non_bl, de_non_int, de_non_str, de_non_tup, de_non_lst, de_non_sq, de_bl_non, de_bl_bl, de_bl_str, de_bl_tup, de_bl_lst, de_bl_sq, de_int_non, de_int_int, de_int_str, de_int_tup, de_int_lst, de_int_sq, de_str_non, de_str_bl, de_str_int, de_str_str, de_str_tup, de_str_lst, de_str_sq, de_tup_non, de_tup_bl, de_tup_int, de_tup_str, de_tup_tup, de_tup_lst, de_tup_sq, de_lst_non, de_lst_bl, de_lst_int, de_lst_str, de_lst_tup, de_lst_lst, de_lst_sq, de_sq_non, de_sq_bl, de_sq_int, de_sq_str, de_sq_tup, de_sq_lst, de_sq_sq, deqs_nn, deqs_nc, deqs_cn, deqs_cc, beq_iff_eq, Bool.and_true, Bool.true_and, Bool.and_eq_true, sz0, sz1, sz2, sz3, sz4, sz5, sz6, sz7, sz8, sz9, atI0, atI1, atI2, atI3, atI4, atI5, atI6, atI7, atI8, cpow12, p12, cdivW2, cdivW8, Int.reduceLT, Int.reduceLE, Int.reduceAdd, Int.reduceSub, Int.reduceNeg, Int.reduceEq, false_and, and_false, reduceCtorEq, *])

def top (i : Nat) : Stmt := PySem.Challenge.pw_twotimes_k01_names_moments_stretches.main.body.getD i (.Pass ⟨0, 0, 0, 0⟩)
abbrev s__law_cell_at : Stmt := (top 7)
abbrev N__law_cell_at : List Str := ["script", "k"]
abbrev s__law_is_name : Stmt := (top 14)
abbrev N__law_is_name : List Str := ["thing", "sign"]
abbrev s__law_moment : Stmt := (top 15)
abbrev N__law_moment : List Str := ["thing"]
abbrev s__law_stretch : Stmt := (top 16)
abbrev N__law_stretch : List Str := ["one", "other"]
abbrev s__law_truth : Stmt := (top 17)
abbrev N__law_truth : List Str := ["found", "due"]
abbrev s_is_moment : Stmt := (top 4)
abbrev N_is_moment : List Str := ["thing"]
abbrev s_is_name : Stmt := (top 3)
abbrev N_is_name : List Str := ["thing", "sign"]
abbrev s_is_stretch : Stmt := (top 5)
abbrev N_is_stretch : List Str := ["begin", "end"]
abbrev s__law_right : Stmt := (top 18)
abbrev N__law_right : List Str := ["things", "one", "others", "other"]
abbrev s__law_stream : Stmt := (top 8)
abbrev N__law_stream : List Str := ["cell", "way", "low"]
abbrev s__law_take : Stmt := (top 9)
abbrev N__law_take : List Str := ["row", "many", "found"]
abbrev s__law_number : Stmt := (top 12)
abbrev N__law_number : List Str := ["row", "kind"]
abbrev s__law_text : Stmt := (top 10)
abbrev N__law_text : List Str := ["row", "size", "letters", "k"]
abbrev s__law_spoilt : Stmt := (top 11)
abbrev N__law_spoilt : List Str := ["row", "text", "at", "odd"]
abbrev s__law_thing : Stmt := (top 13)
abbrev N__law_thing : List Str := ["row", "kind"]
abbrev s_law : Stmt := (top 19)
abbrev N_law : List Str := ["script", "way", "cell", "row", "things", "one", "k"]
def cellAt (ns : List Int) (k : Nat) : Int := ns.getD k 0
def c__law_cell_at : FC := fun ds W P _ => ∃ (ns : List Int) (k : Nat), ds = [.sq (ns.map D.int), .int k] ∧ P (.int (cellAt ns k)) W
theorem len__law_cell_at : ∀ ds W P X, c__law_cell_at ds W P X → ds.length = 2 := by rintro ds W P X ⟨a, b, rfl, _⟩; rfl
def f__law_cell_at_1 : MS := (sRet (mC (.int 0)))
def f__law_cell_at : MS := (sSeq (sIf (mTest (mBin dLt (mVar 1) (M.bind (mCons (mVar 0) mNil) bLen))) (sRet (mBin dIx (mVar 0) (mVar 1))) sNext) f__law_cell_at_1)

theorem pure__law_cell_at : ∀ ds W P X, c__law_cell_at ds W P X → f__law_cell_at ⟨startA 2 ds, W⟩ (fEnds W P X) := by
  rintro ds W P X ⟨ns, k, rfl, h⟩
  simp only [f__law_cell_at, f__law_cell_at_1]
  walk_at "tw"
  by_cases hk : (k : Int) < (ns.length : Int)
  · have hk' : k < ns.length := by omega
    rw [if_pos hk, atI_of (a := D.int ns[k]) (by simp [hk'])]
    exact .inl (by simpa [cellAt, List.getD, hk'] using h)
  · have hk' : ¬ k < ns.length := by omega
    rw [if_neg hk]
    exact .inl (by simpa [cellAt, List.getD, hk'] using h)

def c__law_is_name : FC := fun ds W P _ => ∃ d, ds = [d] ∧ plainD d = true ∧ P (.bl (isNm d)) W
theorem len__law_is_name : ∀ ds W P X, c__law_is_name ds W P X → ds.length = 1 := by rintro ds W P X ⟨a, rfl, _⟩; rfl
def f__law_is_name_1 : MS := (sRet (mBin dEq (mLC true [1] (M.bind (mVar 0) bIter) (gN 1) (mTest (mBin (dIn true) (mVar 1) (mC (.str "zyxwvutsrqponmlkjihgfedcba")))) (mVar 1)) (mLst false mNil)))
def f__law_is_name : MS := (sSeq (sIf (mOr (mNot (mTest (M.bind (mCons (mVar 0) (mCons (mC (.ty "str")) mNil)) bIsi))) (mOr (mTest (mBin dEq (mVar 0) (mC (.str "")))) (mTest (mBin dGt (M.bind (mCons (mVar 0) mNil) bLen) (mC (.int 8)))))) (sRet (mC (.bl false))) sNext) f__law_is_name_1)

theorem pure__law_is_name : ∀ ds W P X, c__law_is_name ds W P X → f__law_is_name ⟨startA 2 ds, W⟩ (fEnds W P X) := by
  rintro ds W P X ⟨d, rfl, hd, h⟩
  simp only [f__law_is_name]
  cases d <;> first
    | (simp [plainD] at hd; done)
    | (walk_at "tw"; exact .inl h)
    | skip
  rename_i s
  simp only [plainD, decide_eq_true_eq] at hd
  walk_at "tw"
  simp only [isNm, isNameS] at h
  split
  · rename_i c
    subst c
    exact .inl (by simpa [show (("" : Str)).length = 0 from by decide +kernel] using h)
  · rename_i c
    have l1 : 1 ≤ s.length := by
      rcases Nat.eq_zero_or_pos s.length with z | z
      · exact absurd (len0 z) c
      · exact z
    refine ⟨sz_small hd, ?_⟩
    split
    · rename_i c2
      have : ¬ s.length ≤ 8 := by omega
      exact .inl (by simpa [this] using h)
    · rename_i c2
      have l8 : s.length ≤ 8 := by omega
      simp only [f__law_is_name_1]
      walk_at "tw"
      simp only [mLC]
      walk_at "tw"
      have h3 : P (.bl (lowS s)) W := by simpa [l1, l8] using h
      refine lcL_pure (fun d => match d with
        | .str ⟨⟨[m]⟩⟩ => if isSmall m = true then none else some d
        | _ => none) ?_ (fun _ => trivial) ?_ ?_
      · intro x hx acc k hk
        obtain ⟨m, hm, rfl⟩ := List.mem_map.mp hx
        simp only [lcTurn, wipeA]
        walk_at "tw"
        simp only at hk
        cases c1 : isSmall m with
        | true =>
          walk_at "tw"
          simpa [c1] using hk
        | false =>
          walk_at "tw"
          simpa [c1] using hk
      · rw [List.length_nil, List.length_map, len_cps]
        omega
      · have e : ∀ l : List Nat, ((l.map fun c => D.str ⟨#[c]⟩).filterMap fun d => match d with
            | .str ⟨⟨[m]⟩⟩ => if isSmall m = true then none else some d
            | _ => none) = (l.filter fun c => !isSmall c).map fun c => D.str ⟨#[c]⟩ := by
          intro l
          induction l with
          | nil => rfl
          | cons a l ih =>
            rw [List.map_cons, List.filterMap_cons, ih, List.filter_cons]
            cases q : isSmall a <;> simp [q]
        rw [List.nil_append, e]
        refine lcFin_frz ?_ ?_
        · have := bels_strs W.length ((s.cps.toList.filter fun c => !isSmall c).map fun c => (⟨#[c]⟩ : Str))
          rw [List.map_map] at this
          exact this
        · have l2 := lays_strs 59 ((s.cps.toList.filter fun c => !isSmall c).map fun c => (⟨#[c]⟩ : Str))
          rw [List.map_map] at l2
          refine ⟨by walk_at "tw"; exact l2, .inl ?_⟩
          walk_at "tw"
          have e2 : D.eqs ((s.cps.toList.filter fun c => !isSmall c).map fun c => D.str ⟨#[c]⟩) [] = lowS s := by
            unfold lowS
            generalize s.cps.toList = l
            cases q : l.all isSmall with
            | true =>
              have : (l.filter fun c => !isSmall c) = [] := by
                rw [List.filter_eq_nil_iff]
                intro a ha
                simp [List.all_eq_true.mp q a ha]
              rw [this]
              simp [D.eqs]
            | false =>
              cases q2 : l.filter fun c => !isSmall c with
              | nil =>
                rw [List.filter_eq_nil_iff] at q2
                have : l.all isSmall = true := by
                  rw [List.all_eq_true]
                  intro a ha
                  simpa using q2 a ha
                rw [q] at this; cases this
              | cons a r => simp [D.eqs]
          rw [e2]
          exact h3

def c__law_moment : FC := fun ds W P _ => ∃ d, ds = [d] ∧ plainD d = true ∧ P (.bl (isMo d)) W
theorem len__law_moment : ∀ ds W P X, c__law_moment ds W P X → ds.length = 1 := by rintro ds W P X ⟨a, rfl, _⟩; rfl
def f__law_moment_1 : MS := (sRet (mAndV (mNotV (mBin dLt (mVar 0) (mC (.int 0)))) (mNotV (mBin dGt (mVar 0) (mBin dPow (mC (.int 10)) (mC (.int 12)))))))
def f__law_moment : MS := (sSeq (sIf (mOr (mTest (M.bind (mCons (mVar 0) (mCons (mC (.ty "bool")) mNil)) bIsi)) (mNot (mTest (M.bind (mCons (mVar 0) (mCons (mC (.ty "int")) mNil)) bIsi)))) (sRet (mC (.bl false))) sNext) f__law_moment_1)

theorem pure__law_moment : ∀ ds W P X, c__law_moment ds W P X → f__law_moment ⟨startA 1 ds, W⟩ (fEnds W P X) := by
  rintro ds W P X ⟨d, rfl, hd, h⟩
  simp only [f__law_moment, f__law_moment_1]
  cases d <;> first
    | (simp [plainD] at hd; done)
    | (walk_at "tw"; exact .inl h)
    | skip
  rename_i i
  walk_at "tw"
  simp only [isMo] at h
  have e1 : (decide (0 ≤ i)) = !(decide (i < 0)) := by rw [Bool.eq_iff_iff]; simp
  have e2 : (decide (i ≤ 1000000000000)) = !(decide (1000000000000 < i)) := by rw [Bool.eq_iff_iff]; simp
  rw [e1, e2] at h
  by_cases c : i < 0
  · rw [if_neg (by omega)]
    exact .inl (by simpa [c] using h)
  · rw [if_pos c]
    exact .inl (by simpa [c] using h)

def c__law_stretch : FC := fun ds W P _ => ∃ b e, ds = [b, e] ∧ plainD b = true ∧ plainD e = true ∧ P (.bl (isStc b e)) W
theorem len__law_stretch : ∀ ds W P X, c__law_stretch ds W P X → ds.length = 2 := by rintro ds W P X ⟨a, b, rfl, _⟩; rfl
def f__law_stretch_1 : MS := (sRet (mOrV (mBin (dIs false) (mVar 1) (mC .non)) (mAndV (mCall c__law_moment (mCons (mVar 1) mNil)) (mBin dLt (mVar 0) (mVar 1)))))
def f__law_stretch : MS := (sSeq (sIf (mNot (mTest (mCall c__law_moment (mCons (mVar 0) mNil)))) (sRet (mC (.bl false))) sNext) f__law_stretch_1)

theorem isMo_int' {d : D} (h : isMo d = true) : ∃ i, d = .int i := by
  cases d <;> first | exact ⟨_, rfl⟩ | simp [isMo] at h
theorem pure__law_stretch : ∀ ds W P X, c__law_stretch ds W P X → f__law_stretch ⟨startA 2 ds, W⟩ (fEnds W P X) := by
  rintro ds W P X ⟨b, e, rfl, hb, he, h⟩
  simp only [f__law_stretch, f__law_stretch_1]
  walk_at "tw"
  refine ⟨b, rfl, hb, ?_⟩
  walk_at "tw"
  simp only [isStc] at h
  cases m1 : isMo b with
  | false => 
    walk_at "tw"
    exact .inl (by simpa [m1] using h)
  | true =>
    walk_at "tw"
    cases n1 : isNon e with
    | true =>
      walk_at "tw"
      exact .inl (by simpa [m1, n1] using h)
    | false =>
      walk_at "tw"
      refine ⟨e, rfl, he, ?_⟩
      walk_at "tw"
      cases m2 : isMo e with
      | false =>
        walk_at "tw"
        exact .inl (by simpa [m1, n1, m2] using h)
      | true =>
        obtain ⟨i, rfl⟩ := isMo_int' m1
        obtain ⟨j, rfl⟩ := isMo_int' m2
        walk_at "tw"
        exact .inl (by simpa [m1, n1, m2, gtD] using h)

def c__law_truth : FC := fun ds W P _ => ∃ a b : Bool, ds = [.bl a, .bl b] ∧ P (.bl (a == b)) W
theorem len__law_truth : ∀ ds W P X, c__law_truth ds W P X → ds.length = 2 := by rintro ds W P X ⟨a, b, rfl, _⟩; rfl

def f__law_truth : MS := (sRet (mAndV (M.bind (mCons (mVar 0) (mCons (mC (.ty "bool")) mNil)) bIsi) (mBin dEq (mVar 0) (mVar 1))))

theorem pure__law_truth : ∀ ds W P X, c__law_truth ds W P X → f__law_truth ⟨startA 2 ds, W⟩ (fEnds W P X) := by
  rintro ds W P X ⟨a, b, rfl, h⟩
  simp only [f__law_truth]
  walk_at "tw"
  exact .inl h

def c_is_moment : FC := fun ds W P _ => ∃ d, ds = [d] ∧ plainD d = true ∧ P (.bl (isMo d)) W
theorem len_is_moment : ∀ ds W P X, c_is_moment ds W P X → ds.length = 1 := by rintro ds W P X ⟨a, rfl, _⟩; rfl

def f_is_moment : MS := (sRet (mAndV (M.bind (mCons (mVar 0) (mCons (mC (.ty "int")) mNil)) bIsi) (mAndV (mNotV (M.bind (mCons (mVar 0) (mCons (mC (.ty "bool")) mNil)) bIsi)) (mChain dLe dLe (mC (.int 0)) (mVar 0) (mC (.int 1000000000000))))))

theorem pure_is_moment : ∀ ds W P X, c_is_moment ds W P X → f_is_moment ⟨startA 1 ds, W⟩ (fEnds W P X) := by
  rintro ds W P X ⟨d, rfl, hd, h⟩
  simp only [f_is_moment]
  cases d <;> first
    | (simp [plainD] at hd; done)
    | (walk_at "tw"; exact .inl h)
    | (walk_at "tw"
       simp only [isMo] at h
       split
       · rename_i c; exact .inl (by simpa [c] using h)
       · rename_i c; exact .inl (by simpa [c] using h))

def c_is_name : FC := fun ds W P _ => ∃ d, ds = [d] ∧ plainD d = true ∧ P (.bl (isNm d)) W
theorem len_is_name : ∀ ds W P X, c_is_name ds W P X → ds.length = 1 := by rintro ds W P X ⟨a, rfl, _⟩; rfl
def f_is_name_1 : MS := (sIf (mTest (mBin (dIn true) (mVar 1) (mC (.str "abcdefghijklmnopqrstuvwxyz")))) (sRet (mC (.bl false))) sNext)
def f_is_name_2 : MS := (sRet (mC (.bl true)))
def f_is_name_3 : MS := (sSeq (sFor (M.bind (mVar 0) bIter) (gN 1) f_is_name_1) f_is_name_2)
def f_is_name : MS := (sSeq (sIf (mOr (mNot (mTest (M.bind (mCons (mVar 0) (mCons (mC (.ty "str")) mNil)) bIsi))) (mNot (mTest (mChain dLe dLe (mC (.int 1)) (M.bind (mCons (mVar 0) mNil) bLen) (mC (.int 8)))))) (sRet (mC (.bl false))) sNext) f_is_name_3)

theorem pure_is_name : ∀ ds W P X, c_is_name ds W P X → f_is_name ⟨startA 2 ds, W⟩ (fEnds W P X) := by
  rintro ds W P X ⟨d, rfl, hd, h⟩
  simp only [f_is_name]
  cases d <;> first
    | (simp [plainD] at hd; done)
    | (walk_at "tw"; exact .inl h)
    | skip
  rename_i s
  simp only [plainD, decide_eq_true_eq] at hd
  walk_at "tw"
  simp only [isNm, isNameS] at h
  refine ⟨sz_small hd, ?_⟩
  split
  · rename_i c1
    have l1 : 1 ≤ s.length := by omega
    split
    · rename_i c2
      have : ¬ s.length ≤ 8 := by omega
      exact .inl (by simpa [this] using h)
    · rename_i c2
      have l8 : s.length ≤ 8 := by omega
      simp only [f_is_name_3]
      walk_at "tw"
      have h3 : P (.bl (lowS s)) W := by simpa [l1, l8] using h
      unfold lowS at h3
      generalize s.cps.toList = l at h3 ⊢
      refine loop_ind (fun c => D.str ⟨#[c]⟩) (fun pre S => pre.all isSmall = true ∧ ∃ s1, S = ⟨[some (D.str s), s1], W⟩) l ⟨rfl, none, rfl⟩ (fun _ _ _ => trivial) ?_ ?_
      · rintro pre x post S hall ⟨hp, s1, rfl⟩ N hN
        simp only [f_is_name_1]
        walk_at "tw"
        cases e : isSmall x with
        | true =>
          walk_at "tw"
          exact hN _ ⟨by simp [hp, e], _, rfl⟩
        | false =>
          walk_at "tw"
          have : l.all isSmall = false := by rw [hall]; simp [e]
          rw [this] at h3
          exact .inl h3
      · rintro S ⟨hp, s1, rfl⟩
        simp only [f_is_name_2]
        walk_at "tw"
        rw [hp] at h3
        exact .inl h3
  · rename_i c1
    have : ¬ 1 ≤ s.length := by omega
    exact .inl (by simpa [this] using h)

def c_is_stretch : FC := fun ds W P _ => ∃ b e, ds = [b, e] ∧ plainD b = true ∧ plainD e = true ∧ P (.bl (isStc b e)) W
theorem len_is_stretch : ∀ ds W P X, c_is_stretch ds W P X → ds.length = 2 := by rintro ds W P X ⟨a, b, rfl, _⟩; rfl
def f_is_stretch_1 : MS := (sRet (mOrV (mBin (dIs false) (mVar 1) (mC .non)) (mAndV (mCall c_is_moment (mCons (mVar 1) mNil)) (mBin dGt (mVar 1) (mVar 0)))))
def f_is_stretch : MS := (sSeq (sIf (mNot (mTest (mCall c_is_moment (mCons (mVar 0) mNil)))) (sRet (mC (.bl false))) sNext) f_is_stretch_1)

theorem isMo_int {d : D} (h : isMo d = true) : ∃ i, d = .int i := by
  cases d <;> first | exact ⟨_, rfl⟩ | simp [isMo] at h
theorem pure_is_stretch : ∀ ds W P X, c_is_stretch ds W P X → f_is_stretch ⟨startA 2 ds, W⟩ (fEnds W P X) := by
  rintro ds W P X ⟨b, e, rfl, hb, he, h⟩
  simp only [f_is_stretch, f_is_stretch_1]
  walk_at "tw"
  refine ⟨b, rfl, hb, ?_⟩
  walk_at "tw"
  simp only [isStc] at h
  cases m1 : isMo b with
  | false => 
    walk_at "tw"
    exact .inl (by simpa [m1] using h)
  | true =>
    walk_at "tw"
    cases n1 : isNon e with
    | true =>
      walk_at "tw"
      exact .inl (by simpa [m1, n1] using h)
    | false =>
      walk_at "tw"
      refine ⟨e, rfl, he, ?_⟩
      walk_at "tw"
      cases m2 : isMo e with
      | false =>
        walk_at "tw"
        exact .inl (by simpa [m1, n1, m2] using h)
      | true =>
        obtain ⟨i, rfl⟩ := isMo_int m1
        obtain ⟨j, rfl⟩ := isMo_int m2
        walk_at "tw"
        exact .inl (by simpa [m1, n1, m2, gtD] using h)

def c__law_right : FC := fun ds W P _ => ∃ (l : List D) (d : D), ds = [.lst l, d] ∧ plainD d = true ∧ (∀ x ∈ l, plainD x = true) ∧ l.length ≤ 1000 ∧ P (.bl true) W
theorem len__law_right : ∀ ds W P X, c__law_right ds W P X → ds.length = 2 := by rintro ds W P X ⟨n, c, rfl, _⟩; rfl
def f__law_right_1 : MS := (sIf (mNot (mTest (mCall c__law_truth (mCons (mCall c_is_stretch (mCons (mVar 3) (mCons (mVar 1) mNil))) (mCons (mCall c__law_stretch (mCons (mVar 3) (mCons (mVar 1) mNil))) mNil))))) (sRet (mC (.bl false))) sNext)
def f__law_right_2 : MS := (sSeq (sIf (mNot (mTest (mCall c__law_truth (mCons (mCall c_is_stretch (mCons (mVar 1) (mCons (mVar 3) mNil))) (mCons (mCall c__law_stretch (mCons (mVar 1) (mCons (mVar 3) mNil))) mNil))))) (sRet (mC (.bl false))) sNext) f__law_right_1)
def f__law_right_3 : MS := (sRet (mC (.bl true)))
def f__law_right_4 : MS := (sSeq (sFor (M.bind (mVar 2) bIter) (gN 3) f__law_right_2) f__law_right_3)
def f__law_right_5 : MS := (sSeq (sIf (mTest (mCall c__law_moment (mCons (mVar 1) mNil))) (sSet 2 (mBin (dAdd false) (mVar 2) (mLst false (mCons (mBin (dAdd false) (mVar 1) (mC (.int 1))) (mCons (mBin dSub (mVar 1) (mC (.int 1))) (mCons (mBin dPow (mC (.int 10)) (mC (.int 12))) mNil)))))) sNext) f__law_right_4)
def f__law_right_6 : MS := (sSeq (sSet 2 (mBin (dAdd false) (mVar 0) (mLst false (mCons (mC .non) mNil)))) f__law_right_5)
def f__law_right : MS := (sSeq (sIf (mOr (mNot (mTest (mCall c__law_truth (mCons (mCall c_is_name (mCons (mVar 1) mNil)) (mCons (mCall c__law_is_name (mCons (mVar 1) mNil)) mNil))))) (mNot (mTest (mCall c__law_truth (mCons (mCall c_is_moment (mCons (mVar 1) mNil)) (mCons (mCall c__law_moment (mCons (mVar 1) mNil)) mNil)))))) (sRet (mC (.bl false))) sNext) f__law_right_6)

theorem pure__law_right : ∀ ds W P X, c__law_right ds W P X → f__law_right ⟨startA 4 ds, W⟩ (fEnds W P X) := by
  rintro ds W P X ⟨l, d, rfl, hd, hl, hz, h⟩
  simp only [f__law_right]
  walk_at "tw"
  refine ⟨d, rfl, hd, ?_⟩
  walk_at "tw"
  refine ⟨d, rfl, hd, ?_⟩
  walk_at "tw"
  refine ⟨_, _, rfl, ?_⟩
  walk_at "tw"
  refine ⟨d, rfl, hd, ?_⟩
  walk_at "tw"
  refine ⟨d, rfl, hd, ?_⟩
  walk_at "tw"
  refine ⟨_, _, rfl, ?_⟩
  walk_at "tw"
  simp only [f__law_right_6]
  walk_at "tw"
  refine ⟨sz_small (by omega), ?_⟩
  have key : ∀ (l2 : List D), (∀ x ∈ l2, plainD x = true) → f__law_right_4 ⟨[some (D.lst l), some d, some (D.lst l2), none], W⟩
      { nx := fun S => Done W P D.non S.W, rt := fun d S => Done W P d S.W, bk := fun x => False, ct := fun x => False, ex := fun x S => DoneX W X x S.W } := by
    intro l2 h2
    simp only [f__law_right_4]
    walk_at "tw"
    rw [show l2 = l2.map (fun x => x) from (List.map_id l2).symm]
    refine loop_ind (fun x => x) (fun pre S => ∃ s3, S = ⟨[some (D.lst l), some d, some (D.lst l2), s3], W⟩) l2 ⟨none, by simp⟩ (fun _ _ _ => trivial) ?_ ?_
    · rintro pre x post S hall ⟨s3, rfl⟩ N hN
      have hx : plainD x = true := h2 x (by rw [hall]; simp)
      simp only [f__law_right_2]
      walk_at "tw"
      refine ⟨d, x, rfl, hd, hx, ?_⟩
      walk_at "tw"
      refine ⟨d, x, rfl, hd, hx, ?_⟩
      walk_at "tw"
      refine ⟨_, _, rfl, ?_⟩
      walk_at "tw"
      simp only [f__law_right_1]
      walk_at "tw"
      refine ⟨x, d, rfl, hx, hd, ?_⟩
      walk_at "tw"
      refine ⟨x, d, rfl, hx, hd, ?_⟩
      walk_at "tw"
      refine ⟨_, _, rfl, ?_⟩
      walk_at "tw"
      exact hN _ ⟨_, rfl⟩
    · rintro S ⟨s3, rfl⟩
      simp only [f__law_right_3]
      walk_at "tw"
      exact .inl h
  have hl2 : ∀ x ∈ l ++ [D.non], plainD x = true := by
    intro x hx
    rcases List.mem_append.mp hx with q | q
    · exact hl x q
    · simp at q; subst q; rfl
  simp only [f__law_right_5]
  walk_at "tw"
  refine ⟨d, rfl, hd, ?_⟩
  walk_at "tw"
  cases m1 : isMo d with
  | false =>
    walk_at "tw"
    exact key _ hl2
  | true =>
    cases d <;> first | (simp [isMo] at m1; done) | skip
    walk_at "tw"
    refine ⟨sz_small (by simp; omega), key _ ?_⟩
    intro x hx
    rcases List.mem_append.mp hx with q | q
    · exact hl2 x q
    · simp only [List.mem_cons, List.not_mem_nil, or_false] at q
      rcases q with rfl | rfl | rfl <;> rfl

def c__law_stream : FC := fun ds W P _ => ∃ c w : Int, ds = [.int c, .int w] ∧ ∀ c' w', rowOk c' w' → P (.hnd W.length) (W ++ [rowO c' w'])
theorem len__law_stream : ∀ ds W P X, c__law_stream ds W P X → ds.length = 2 := by rintro ds W P X ⟨a, b, rfl, _⟩; rfl
def f__law_stream_1 : MS := (sRet (mLst true (mCons (mVar 2) (mCons (mC (.int 1)) mNil))))
def f__law_stream_2 : MS := (sSeq (sSet 2 (mBin dMod (mBin (dAdd false) (mBin dMul (mBin dMod (mBin dMul (mVar 2) (mVar 2)) (mC (.int 536870909))) (mBin (dAdd false) (mVar 2) (mC (.int 7)))) (mC (.int 13))) (mC (.int 536870909)))) f__law_stream_1)
def f__law_stream_3 : MS := (sSeq (sSet 2 (mBin dMod (mVar 0) (mC (.int 536870909)))) f__law_stream_2)
def f__law_stream : MS := (sSeq (sIf (mTest (mBin dEq (mVar 1) (mC (.int 0)))) (sRet (mLst true (mCons (mVar 0) (mCons (mC (.int 0)) mNil)))) sNext) f__law_stream_3)

theorem pure__law_stream : ∀ ds W P X, c__law_stream ds W P X → f__law_stream ⟨startA 3 ds, W⟩ (fEnds W P X) := by
  rintro ds W P X ⟨c, w, rfl, h⟩
  simp only [f__law_stream, f__law_stream_1, f__law_stream_2, f__law_stream_3]
  walk_at "tw"
  split
  · exact .inl (h c 0 (.inl rfl))
  · have h1 := Int.emod_nonneg c (show (536870909 : Int) ≠ 0 by decide)
    have h2 := Int.emod_lt_of_pos c (show (0 : Int) < 536870909 by decide)
    refine ⟨.inl (by omega), .inl (by omega), .inl (h _ 1 (.inr ⟨rfl, Int.emod_nonneg _ (by decide), Int.emod_lt_of_pos _ (by decide)⟩))⟩

def c__law_take : FC := fun ds W P _ => ∃ (n : Nat) (c w m : Int), ds = [.hnd n, .int m] ∧ W[n]? = some (rowO c w) ∧ rowOk c w ∧ 0 < m ∧ m ≤ 100000000000000 ∧
  ∀ c' r, rowOk c' w → 0 ≤ r → r < m → P (.int r) (W.set n (rowO c' w))
theorem len__law_take : ∀ ds W P X, c__law_take ds W P X → ds.length = 2 := by rintro ds W P X ⟨n, c, w, m, rfl, _⟩; rfl
def f__law_take_1 : MS := (sRet (mVar 2))
def f__law_take_2 : MS := (sSeq (sAsg (gSub (mVar 0) (mC (.int 0))) (mBin dDiv (mBin dIx (mVar 0) (mC (.int 0))) (mVar 1))) f__law_take_1)
def f__law_take_3 : MS := (sRet (mBin dMod (mBin (dAdd false) (mBin dMul (mBin dIx (mVar 0) (mC (.int 0))) (mC (.int 48271))) (mC (.int 11))) (mVar 1)))
def f__law_take_4 : MS := (sSeq (sAsg (gSub (mVar 0) (mC (.int 0))) (mBin dMod (mBin dMul (mBin (dAdd false) (mBin dIx (mVar 0) (mC (.int 0))) (mC (.int 7919))) (mBin (dAdd false) (mBin dIx (mVar 0) (mC (.int 0))) (mC (.int 104729)))) (mC (.int 536870909)))) f__law_take_3)
def f__law_take : MS := (sSeq (sIf (mTest (mBin dEq (mBin dIx (mVar 0) (mC (.int 1))) (mC (.int 0)))) (sSeq (sSet 2 (mBin dMod (mBin dIx (mVar 0) (mC (.int 0))) (mVar 1))) f__law_take_2) sNext) f__law_take_4)

theorem pure__law_take : ∀ ds W P X, c__law_take ds W P X → f__law_take ⟨startA 3 ds, W⟩ (fEnds W P X) := by
  rintro ds W P X ⟨n, c, w, m, rfl, hw, hr, hm, hm2, h⟩
  have hn : n < W.length := (List.getElem?_eq_some_iff.mp hw).1
  unfold rowO at hw
  have hn2 : ∀ o, (W.set n o)[n]? = some o := fun o => List.getElem?_set_self hn
  simp only [f__law_take, f__law_take_1, f__law_take_2, f__law_take_3, f__law_take_4]
  walk_at "tws"
  have p1 := Int.emod_nonneg c (show m ≠ 0 by omega)
  have p2 := Int.emod_lt_of_pos c hm
  rcases hr with rfl | ⟨rfl, r1, r2⟩
  · rw [if_pos rfl]
    exact ⟨cdivW hm (by omega), .inl (h _ _ (.inl rfl) p1 p2)⟩
  · rw [if_neg (by decide)]
    have q1 := Int.emod_nonneg ((c + 7919) * (c + 104729)) (show (536870909 : Int) ≠ 0 by decide)
    have q2 := Int.emod_lt_of_pos ((c + 7919) * (c + 104729)) (show (0 : Int) < 536870909 by decide)
    exact ⟨.inl (by omega), .inr (by omega), .inl (h _ _ (.inr ⟨rfl, q1, q2⟩) (Int.emod_nonneg _ (by omega)) (Int.emod_lt_of_pos _ hm))⟩
theorem take_ok {n : Nat} {c w m : Int} {W : Wd} {P : D → Wd → Prop} {X : Exn → Wd → Prop} (hw : W[n]? = some (rowO c w)) (hr : rowOk c w) (h0 : 0 < m) (h1 : m ≤ 100000000000000)
    (h : ∀ c' r, rowOk c' w → 0 ≤ r → r < m → P (.int r) (W.set n (rowO c' w))) : c__law_take [.hnd n, .int m] W P X := ⟨n, c, w, m, rfl, hw, hr, h0, h1, h⟩

def c__law_number : FC := fun ds W P _ => ∃ (n : Nat) (c w k : Int), ds = [.hnd n, .int k] ∧ W[n]? = some (rowO c w) ∧ rowOk c w ∧ ∀ c' i, rowOk c' w → P (.int i) (W.set n (rowO c' w))
theorem len__law_number : ∀ ds W P X, c__law_number ds W P X → ds.length = 2 := by rintro ds W P X ⟨n, c, w, k, rfl, _⟩; rfl
def f__law_number_1 : MS := (sRet (mBin dSub (M.bind (mC (.int 1)) dNeg) (mCall c__law_take (mCons (mVar 0) (mCons (mBin dIx (mLst false (mCons (mC (.int 2)) (mCons (mBin dPow (mC (.int 10)) (mC (.int 13))) mNil))) (mCall c__law_take (mCons (mVar 0) (mCons (mC (.int 2)) mNil)))) mNil)))))
def f__law_number_2 : MS := (sSeq (sIf (mTest (mBin dEq (mVar 1) (mC (.int 5)))) (sRet (mBin (dAdd false) (mBin (dAdd false) (mBin dPow (mC (.int 10)) (mC (.int 12))) (mC (.int 1))) (mCall c__law_take (mCons (mVar 0) (mCons (mBin dIx (mLst false (mCons (mC (.int 2)) (mCons (mBin dPow (mC (.int 10)) (mC (.int 13))) mNil))) (mCall c__law_take (mCons (mVar 0) (mCons (mC (.int 2)) mNil)))) mNil))))) sNext) f__law_number_1)
def f__law_number_3 : MS := (sSeq (sIf (mTest (mBin dEq (mVar 1) (mC (.int 4)))) (sRet (mBin dSub (mBin dPow (mC (.int 10)) (mC (.int 12))) (mCall c__law_take (mCons (mVar 0) (mCons (mBin dIx (mLst false (mCons (mC (.int 4)) (mCons (mBin (dAdd false) (mBin dPow (mC (.int 10)) (mC (.int 12))) (mC (.int 1))) mNil))) (mCall c__law_take (mCons (mVar 0) (mCons (mC (.int 2)) mNil)))) mNil))))) sNext) f__law_number_2)
def f__law_number : MS := (sSeq (sIf (mTest (mBin dEq (mVar 1) (mC (.int 3)))) (sRet (mCall c__law_take (mCons (mVar 0) (mCons (mC (.int 21)) mNil)))) sNext) f__law_number_3)

theorem pure__law_number : ∀ ds W P X, c__law_number ds W P X → f__law_number ⟨startA 2 ds, W⟩ (fEnds W P X) := by
  rintro ds W P X ⟨n, c, w, k, rfl, hw, hr, h⟩
  have hn : n < W.length := (List.getElem?_eq_some_iff.mp hw).1
  have hn2 : ∀ o, (W.set n o)[n]? = some o := fun o => List.getElem?_set_self hn
  have key : ∀ (a b : Int) (Q : D → Wd → Prop) (Y : Exn → Wd → Prop), 0 < a → 0 < b → a ≤ 100000000000000 → b ≤ 100000000000000 → (∀ c' i, rowOk c' w → Q (.int i) (W.set n (rowO c' w))) →
      c__law_take [D.hnd n, D.int 2] W (fun d W1 => match d with
        | .int i => (match atI [D.int a, D.int b] i with
          | some m => c__law_take [D.hnd n, m] W1 Q Y
          | none => False)
        | _ => False) Y := by
    intro a b Q Y a0 b0 a1 b1 q
    refine take_ok hw hr (by decide) (by decide) fun c1 k1 o1 g1 g2 => ?_
    obtain ⟨m, hm, em⟩ := pick (l := [a, b]) g1 (by simpa using g2)
    simp only [List.map_cons, List.map_nil] at em
    simp only [em]
    have hm' : m = a ∨ m = b := by simpa using hm
    refine take_ok (hn2 _) o1 (by rcases hm' with rfl | rfl <;> omega) (by rcases hm' with rfl | rfl <;> omega) fun c2 k2 o2 _ _ => ?_
    rw [set_set']
    exact q _ _ o2
  simp only [f__law_number]
  walk_at "tw"
  split
  · refine take_ok hw hr (by decide) (by decide) fun c1 k1 o1 _ _ => .inl (h _ _ o1)
  · simp only [f__law_number_3]
    walk_at "tw"
    split
    · exact key 4 1000000000001 _ _ (by decide) (by decide) (by decide) (by decide) fun c' i o => by
        walk_at "tw"
        exact .inl (h _ _ o)
    · simp only [f__law_number_2]
      walk_at "tw"
      split
      · exact key 2 10000000000000 _ _ (by decide) (by decide) (by decide) (by decide) fun c' i o => by
          walk_at "tw"
          exact .inl (h _ _ o)
      · simp only [f__law_number_1]
        walk_at "tw"
        exact key 2 10000000000000 _ _ (by decide) (by decide) (by decide) (by decide) fun c' i o => by
          walk_at "tw"
          exact .inl (h _ _ o)

def c__law_text : FC := fun ds W P _ => ∃ (n : Nat) (c w : Int) (k : Nat), ds = [.hnd n, .int k] ∧ W[n]? = some (rowO c w) ∧ rowOk c w ∧ k ≤ 100 ∧ ∀ c' s, rowOk c' w → s.length = k → P (.str s) (W.set n (rowO c' w))
theorem len__law_text : ∀ ds W P X, c__law_text ds W P X → ds.length = 2 := by rintro ds W P X ⟨n, c, w, k, rfl, _⟩; rfl
def f__law_text_1 : MS := (sRet (mMt isStr gJoin (mC (.str "")) (mCons (mLC true [3] (M.bind (mCons (mVar 1) mNil) bRange1) (gN 3) mYes (mBin dIx (mVar 2) (mCall c__law_take (mCons (mVar 0) (mCons (mC (.int 26)) mNil))))) mNil)))
def f__law_text : MS := (sSeq (sSet 2 (mC (.str "abcdefghijklmnopqrstuvwxyz"))) f__law_text_1)

theorem pure__law_text : ∀ ds W P X, c__law_text ds W P X → f__law_text ⟨startA 4 ds, W⟩ (fEnds W P X) := by
  rintro ds W P X ⟨n, c, w, k, rfl, hw, hr, hk, h⟩
  have hn : n < W.length := (List.getElem?_eq_some_iff.mp hw).1
  simp only [f__law_text, f__law_text_1]
  walk_at "tw"
  simp only [mLC]
  walk_at "tw"
  refine ⟨⟨_, rfl⟩, by omega, by omega, ?_⟩
  rw [Int.toNat_natCast, rngD0]
  refine lcL_ind (fun k : Nat => D.int k) (fun pre acc W' => ∃ (c' : Int) (ss : List Str), rowOk c' w ∧ W' = W.set n (rowO c' w) ∧ acc = ss.map D.str ∧ ss.length = pre.length ∧ ∀ s ∈ ss, s.length = 1) (List.range k) W rfl ⟨c, [], hr, (set_self hw).symm, rfl, rfl, by simp⟩ (fun _ => trivial) (by simp; omega) ?_ ?_
  · rintro pre x post acc W' hall hW' ⟨c1, ss, o1, rfl, rfl, hl, hs⟩ N hN
    simp only [lcTurn, wipeA]
    walk_at "tw"
    have hn2 : (W.set n (rowO c1 w) ++ [O.lst (ss.map D.str)])[n]? = some (rowO c1 w) := by
      rw [List.getElem?_append_left (by simpa using hn)]
      exact List.getElem?_set_self hn
    refine take_ok hn2 o1 (by decide) (by decide) fun c2 r o2 g1 g2 => ?_
    obtain ⟨cc, ec, es⟩ := abc_at g1 g2
    simp only [ec]
    refine ⟨sz_small (by rw [abc_len]; decide), ?_⟩
    rw [List.set_append_left _ _ (by simpa using hn), set_set']
    exact hN (some (.str ⟨#[cc]⟩)) _ (by simp) ⟨c2, ss ++ [⟨#[cc]⟩], o2, rfl, by simp, by simp [hl], fun s hs' => by
      rcases List.mem_append.mp hs' with q | q
      · exact hs s q
      · simp at q; subst q; rfl⟩
  · rintro acc W' hW' hz ⟨c1, ss, o1, rfl, rfl, hl, hs⟩
    refine lcFin_frz2 hW' (Cl_set (rowO_bel _ _ _)) (bels_strs _ _) ?_
    rw [List.length_range] at hl
    refine ⟨ss, rfl, ?_, .inl (h _ _ o1 ?_)⟩
    · rw [sum_ones hs, hl, show (("" : Str)).length = 0 from by decide +kernel]
      omega
    · rw [join1_len hs, hl]

def c__law_spoilt : FC := fun ds W P _ => ∃ (n : Nat) (c w : Int), ds = [.hnd n] ∧ W[n]? = some (rowO c w) ∧ rowOk c w ∧ ∀ c' s, rowOk c' w → s.length ≤ 1000 → P (.str s) (W.set n (rowO c' w))
theorem len__law_spoilt : ∀ ds W P X, c__law_spoilt ds W P X → ds.length = 1 := by rintro ds W P X ⟨n, c, w, rfl, _⟩; rfl
def f__law_spoilt_1 : MS := (sRet (mBin (dAdd false) (mBin (dAdd false) (mSl false (mVar 1) mNoPart (mPart (mVar 2))) (mVar 3)) (mSl false (mVar 1) (mPart (mBin (dAdd false) (mVar 2) (mCall c__law_take (mCons (mVar 0) (mCons (mC (.int 2)) mNil))))) mNoPart)))
def f__law_spoilt_2 : MS := (sSeq (sSet 3 (mBin dIx (mC (.str "A7 _-Z\n.{`")) (mCall c__law_take (mCons (mVar 0) (mCons (mC (.int 10)) mNil))))) f__law_spoilt_1)
def f__law_spoilt_3 : MS := (sSeq (sSet 2 (mCall c__law_take (mCons (mVar 0) (mCons (M.bind (mCons (mVar 1) mNil) bLen) mNil)))) f__law_spoilt_2)
def f__law_spoilt : MS := (sSeq (sSet 1 (mCall c__law_text (mCons (mVar 0) (mCons (mBin (dAdd false) (mC (.int 1)) (mCall c__law_take (mCons (mVar 0) (mCons (mC (.int 8)) mNil)))) mNil)))) f__law_spoilt_3)

theorem odd_len : ("A7 _-Z\n.{`" : Str).length = 10 := by decide +kernel
theorem text_ok {n : Nat} {c w : Int} {m : Int} {W : Wd} {P : D → Wd → Prop} {X : Exn → Wd → Prop} (hw : W[n]? = some (rowO c w)) (hr : rowOk c w) (h0 : 0 ≤ m) (h1 : m ≤ 100)
    (h : ∀ c' s, rowOk c' w → (s.length : Int) = m → P (.str s) (W.set n (rowO c' w))) : c__law_text [.hnd n, .int m] W P X :=
  ⟨n, c, w, m.toNat, by rw [Int.toNat_of_nonneg h0], hw, hr, by omega, fun c' s o e => h c' s o (by omega)⟩
theorem pure__law_spoilt : ∀ ds W P X, c__law_spoilt ds W P X → f__law_spoilt ⟨startA 4 ds, W⟩ (fEnds W P X) := by
  rintro ds W P X ⟨n, c, w, rfl, hw, hr, h⟩
  have hn : n < W.length := (List.getElem?_eq_some_iff.mp hw).1
  have hn2 : ∀ o, (W.set n o)[n]? = some o := fun o => List.getElem?_set_self hn
  simp only [f__law_spoilt]
  walk_at "tw"
  refine take_ok hw hr (by decide) (by decide) fun c1 k1 o1 a1 b1 => ?_
  refine text_ok (hn2 _) o1 (by omega) (by omega) fun c2 s o2 hs => ?_
  rw [set_set']
  simp only [f__law_spoilt_3]
  walk_at "tw"
  refine ⟨sz_small (by omega), ?_⟩
  refine take_ok (hn2 _) o2 (by omega) (by omega) fun c3 k3 o3 a3 b3 => ?_
  rw [set_set']
  simp only [f__law_spoilt_2]
  walk_at "tw"
  refine take_ok (hn2 _) o3 (by decide) (by decide) fun c4 k4 o4 a4 b4 => ?_
  rw [set_set']
  obtain ⟨a, ha, ea⟩ := atI_ge (l := ("A7 _-Z\n.{`" : Str).cps.toList) a4 (by rw [len_cps, odd_len]; exact b4)
  simp only [ea]
  refine ⟨sz_small (by rw [odd_len]; decide), ?_⟩
  simp only [f__law_spoilt_1]
  walk_at "tw"
  have l1 := len_cut s none (some k3)
  have hs8 : s.length ≤ 8 := by omega
  refine ⟨sz_small (by omega), sz_small (by rw [len_one]; omega), ?_⟩
  refine take_ok (hn2 _) o4 (by decide) (by decide) fun c5 k5 o5 a5 b5 => ?_
  rw [set_set']
  walk_at "tw"
  have l2 := len_cut s (some (k3 + k5)) none
  refine ⟨sz_small (by omega), sz_small (by rw [len_add, len_one]; omega), .inl (h _ _ o5 ?_)⟩
  rw [len_add, len_add, len_one]
  omega

def c__law_thing : FC := fun ds W P _ => ∃ (n : Nat) (c w : Int), ds = [.hnd n] ∧ W[n]? = some (rowO c w) ∧ rowOk c w ∧ ∀ c' d, rowOk c' w → plainD d = true → (∀ m, d.bel m = true) → P d (W.set n (rowO c' w))
theorem len__law_thing : ∀ ds W P X, c__law_thing ds W P X → ds.length = 1 := by rintro ds W P X ⟨n, c, w, rfl, _⟩; rfl
def f__law_thing_1 : MS := (sRet (mBin dIx (mLst false (mCons (mLst false mNil) (mCons (mLst false (mCons (mC (.str "a")) mNil)) (mCons (mTup (mCons (mC (.str "a")) mNil)) (mCons (newD false [] []) (mCons (mC (.str "7")) (mCons (mC (.str "10")) (mCons (mTup (mCons (mC (.int 1)) (mCons (mC (.int 2)) mNil))) mNil)))))))) (mCall c__law_take (mCons (mVar 0) (mCons (mC (.int 7)) mNil)))))
def f__law_thing_2 : MS := (sSeq (sIf (mTest (mBin dEq (mVar 1) (mC (.int 8)))) (sRet (mBin dEq (mCall c__law_take (mCons (mVar 0) (mCons (mC (.int 2)) mNil))) (mC (.int 1)))) sNext) f__law_thing_1)
def f__law_thing_3 : MS := (sSeq (sIf (mTest (mBin dEq (mVar 1) (mC (.int 7)))) (sRet (mC .non)) sNext) f__law_thing_2)
def f__law_thing_4 : MS := (sSeq (sIf (mTest (mBin dLt (mVar 1) (mC (.int 7)))) (sRet (mCall c__law_number (mCons (mVar 0) (mCons (mVar 1) mNil)))) sNext) f__law_thing_3)
def f__law_thing_5 : MS := (sSeq (sIf (mTest (mBin dEq (mVar 1) (mC (.int 2)))) (sRet (mCall c__law_spoilt (mCons (mVar 0) mNil))) sNext) f__law_thing_4)
def f__law_thing_6 : MS := (sSeq (sIf (mTest (mBin dEq (mVar 1) (mC (.int 1)))) (sRet (mCall c__law_text (mCons (mVar 0) (mCons (mBin dIx (mLst false (mCons (mC (.int 0)) (mCons (mC (.int 9)) (mCons (mBin (dAdd false) (mC (.int 9)) (mCall c__law_take (mCons (mVar 0) (mCons (mC (.int 12)) mNil)))) mNil)))) (mCall c__law_take (mCons (mVar 0) (mCons (mC (.int 3)) mNil)))) mNil)))) sNext) f__law_thing_5)
def f__law_thing_7 : MS := (sSeq (sIf (mTest (mBin dEq (mVar 1) (mC (.int 0)))) (sRet (mCall c__law_text (mCons (mVar 0) (mCons (mBin (dAdd false) (mC (.int 1)) (mCall c__law_take (mCons (mVar 0) (mCons (mC (.int 8)) mNil)))) mNil)))) sNext) f__law_thing_6)
def f__law_thing : MS := (sSeq (sSet 1 (mCall c__law_take (mCons (mVar 0) (mCons (mC (.int 10)) mNil)))) f__law_thing_7)

theorem plain_str {s : Str} (h : s.length ≤ 1000) : plainD (.str s) = true := by
  simp only [plainD, decide_eq_true_eq]
  omega
theorem pure__law_thing : ∀ ds W P X, c__law_thing ds W P X → f__law_thing ⟨startA 2 ds, W⟩ (fEnds W P X) := by
  rintro ds W P X ⟨n, c, w, rfl, hw, hr, h⟩
  have hn : n < W.length := (List.getElem?_eq_some_iff.mp hw).1
  have hn2 : ∀ o, (W.set n o)[n]? = some o := fun o => List.getElem?_set_self hn
  simp only [f__law_thing]
  walk_at "tw"
  refine take_ok hw hr (by decide) (by decide) fun c1 k1 o1 a1 b1 => ?_
  simp only [f__law_thing_7]
  walk_at "tw"
  split
  · refine take_ok (hn2 _) o1 (by decide) (by decide) fun c2 k2 o2 a2 b2 => ?_
    rw [set_set']
    walk_at "tw"
    refine text_ok (hn2 _) o2 (by omega) (by omega) fun c3 s o3 hs => ?_
    rw [set_set']
    exact .inl (h _ _ o3 (plain_str (by omega)) fun _ => rfl)
  simp only [f__law_thing_6]
  walk_at "tw"
  split
  · refine take_ok (hn2 _) o1 (by decide) (by decide) fun c2 k2 o2 a2 b2 => ?_
    rw [set_set']
    walk_at "tw"
    refine take_ok (hn2 _) o2 (by decide) (by decide) fun c3 k3 o3 a3 b3 => ?_
    rw [set_set']
    walk_at "tw"
    obtain ⟨m, hm, em⟩ := pick (l := [0, 9, 9 + k2]) a3 (by simpa using b3)
    simp only [List.map_cons, List.map_nil] at em
    simp only [em]
    have hm2 : 0 ≤ m ∧ m ≤ 21 := by simp at hm; omega
    refine text_ok (hn2 _) o3 (by omega) (by omega) fun c4 s o4 hs => ?_
    rw [set_set']
    exact .inl (h _ _ o4 (plain_str (by omega)) fun _ => rfl)
  simp only [f__law_thing_5]
  walk_at "tw"
  split
  · refine ⟨n, c1, w, rfl, hn2 _, o1, fun c2 s o2 hs => ?_⟩
    rw [set_set']
    exact .inl (h _ _ o2 (plain_str hs) fun _ => rfl)
  simp only [f__law_thing_4]
  walk_at "tw"
  split
  · refine ⟨n, c1, w, _, rfl, hn2 _, o1, fun c2 i o2 => ?_⟩
    rw [set_set']
    exact .inl (h _ _ o2 rfl fun _ => rfl)
  simp only [f__law_thing_3]
  walk_at "tw"
  split
  · exact .inl (h _ _ o1 rfl fun _ => rfl)
  simp only [f__law_thing_2]
  walk_at "tw"
  split
  · refine take_ok (hn2 _) o1 (by decide) (by decide) fun c2 k2 o2 a2 b2 => ?_
    rw [set_set']
    walk_at "tw"
    exact .inl (h _ _ o2 rfl fun _ => rfl)
  simp only [f__law_thing_1]
  walk_at "tw"
  refine take_ok (hn2 _) o1 (by decide) (by decide) fun c2 k2 o2 a2 b2 => ?_
  rw [set_set']
  walk_at "tw"
  obtain ⟨a, ha, ea⟩ := atI_ge (l := [D.lst [], D.lst [D.str "a"], D.tup [D.str "a"], D.dct [] [], D.str "7", D.str "10", D.tup [D.int 1, D.int 2]]) a2 (by simpa using b2)
  simp only [ea]
  refine .inl (h _ _ o2 ?_ ?_)
  · simp only [List.mem_cons, List.not_mem_nil, or_false] at ha
    rcases ha with rfl | rfl | rfl | rfl | rfl | rfl | rfl <;> first | rfl | exact plain_str (by decide +kernel)
  · simp only [List.mem_cons, List.not_mem_nil, or_false] at ha
    rcases ha with rfl | rfl | rfl | rfl | rfl | rfl | rfl <;> intro m <;> simp [D.bel, D.bels]

abbrev c_law : FC := cLaw
theorem len_law : ∀ ds W P X, c_law ds W P X → ds.length = 1 := by rintro ds W P X ⟨ns, rfl, _⟩; rfl
def f_law_1 : MS := (sIf (mNot (mTest (mCall c__law_right (mCons (mVar 4) (mCons (mVar 5) mNil))))) (sRet (mC (.bl false))) sNext)
def f_law_2 : MS := (sFor (M.bind (mVar 4) bIter) (gN 5) f_law_1)
def f_law_3 : MS := (sSeq (sSet 4 (mLC true [6] (M.bind (mCons (mC (.int 3)) mNil) bRange1) (gN 6) mYes (mCall c__law_thing (mCons (mVar 3) mNil)))) f_law_2)
def f_law_4 : MS := (sSeq (sSet 3 (mCall c__law_stream (mCons (mBin dDiv (mVar 2) (mC (.int 2))) (mCons (mVar 1) mNil)))) f_law_3)
def f_law_5 : MS := (sRet (mAndV (mBin (dIsB false) (mCall c_is_moment (mCons (mC (.bl true)) mNil)) (mC (.bl false))) (mAndV (mBin (dIsB false) (mCall c_is_stretch (mCons (mC (.int 0)) (mCons (mC (.bl true)) mNil))) (mC (.bl false))) (mBin (dIsB false) (mCall c_is_stretch (mCons (mC (.bl false)) (mCons (mC (.int 3)) mNil))) (mC (.bl false))))))
def f_law_6 : MS := (sSeq (sFor (M.bind (mBin (dAdd false) (mLst false (mCons (mC (.int 0)) mNil)) (mSl false (mVar 0) mNoPart (mPart (mC (.int 63))))) bIter) (gN 2) f_law_4) f_law_5)
def f_law : MS := (sSeq (sSet 1 (mBin dMod (mCall c__law_cell_at (mCons (mVar 0) (mCons (mC (.int 0)) mNil))) (mC (.int 2)))) f_law_6)

theorem cellAt_ok {ns : List Int} {k : Nat} {W : Wd} {P : D → Wd → Prop} {X : Exn → Wd → Prop} (h : P (.int (cellAt ns k)) W) : c__law_cell_at [.sq (ns.map D.int), .int k] W P X := ⟨ns, k, rfl, h⟩
theorem pure_law : ∀ ds W P X, c_law ds W P X → f_law ⟨startA 7 ds, W⟩ (fEnds W P X) := by
  rintro ds W P X ⟨ns, rfl, rfl, hns, h⟩
  simp only [f_law]
  walk_at "tw"
  refine cellAt_ok (k := 0) ?_
  simp only [f_law_6]
  walk_at "tw"
  rw [cutD_to _ 63 63 rfl, List.take_of_length_le (by simpa using hns)]
  refine ⟨sz_small (by simp; omega), ?_⟩
  generalize cellAt ns 0 % 2 = way
  rw [show D.int 0 :: List.map D.int ns = List.map D.int (0 :: ns) from rfl]
  refine loop_ind (α := Int) (chk := fun _ => True) D.int (fun pre S => ∃ s2 s3 s4 s5 s6 W', S = ⟨[some (D.sq (List.map D.int ns)), some (D.int way), s2, s3, s4, s5, s6], W'⟩)
    (0 :: ns) ⟨none, none, none, none, none, _, rfl⟩ (fun _ _ _ => trivial) ?_ ?_
  · rintro pre c post S hall ⟨s2, s3, s4, s5, s6, W', rfl⟩ N hN
    simp only [f_law_4]
    walk_at "tw"
    refine ⟨_, _, rfl, fun c' w' hr => ?_⟩
    simp only [f_law_3]
    walk_at "tw"
    simp only [mLC]
    walk_at "tw"
    have hw : (W' ++ [rowO c' w'])[W'.length]? = some (rowO c' w') := by simp
    generalize hW1 : W' ++ [rowO c' w'] = W1 at hw ⊢
    have hn : W'.length < W1.length := (List.getElem?_eq_some_iff.mp hw).1
    refine ⟨by decide, by decide, ?_⟩
    rw [rngD0]
    refine lcL_ind (fun k : Nat => D.int k) (fun pre acc W2 => ∃ c2 : Int, rowOk c2 w' ∧ W2 = W1.set W'.length (rowO c2 w') ∧ (∀ x ∈ acc, plainD x = true ∧ ∀ m, x.bel m = true)) (List.range 3) W1 rfl ⟨c', hr, (set_self hw).symm, by simp⟩ (fun _ => trivial) (by decide) ?_ ?_
    · rintro pre x post acc W2 hall hW2 ⟨c1, o1, rfl, hx⟩ N hN
      simp only [lcTurn, wipeA]
      walk_at "tw"
      have hn2 : (W1.set W'.length (rowO c1 w') ++ [O.lst acc])[W'.length]? = some (rowO c1 w') := by
        rw [List.getElem?_append_left (by simpa using hn)]
        exact List.getElem?_set_self hn
      refine ⟨W'.length, c1, w', rfl, hn2, o1, fun c2 d o2 hd hb => ?_⟩
      rw [List.set_append_left _ _ (by simpa using hn), set_set']
      refine hN (some d) _ (by simp) ⟨c2, o2, rfl, fun y hy => ?_⟩
      rcases List.mem_append.mp hy with q | q
      · exact hx y q
      · simp at q; subst q; exact ⟨hd, hb⟩
    · rintro acc W2 hW2 hz ⟨c1, o1, rfl, hx⟩
      have hz3 : acc.length ≤ 3 := by simpa using hz
      have hb : ∀ (m : Nat) (l : List D), (∀ x ∈ l, plainD x = true ∧ ∀ m, x.bel m = true) → D.bels m l = true := by
        intro m l
        induction l with
        | nil => intro _; simp [D.bels]
        | cons a l ih => intro q; simp [D.bels, (q a List.mem_cons_self).2 m, ih fun x hx => q x (List.mem_cons_of_mem _ hx)]
      refine lcFin_frz2 hW2 (Cl_set (rowO_bel _ _ _)) (hb _ _ hx) ?_
      simp only [f_law_2]
      walk_at "tw"
      have key : ∀ (l : List D), (∀ x ∈ l, plainD x = true) → ∀ S5, (∃ s5, S5 = (⟨[some (D.sq (List.map D.int ns)), some (D.int way), some (D.int c), some (D.hnd W'.length), some (D.lst acc), s5, s6], W1.set W'.length (rowO c1 w')⟩ : AS)) →
          ∀ E : AEnds, E.nx = N → loop (fun _ => True) (fun x S2 E2 => f_law_1 ⟨S2.σ.set 5 (some x), S2.W⟩ E2) (l.map fun x => x) S5 E := by
        intro l h2 S5 hS5 E hE
        refine loop_ind (fun x => x) (fun pre S => ∃ s5, S = ⟨[some (D.sq (List.map D.int ns)), some (D.int way), some (D.int c), some (D.hnd W'.length), some (D.lst acc), s5, s6], W1.set W'.length (rowO c1 w')⟩) l hS5 (fun _ _ _ => trivial) ?_ ?_
        · rintro pre x post S hall ⟨s5, rfl⟩ N hN
          simp only [f_law_1]
          walk_at "tw"
          refine ⟨acc, x, rfl, h2 x (by rw [hall]; simp), fun y hy => (hx y hy).1, by omega, ?_⟩
          walk_at "tw"
          exact hN _ ⟨_, rfl⟩
        · rintro S ⟨s5, rfl⟩
          rw [hE]
          exact hN _ ⟨_, _, _, _, _, _, rfl⟩
      have := key acc (fun x q => (hx x q).1)
      rw [List.map_id'] at this
      exact this _ ⟨_, rfl⟩ _ rfl
  · rintro S ⟨s2, s3, s4, s5, s6, W', rfl⟩
    simp only [f_law_5]
    walk_at "tw"
    refine ⟨_, rfl, rfl, ?_⟩
    walk_at "tw"
    refine ⟨_, _, rfl, rfl, rfl, ?_⟩
    walk_at "tw"
    refine ⟨_, _, rfl, rfl, rfl, ?_⟩
    walk_at "tw"
    exact .inl (h _)

def dfs : List He.DefD := [⟨("_law_cell_at", none), "_law_cell_at", "_law_cell_at", defArgs s__law_cell_at, defBody s__law_cell_at, defScope s__law_cell_at, [], []⟩,
  ⟨("_law_is_name", none), "_law_is_name", "_law_is_name", defArgs s__law_is_name, defBody s__law_is_name, defScope s__law_is_name, [], []⟩,
  ⟨("_law_moment", none), "_law_moment", "_law_moment", defArgs s__law_moment, defBody s__law_moment, defScope s__law_moment, [], []⟩,
  ⟨("_law_stretch", none), "_law_stretch", "_law_stretch", defArgs s__law_stretch, defBody s__law_stretch, defScope s__law_stretch, [], []⟩,
  ⟨("_law_truth", none), "_law_truth", "_law_truth", defArgs s__law_truth, defBody s__law_truth, defScope s__law_truth, [], []⟩,
  ⟨("is_moment", none), "is_moment", "is_moment", defArgs s_is_moment, defBody s_is_moment, defScope s_is_moment, [], []⟩,
  ⟨("is_name", none), "is_name", "is_name", defArgs s_is_name, defBody s_is_name, defScope s_is_name, [], []⟩,
  ⟨("is_stretch", none), "is_stretch", "is_stretch", defArgs s_is_stretch, defBody s_is_stretch, defScope s_is_stretch, [], []⟩,
  ⟨("_law_right", none), "_law_right", "_law_right", defArgs s__law_right, defBody s__law_right, defScope s__law_right, [], []⟩,
  ⟨("_law_stream", none), "_law_stream", "_law_stream", defArgs s__law_stream, defBody s__law_stream, defScope s__law_stream, [], []⟩,
  ⟨("_law_take", none), "_law_take", "_law_take", defArgs s__law_take, defBody s__law_take, defScope s__law_take, [], []⟩,
  ⟨("_law_number", none), "_law_number", "_law_number", defArgs s__law_number, defBody s__law_number, defScope s__law_number, [], []⟩,
  ⟨("_law_text", none), "_law_text", "_law_text", defArgs s__law_text, defBody s__law_text, defScope s__law_text, [], []⟩,
  ⟨("_law_spoilt", none), "_law_spoilt", "_law_spoilt", defArgs s__law_spoilt, defBody s__law_spoilt, defScope s__law_spoilt, [], []⟩,
  ⟨("_law_thing", none), "_law_thing", "_law_thing", defArgs s__law_thing, defBody s__law_thing, defScope s__law_thing, [], []⟩,
  ⟨("law", none), "law", "law", defArgs s_law, defBody s_law, defScope s_law, [], []⟩]
def fas : List He.Fa := [.free "range",
  .free "len",
  .free "str",
  .free "isinstance",
  .free "bool",
  .free "int",
  .int "LAST" 1000000000000,
  .str "LETTERS" "abcdefghijklmnopqrstuvwxyz",
  .glo "_law_cell_at",
  .glo "_law_is_name",
  .glo "_law_moment",
  .glo "_law_stretch",
  .glo "_law_truth",
  .glo "is_moment",
  .glo "is_name",
  .glo "is_stretch",
  .glo "_law_right",
  .glo "_law_stream",
  .glo "_law_take",
  .glo "_law_number",
  .glo "_law_text",
  .glo "_law_spoilt",
  .glo "_law_thing",
  .glo "law"]
section
variable {P : Program} {w : World} {K : PySem.W.Frag} {mg : Str → Option Value} {base : Heap}
theorem sc__law_cell_at : FnScope N__law_cell_at ["script", "k"] (defScope s__law_cell_at) := ⟨rfl, rfl, rfl, by decide +kernel, rfl, by decide +kernel, by decide +kernel⟩
theorem ok__law_cell_at (T : FT fas dfs K mg) : FOk P w K mg base 1 "_law_cell_at" c__law_cell_at :=
  T.fok 0 8 (ps := ["script", "k"]) rfl rfl rfl rfl rfl (fun fd F => F.bindsN fun _ _ _ _ _ _ us hl => match us, hl with | [_, _], _ => rfl) fun fd F =>
  fnD (k := 0) F sc__law_cell_at len__law_cell_at (fun cdv A outer s H E hr tk => (ds_cons (d_if (dt_cmp op_lt opa_lt (dv 1) (de_callB call_len ca_len (T.fr 1) (by decide +kernel) (da_cons (dv 0) da_nil)) (nomark _)) (ds_one (d_ret (de_ix (hu64 hr) (dv 0) (dv 1)))) ds_nil)
  (ds_one (d_ret d_int)))) pure__law_cell_at
theorem sc__law_is_name : FnScope N__law_is_name ["thing"] (defScope s__law_is_name) := ⟨rfl, rfl, rfl, by decide +kernel, rfl, by decide +kernel, by decide +kernel⟩
theorem ok__law_is_name (T : FT fas dfs K mg) : FOk P w K mg base 1 "_law_is_name" c__law_is_name :=
  T.fok 1 9 (ps := ["thing"]) rfl rfl rfl rfl rfl (fun fd F => F.bindsN fun _ _ _ _ _ _ us hl => match us, hl with | [_], _ => rfl) fun fd F =>
  fnD (k := 0) F sc__law_is_name len__law_is_name (fun cdv A outer s H E hr tk => (ds_cons (d_if (PW.pt (dw_or (dt_not (dt_val (de_callB call_isi ca_isi (T.fr 3) (by decide +kernel) (da_cons (dv 0) (da_cons (d_type (T.fr 2) (by decide +kernel)) da_nil))))) (dw_or (dt_cmp (op_eqP (hu64 hr)) opa_eq (dv 0) d_str (nomark _)) (dw_or1 (dt_cmp op_gt opa_gt (de_callB call_len ca_len (T.fr 1) (by decide +kernel) (da_cons (dv 0) da_nil)) d_int (nomark _)))))) (ds_one (d_ret d_bl)) ds_nil)
  (ds_one (d_ret (de_cmp (op_eqP (hu64 hr)) opa_eq (de_lc (frz := true) (own := [("sign", 1)]) rfl sc__law_is_name.nd (di_any (dv 0)) (blkOk_by (own := [("sign", 1)]) (N := N__law_is_name) (sc := defScope s__law_is_name) (by decide +kernel)) (fun _ _ _ _ _ => (dg_name (own := [1]) 1 sc__law_is_name.nd)) (fun _ _ _ _ _ => (dts_one (dt_cmp (op_inT (hu64 hr)) (opa_in true) (dv 1) d_str (by with_unfolding_all rfl)))) (fun _ _ _ _ _ => (dv 1))) (de_lst (hh := false) da_nil) (nomark _)))))) pure__law_is_name
theorem sc__law_moment : FnScope N__law_moment ["thing"] (defScope s__law_moment) := ⟨rfl, rfl, rfl, by decide +kernel, rfl, by decide +kernel, by decide +kernel⟩
theorem ok__law_moment (T : FT fas dfs K mg) : FOk P w K mg base 1 "_law_moment" c__law_moment :=
  T.fok 2 10 (ps := ["thing"]) rfl rfl rfl rfl rfl (fun fd F => F.bindsN fun _ _ _ _ _ _ us hl => match us, hl with | [_], _ => rfl) fun fd F =>
  fnD (k := 0) F sc__law_moment len__law_moment (fun cdv A outer s H E hr tk => (ds_cons (d_if (PW.pt (dw_or (dt_val (de_callB call_isi ca_isi (T.fr 3) (by decide +kernel) (da_cons (dv 0) (da_cons (d_type (T.fr 4) (by decide +kernel)) da_nil)))) (dw_or1 (dt_not (dt_val (de_callB call_isi ca_isi (T.fr 3) (by decide +kernel) (da_cons (dv 0) (da_cons (d_type (T.fr 5) (by decide +kernel)) da_nil)))))))) (ds_one (d_ret d_bl)) ds_nil)
  (ds_one (d_ret (de_and (de_not (de_cmp op_lt opa_lt (dv 0) d_int (nomark _))) (de_one (de_not (de_cmp op_gt opa_gt (dv 0) (de_bin op_pow opa_pow d_int d_int) (nomark _))))))))) pure__law_moment
theorem sc__law_stretch : FnScope N__law_stretch ["one", "other"] (defScope s__law_stretch) := ⟨rfl, rfl, rfl, by decide +kernel, rfl, by decide +kernel, by decide +kernel⟩
structure Cs__law_stretch (P : Program) (w : World) (K : PySem.W.Frag) (mg : Str → Option Value) (base : Heap) : Prop where
  _law_moment : FOk P w K mg base 1 "_law_moment" c__law_moment
theorem ok__law_stretch (T : FT fas dfs K mg) (C : Cs__law_stretch P w K mg base) : FOk P w K mg base 2 "_law_stretch" c__law_stretch :=
  T.fok 3 11 (ps := ["one", "other"]) rfl rfl rfl rfl rfl (fun fd F => F.bindsN fun _ _ _ _ _ _ us hl => match us, hl with | [_, _], _ => rfl) fun fd F =>
  fnD (k := 1) F sc__law_stretch len__law_stretch (fun cdv A outer s H E hr tk => (ds_cons (d_if (dt_not (dt_val (dc C._law_moment hr tk (da_cons (dv 0) da_nil)))) (ds_one (d_ret d_bl)) ds_nil)
  (ds_one (d_ret (de_or (de_cmp op_isN opa_isN (dv 1) d_non (nomark _)) (de_one (de_and (dc C._law_moment hr tk (da_cons (dv 1) da_nil)) (de_one (de_cmp op_lt opa_lt (dv 0) (dv 1) (nomark _)))))))))) pure__law_stretch
theorem sc__law_truth : FnScope N__law_truth ["found", "due"] (defScope s__law_truth) := ⟨rfl, rfl, rfl, by decide +kernel, rfl, by decide +kernel, by decide +kernel⟩
theorem ok__law_truth (T : FT fas dfs K mg) : FOk P w K mg base 1 "_law_truth" c__law_truth :=
  T.fok 4 12 (ps := ["found", "due"]) rfl rfl rfl rfl rfl (fun fd F => F.bindsN fun _ _ _ _ _ _ us hl => match us, hl with | [_, _], _ => rfl) fun fd F =>
  fnD (k := 0) F sc__law_truth len__law_truth (fun cdv A outer s H E hr tk => (ds_one (d_ret (de_and (de_callB call_isi ca_isi (T.fr 3) (by decide +kernel) (da_cons (dv 0) (da_cons (d_type (T.fr 4) (by decide +kernel)) da_nil))) (de_one (de_cmp (op_eqP (hu64 hr)) opa_eq (dv 0) (dv 1) (nomark _))))))) pure__law_truth
theorem sc_is_moment : FnScope N_is_moment ["thing"] (defScope s_is_moment) := ⟨rfl, rfl, rfl, by decide +kernel, rfl, by decide +kernel, by decide +kernel⟩
theorem ok_is_moment (T : FT fas dfs K mg) : FOk P w K mg base 1 "is_moment" c_is_moment :=
  T.fok 5 13 (ps := ["thing"]) rfl rfl rfl rfl rfl (fun fd F => F.bindsN fun _ _ _ _ _ _ us hl => match us, hl with | [_], _ => rfl) fun fd F =>
  fnD (k := 0) F sc_is_moment len_is_moment (fun cdv A outer s H E hr tk => (ds_one (d_ret (de_and (de_callB call_isi ca_isi (T.fr 3) (by decide +kernel) (da_cons (dv 0) (da_cons (d_type (T.fr 5) (by decide +kernel)) da_nil))) (de_and (de_not (de_callB call_isi ca_isi (T.fr 3) (by decide +kernel) (da_cons (dv 0) (da_cons (d_type (T.fr 4) (by decide +kernel)) da_nil)))) (de_one (de_chain op_le opa_le op_le opa_le d_int (dv 0) (dgI (T.int 6))))))))) pure_is_moment
theorem sc_is_name : FnScope N_is_name ["thing"] (defScope s_is_name) := ⟨rfl, rfl, rfl, by decide +kernel, rfl, by decide +kernel, by decide +kernel⟩
theorem ok_is_name (T : FT fas dfs K mg) : FOk P w K mg base 1 "is_name" c_is_name :=
  T.fok 6 14 (ps := ["thing"]) rfl rfl rfl rfl rfl (fun fd F => F.bindsN fun _ _ _ _ _ _ us hl => match us, hl with | [_], _ => rfl) fun fd F =>
  fnD (k := 0) F sc_is_name len_is_name (fun cdv A outer s H E hr tk => (ds_cons (d_if (PW.pt (dw_or (dt_not (dt_val (de_callB call_isi ca_isi (T.fr 3) (by decide +kernel) (da_cons (dv 0) (da_cons (d_type (T.fr 2) (by decide +kernel)) da_nil))))) (dw_or1 (dt_not (dt_chain op_le opa_le op_le opa_le d_int (de_callB call_len ca_len (T.fr 1) (by decide +kernel) (da_cons (dv 0) da_nil)) d_int))))) (ds_one (d_ret d_bl)) ds_nil)
  (ds_cons (d_for (passes_of rfl) rfl (di_any (dv 0)) (dg_name (own := [1]) 1 sc_is_name.nd) (ds_one (d_if (dt_cmp (op_inT (hu64 hr)) (opa_in true) (dv 1) (dgS (T.str 7)) (by with_unfolding_all rfl)) (ds_one (d_ret d_bl)) ds_nil)))
  (ds_one (d_ret d_bl))))) pure_is_name
theorem sc_is_stretch : FnScope N_is_stretch ["begin", "end"] (defScope s_is_stretch) := ⟨rfl, rfl, rfl, by decide +kernel, rfl, by decide +kernel, by decide +kernel⟩
structure Cs_is_stretch (P : Program) (w : World) (K : PySem.W.Frag) (mg : Str → Option Value) (base : Heap) : Prop where
  is_moment : FOk P w K mg base 1 "is_moment" c_is_moment
theorem ok_is_stretch (T : FT fas dfs K mg) (C : Cs_is_stretch P w K mg base) : FOk P w K mg base 2 "is_stretch" c_is_stretch :=
  T.fok 7 15 (ps := ["begin", "end"]) rfl rfl rfl rfl rfl (fun fd F => F.bindsN fun _ _ _ _ _ _ us hl => match us, hl with | [_, _], _ => rfl) fun fd F =>
  fnD (k := 1) F sc_is_stretch len_is_stretch (fun cdv A outer s H E hr tk => (ds_cons (d_if (dt_not (dt_val (dc C.is_moment hr tk (da_cons (dv 0) da_nil)))) (ds_one (d_ret d_bl)) ds_nil)
  (ds_one (d_ret (de_or (de_cmp op_isN opa_isN (dv 1) d_non (nomark _)) (de_one (de_and (dc C.is_moment hr tk (da_cons (dv 1) da_nil)) (de_one (de_cmp op_gt opa_gt (dv 1) (dv 0) (nomark _)))))))))) pure_is_stretch
theorem sc__law_right : FnScope N__law_right ["things", "one"] (defScope s__law_right) := ⟨rfl, rfl, rfl, by decide +kernel, rfl, by decide +kernel, by decide +kernel⟩
structure Cs__law_right (P : Program) (w : World) (K : PySem.W.Frag) (mg : Str → Option Value) (base : Heap) : Prop where
  _law_is_name : FOk P w K mg base 1 "_law_is_name" c__law_is_name
  _law_moment : FOk P w K mg base 1 "_law_moment" c__law_moment
  _law_stretch : FOk P w K mg base 2 "_law_stretch" c__law_stretch
  _law_truth : FOk P w K mg base 1 "_law_truth" c__law_truth
  is_moment : FOk P w K mg base 1 "is_moment" c_is_moment
  is_name : FOk P w K mg base 1 "is_name" c_is_name
  is_stretch : FOk P w K mg base 2 "is_stretch" c_is_stretch
theorem ok__law_right (T : FT fas dfs K mg) (C : Cs__law_right P w K mg base) : FOk P w K mg base 3 "_law_right" c__law_right :=
  T.fok 8 16 (ps := ["things", "one"]) rfl rfl rfl rfl rfl (fun fd F => F.bindsN fun _ _ _ _ _ _ us hl => match us, hl with | [_, _], _ => rfl) fun fd F =>
  fnD (k := 2) F sc__law_right len__law_right (fun cdv A outer s H E hr tk => (ds_cons (d_if (PW.pt (dw_or (dt_not (dt_val (dc C._law_truth hr tk (da_cons (dc C.is_name hr tk (da_cons (dv 1) da_nil)) (da_cons (dc C._law_is_name hr tk (da_cons (dv 1) da_nil)) da_nil))))) (dw_or1 (dt_not (dt_val (dc C._law_truth hr tk (da_cons (dc C.is_moment hr tk (da_cons (dv 1) da_nil)) (da_cons (dc C._law_moment hr tk (da_cons (dv 1) da_nil)) da_nil)))))))) (ds_one (d_ret d_bl)) ds_nil)
  (ds_cons (d_set 2 sc__law_right.nd (de_bin op_addAll (opa_add false) (dv 0) (de_lst (hh := false) (da_cons d_non da_nil))))
  (ds_cons (d_if (dt_val (dc C._law_moment hr tk (da_cons (dv 1) da_nil))) (ds_one (d_set 2 sc__law_right.nd (de_bin op_addAll (opa_add false) (dv 2) (de_lst (hh := false) (da_cons (de_bin op_addAll (opa_add false) (dv 1) d_int) (da_cons (de_bin op_sub opa_sub (dv 1) d_int) (da_cons (de_bin op_pow opa_pow d_int d_int) da_nil))))))) ds_nil)
  (ds_cons (d_for (passes_of rfl) rfl (di_any (dv 2)) (dg_name (own := [3]) 3 sc__law_right.nd) (ds_cons (d_if (dt_not (dt_val (dc C._law_truth hr tk (da_cons (dc C.is_stretch hr tk (da_cons (dv 1) (da_cons (dv 3) da_nil))) (da_cons (dc C._law_stretch hr tk (da_cons (dv 1) (da_cons (dv 3) da_nil))) da_nil))))) (ds_one (d_ret d_bl)) ds_nil)
  (ds_one (d_if (dt_not (dt_val (dc C._law_truth hr tk (da_cons (dc C.is_stretch hr tk (da_cons (dv 3) (da_cons (dv 1) da_nil))) (da_cons (dc C._law_stretch hr tk (da_cons (dv 3) (da_cons (dv 1) da_nil))) da_nil))))) (ds_one (d_ret d_bl)) ds_nil))))
  (ds_one (d_ret d_bl))))))) pure__law_right
theorem sc__law_stream : FnScope N__law_stream ["cell", "way"] (defScope s__law_stream) := ⟨rfl, rfl, rfl, by decide +kernel, rfl, by decide +kernel, by decide +kernel⟩
theorem ok__law_stream (T : FT fas dfs K mg) : FOk P w K mg base 1 "_law_stream" c__law_stream :=
  T.fok 9 17 (ps := ["cell", "way"]) rfl rfl rfl rfl rfl (fun fd F => F.bindsN fun _ _ _ _ _ _ us hl => match us, hl with | [_, _], _ => rfl) fun fd F =>
  fnD (k := 0) F sc__law_stream len__law_stream (fun cdv A outer s H E hr tk => (ds_cons (d_if (dt_cmp (op_eqP (hu64 hr)) opa_eq (dv 1) d_int (nomark _)) (ds_one (d_ret (de_lst (hh := true) (da_cons (dv 0) (da_cons d_int da_nil))))) ds_nil)
  (ds_cons (d_set 2 sc__law_stream.nd (de_bin op_mod opa_mod (dv 0) d_int))
  (ds_cons (d_set 2 sc__law_stream.nd (de_bin op_mod opa_mod (de_bin op_addAll (opa_add false) (de_bin op_mul opa_mul (de_bin op_mod opa_mod (de_bin op_mul opa_mul (dv 2) (dv 2)) d_int) (de_bin op_addAll (opa_add false) (dv 2) d_int)) d_int) d_int))
  (ds_one (d_ret (de_lst (hh := true) (da_cons (dv 2) (da_cons d_int da_nil))))))))) pure__law_stream
theorem sc__law_take : FnScope N__law_take ["row", "many"] (defScope s__law_take) := ⟨rfl, rfl, rfl, by decide +kernel, rfl, by decide +kernel, by decide +kernel⟩
theorem ok__law_take (T : FT fas dfs K mg) : FOk P w K mg base 1 "_law_take" c__law_take :=
  T.fok 10 18 (ps := ["row", "many"]) rfl rfl rfl rfl rfl (fun fd F => F.bindsN fun _ _ _ _ _ _ us hl => match us, hl with | [_, _], _ => rfl) fun fd F =>
  fnD (k := 0) F sc__law_take len__law_take (fun cdv A outer s H E hr tk => (ds_cons (d_if (dt_cmp (op_eqP (hu64 hr)) opa_eq (de_ix (hu64 hr) (dv 0) d_int) d_int (nomark _)) (ds_cons (d_set 2 sc__law_take.nd (de_bin op_mod opa_mod (de_ix (hu64 hr) (dv 0) d_int) (dv 1)))
  (ds_cons (d_asg (de_bin op_fdivW opa_div (de_ix (hu64 hr) (dv 0) d_int) (dv 1)) (dg_sub (own := []) (hu64 hr) (dv 0) d_int))
  (ds_one (d_ret (dv 2))))) ds_nil)
  (ds_cons (d_asg (de_bin op_mod opa_mod (de_bin op_mul opa_mul (de_bin op_addAll (opa_add false) (de_ix (hu64 hr) (dv 0) d_int) d_int) (de_bin op_addAll (opa_add false) (de_ix (hu64 hr) (dv 0) d_int) d_int)) d_int) (dg_sub (own := []) (hu64 hr) (dv 0) d_int))
  (ds_one (d_ret (de_bin op_mod opa_mod (de_bin op_addAll (opa_add false) (de_bin op_mul opa_mul (de_ix (hu64 hr) (dv 0) d_int) d_int) d_int) (dv 1))))))) pure__law_take
theorem sc__law_number : FnScope N__law_number ["row", "kind"] (defScope s__law_number) := ⟨rfl, rfl, rfl, by decide +kernel, rfl, by decide +kernel, by decide +kernel⟩
structure Cs__law_number (P : Program) (w : World) (K : PySem.W.Frag) (mg : Str → Option Value) (base : Heap) : Prop where
  _law_take : FOk P w K mg base 1 "_law_take" c__law_take
theorem ok__law_number (T : FT fas dfs K mg) (C : Cs__law_number P w K mg base) : FOk P w K mg base 2 "_law_number" c__law_number :=
  T.fok 11 19 (ps := ["row", "kind"]) rfl rfl rfl rfl rfl (fun fd F => F.bindsN fun _ _ _ _ _ _ us hl => match us, hl with | [_, _], _ => rfl) fun fd F =>
  fnD (k := 1) F sc__law_number len__law_number (fun cdv A outer s H E hr tk => (ds_cons (d_if (dt_cmp (op_eqP (hu64 hr)) opa_eq (dv 1) d_int (nomark _)) (ds_one (d_ret (dc C._law_take hr tk (da_cons (dv 0) (da_cons d_int da_nil))))) ds_nil)
  (ds_cons (d_if (dt_cmp (op_eqP (hu64 hr)) opa_eq (dv 1) d_int (nomark _)) (ds_one (d_ret (de_bin op_sub opa_sub (de_bin op_pow opa_pow d_int d_int) (dc C._law_take hr tk (da_cons (dv 0) (da_cons (de_ix (hu64 hr) (de_lst (hh := false) (da_cons d_int (da_cons (de_bin op_addAll (opa_add false) (de_bin op_pow opa_pow d_int d_int) d_int) da_nil))) (dc C._law_take hr tk (da_cons (dv 0) (da_cons d_int da_nil)))) da_nil)))))) ds_nil)
  (ds_cons (d_if (dt_cmp (op_eqP (hu64 hr)) opa_eq (dv 1) d_int (nomark _)) (ds_one (d_ret (de_bin op_addAll (opa_add false) (de_bin op_addAll (opa_add false) (de_bin op_pow opa_pow d_int d_int) d_int) (dc C._law_take hr tk (da_cons (dv 0) (da_cons (de_ix (hu64 hr) (de_lst (hh := false) (da_cons d_int (da_cons (de_bin op_pow opa_pow d_int d_int) da_nil))) (dc C._law_take hr tk (da_cons (dv 0) (da_cons d_int da_nil)))) da_nil)))))) ds_nil)
  (ds_one (d_ret (de_bin op_sub opa_sub (de_neg d_int) (dc C._law_take hr tk (da_cons (dv 0) (da_cons (de_ix (hu64 hr) (de_lst (hh := false) (da_cons d_int (da_cons (de_bin op_pow opa_pow d_int d_int) da_nil))) (dc C._law_take hr tk (da_cons (dv 0) (da_cons d_int da_nil)))) da_nil)))))))))) pure__law_number
theorem sc__law_text : FnScope N__law_text ["row", "size"] (defScope s__law_text) := ⟨rfl, rfl, rfl, by decide +kernel, rfl, by decide +kernel, by decide +kernel⟩
structure Cs__law_text (P : Program) (w : World) (K : PySem.W.Frag) (mg : Str → Option Value) (base : Heap) : Prop where
  _law_take : FOk P w K mg base 1 "_law_take" c__law_take
theorem ok__law_text (T : FT fas dfs K mg) (C : Cs__law_text P w K mg base) : FOk P w K mg base 2 "_law_text" c__law_text :=
  T.fok 12 20 (ps := ["row", "size"]) rfl rfl rfl rfl rfl (fun fd F => F.bindsN fun _ _ _ _ _ _ us hl => match us, hl with | [_, _], _ => rfl) fun fd F =>
  fnD (k := 1) F sc__law_text len__law_text (fun cdv A outer s H E hr tk => (ds_cons (d_set 2 sc__law_text.nd d_str)
  (ds_one (d_ret (de_bm (pe_bm PySem.F.plainAttrs_str PySem.F.slot_str_join PySem.F.type_str_join mt_join d_str (da_cons (de_lc (frz := true) (own := [("k", 3)]) rfl sc__law_text.nd (di_range1 (T.fr 0) (da_cons (dv 1) da_nil)) (blkOk_by (own := [("k", 3)]) (N := N__law_text) (sc := defScope s__law_text) (by decide +kernel)) (fun _ _ _ _ _ => (dg_name (own := [3]) 3 sc__law_text.nd)) (fun _ _ _ _ _ => dts_nil) (fun _ _ _ _ _ => (de_ix (hu64 hr) (dv 2) (dc C._law_take hr takes0 (da_cons (dv 0) (da_cons d_int da_nil)))))) da_nil)) ty_str ma_join))))) pure__law_text
theorem sc__law_spoilt : FnScope N__law_spoilt ["row"] (defScope s__law_spoilt) := ⟨rfl, rfl, rfl, by decide +kernel, rfl, by decide +kernel, by decide +kernel⟩
structure Cs__law_spoilt (P : Program) (w : World) (K : PySem.W.Frag) (mg : Str → Option Value) (base : Heap) : Prop where
  _law_take : FOk P w K mg base 1 "_law_take" c__law_take
  _law_text : FOk P w K mg base 2 "_law_text" c__law_text
theorem ok__law_spoilt (T : FT fas dfs K mg) (C : Cs__law_spoilt P w K mg base) : FOk P w K mg base 3 "_law_spoilt" c__law_spoilt :=
  T.fok 13 21 (ps := ["row"]) rfl rfl rfl rfl rfl (fun fd F => F.bindsN fun _ _ _ _ _ _ us hl => match us, hl with | [_], _ => rfl) fun fd F =>
  fnD (k := 2) F sc__law_spoilt len__law_spoilt (fun cdv A outer s H E hr tk => (ds_cons (d_set 1 sc__law_spoilt.nd (dc C._law_text hr tk (da_cons (dv 0) (da_cons (de_bin op_addAll (opa_add false) d_int (dc C._law_take hr tk (da_cons (dv 0) (da_cons d_int da_nil)))) da_nil))))
  (ds_cons (d_set 2 sc__law_spoilt.nd (dc C._law_take hr tk (da_cons (dv 0) (da_cons (de_callB call_len ca_len (T.fr 1) (by decide +kernel) (da_cons (dv 1) da_nil)) da_nil))))
  (ds_cons (d_set 3 sc__law_spoilt.nd (de_ix (hu64 hr) d_str (dc C._law_take hr tk (da_cons (dv 0) (da_cons d_int da_nil)))))
  (ds_one (d_ret (de_bin op_addAll (opa_add false) (de_bin op_addAll (opa_add false) (de_sl (hh := false) (dv 1) do_none (do_some (dv 2))) (dv 3)) (de_sl (hh := false) (dv 1) (do_some (de_bin op_addAll (opa_add false) (dv 2) (dc C._law_take hr tk (da_cons (dv 0) (da_cons d_int da_nil))))) do_none)))))))) pure__law_spoilt
theorem sc__law_thing : FnScope N__law_thing ["row"] (defScope s__law_thing) := ⟨rfl, rfl, rfl, by decide +kernel, rfl, by decide +kernel, by decide +kernel⟩
structure Cs__law_thing (P : Program) (w : World) (K : PySem.W.Frag) (mg : Str → Option Value) (base : Heap) : Prop where
  _law_number : FOk P w K mg base 2 "_law_number" c__law_number
  _law_spoilt : FOk P w K mg base 3 "_law_spoilt" c__law_spoilt
  _law_take : FOk P w K mg base 1 "_law_take" c__law_take
  _law_text : FOk P w K mg base 2 "_law_text" c__law_text
theorem ok__law_thing (T : FT fas dfs K mg) (C : Cs__law_thing P w K mg base) : FOk P w K mg base 4 "_law_thing" c__law_thing :=
  T.fok 14 22 (ps := ["row"]) rfl rfl rfl rfl rfl (fun fd F => F.bindsN fun _ _ _ _ _ _ us hl => match us, hl with | [_], _ => rfl) fun fd F =>
  fnD (k := 3) F sc__law_thing len__law_thing (fun cdv A outer s H E hr tk => (ds_cons (d_set 1 sc__law_thing.nd (dc C._law_take hr tk (da_cons (dv 0) (da_cons d_int da_nil))))
  (ds_cons (d_if (dt_cmp (op_eqP (hu64 hr)) opa_eq (dv 1) d_int (nomark _)) (ds_one (d_ret (dc C._law_text hr tk (da_cons (dv 0) (da_cons (de_bin op_addAll (opa_add false) d_int (dc C._law_take hr tk (da_cons (dv 0) (da_cons d_int da_nil)))) da_nil))))) ds_nil)
  (ds_cons (d_if (dt_cmp (op_eqP (hu64 hr)) opa_eq (dv 1) d_int (nomark _)) (ds_one (d_ret (dc C._law_text hr tk (da_cons (dv 0) (da_cons (de_ix (hu64 hr) (de_lst (hh := false) (da_cons d_int (da_cons d_int (da_cons (de_bin op_addAll (opa_add false) d_int (dc C._law_take hr tk (da_cons (dv 0) (da_cons d_int da_nil)))) da_nil)))) (dc C._law_take hr tk (da_cons (dv 0) (da_cons d_int da_nil)))) da_nil))))) ds_nil)
  (ds_cons (d_if (dt_cmp (op_eqP (hu64 hr)) opa_eq (dv 1) d_int (nomark _)) (ds_one (d_ret (dc C._law_spoilt hr tk (da_cons (dv 0) da_nil)))) ds_nil)
  (ds_cons (d_if (dt_cmp op_lt opa_lt (dv 1) d_int (nomark _)) (ds_one (d_ret (dc C._law_number hr tk (da_cons (dv 0) (da_cons (dv 1) da_nil))))) ds_nil)
  (ds_cons (d_if (dt_cmp (op_eqP (hu64 hr)) opa_eq (dv 1) d_int (nomark _)) (ds_one (d_ret d_non)) ds_nil)
  (ds_cons (d_if (dt_cmp (op_eqP (hu64 hr)) opa_eq (dv 1) d_int (nomark _)) (ds_one (d_ret (de_cmp (op_eqP (hu64 hr)) opa_eq (dc C._law_take hr tk (da_cons (dv 0) (da_cons d_int da_nil))) d_int (nomark _)))) ds_nil)
  (ds_one (d_ret (de_ix (hu64 hr) (de_lst (hh := false) (da_cons (de_lst (hh := false) da_nil) (da_cons (de_lst (hh := false) (da_cons d_str da_nil)) (da_cons (de_tup (da_cons d_str da_nil)) (da_cons (de_dct0 (h := false)) (da_cons d_str (da_cons d_str (da_cons (de_tup (da_cons d_int (da_cons d_int da_nil))) da_nil)))))))) (dc C._law_take hr tk (da_cons (dv 0) (da_cons d_int da_nil)))))))))))))) pure__law_thing
theorem sc_law : FnScope N_law ["script"] (defScope s_law) := ⟨rfl, rfl, rfl, by decide +kernel, rfl, by decide +kernel, by decide +kernel⟩
structure Cs_law (P : Program) (w : World) (K : PySem.W.Frag) (mg : Str → Option Value) (base : Heap) : Prop where
  _law_cell_at : FOk P w K mg base 1 "_law_cell_at" c__law_cell_at
  _law_right : FOk P w K mg base 3 "_law_right" c__law_right
  _law_stream : FOk P w K mg base 1 "_law_stream" c__law_stream
  _law_thing : FOk P w K mg base 4 "_law_thing" c__law_thing
  is_moment : FOk P w K mg base 1 "is_moment" c_is_moment
  is_stretch : FOk P w K mg base 2 "is_stretch" c_is_stretch
theorem ok_all (T : FT fas dfs K mg) (fd : FuncData) (F : FunD K "law" "law" (defArgs s_law) (defBody s_law) (defScope s_law) [] [] (He.ga K "law") fd) : FnOk P w K mg base (L2.CX P w) 5 (He.ga K "law") fd ["script"] (spOf K cLaw) := by
  have h__law_cell_at := ok__law_cell_at (P := P) (w := w) (base := base) T
  have h__law_is_name := ok__law_is_name (P := P) (w := w) (base := base) T
  have h__law_moment := ok__law_moment (P := P) (w := w) (base := base) T
  have h__law_stretch := ok__law_stretch (P := P) (w := w) (base := base) T ⟨h__law_moment⟩
  have h__law_truth := ok__law_truth (P := P) (w := w) (base := base) T
  have h_is_moment := ok_is_moment (P := P) (w := w) (base := base) T
  have h_is_name := ok_is_name (P := P) (w := w) (base := base) T
  have h_is_stretch := ok_is_stretch (P := P) (w := w) (base := base) T ⟨h_is_moment⟩
  have h__law_right := ok__law_right (P := P) (w := w) (base := base) T ⟨h__law_is_name, h__law_moment, h__law_stretch, h__law_truth, h_is_moment, h_is_name, h_is_stretch⟩
  have h__law_stream := ok__law_stream (P := P) (w := w) (base := base) T
  have h__law_take := ok__law_take (P := P) (w := w) (base := base) T
  have h__law_number := ok__law_number (P := P) (w := w) (base := base) T ⟨h__law_take⟩
  have h__law_text := ok__law_text (P := P) (w := w) (base := base) T ⟨h__law_take⟩
  have h__law_spoilt := ok__law_spoilt (P := P) (w := w) (base := base) T ⟨h__law_take, h__law_text⟩
  have h__law_thing := ok__law_thing (P := P) (w := w) (base := base) T ⟨h__law_number, h__law_spoilt, h__law_take, h__law_text⟩
  have C : Cs_law P w K mg base := ⟨h__law_cell_at, h__law_right, h__law_stream, h__law_thing, h_is_moment, h_is_stretch⟩
  exact fnD (k := 4) F sc_law len_law (fun cdv A outer s H E hr tk => (ds_cons (d_set 1 sc_law.nd (de_bin op_mod opa_mod (dc C._law_cell_at hr tk (da_cons (dv 0) (da_cons d_int da_nil))) d_int))
  (ds_cons (d_for (passes_of rfl) rfl (di_any (de_bin op_addAll (opa_add false) (de_lst (hh := false) (da_cons d_int da_nil)) (de_sl (hh := false) (dv 0) do_none (do_some d_int)))) (dg_name (own := [2]) 2 sc_law.nd) (ds_cons (d_set 3 sc_law.nd (dc C._law_stream hr tk (da_cons (de_bin op_fdivW opa_div (dv 2) d_int) (da_cons (dv 1) da_nil))))
  (ds_cons (d_setLc 4 (frz := true) (own := [("k", 6)]) rfl sc_law.nd (sw_true rfl rfl rfl (by decide +kernel)) (di_range1 (T.fr 0) (da_cons d_int da_nil)) (blkOk_by (own := [("k", 6)]) (N := N_law) (sc := defScope s_law) (by decide +kernel)) (fun _ _ _ _ _ => (dg_name (own := [6]) 6 sc_law.nd)) (fun _ _ _ _ _ => dts_nil) (fun _ _ _ _ _ => (dc C._law_thing hr takes0 (da_cons (dv 3) da_nil))))
  (ds_one (d_for (passes_of rfl) rfl (di_any (dv 4)) (dg_name (own := [5]) 5 sc_law.nd) (ds_one (d_if (dt_not (dt_val (dc C._law_right hr tk (da_cons (dv 4) (da_cons (dv 5) da_nil))))) (ds_one (d_ret d_bl)) ds_nil)))))))
  (ds_one (d_ret (de_and (de_cmp op_is_bl opa_isB (dc C.is_moment hr tk (da_cons d_bl da_nil)) d_bl (nomark _)) (de_and (de_cmp op_is_bl opa_isB (dc C.is_stretch hr tk (da_cons d_int (da_cons d_bl da_nil))) d_bl (nomark _)) (de_one (de_cmp op_is_bl opa_isB (dc C.is_stretch hr tk (da_cons d_bl (da_cons d_int da_nil))) d_bl (nomark _)))))))))) pure_law
end
abbrev R : PySem.W.OpenRow := PySem.W.OpenLaw.row PySem.Challenge.rw_twotimes_k01_names_moments_stretches
abbrev hk : PySem.W.Hook := He.hookD 5 fas dfs
def ob (s : PySem.W.SharedT) : He.AlD := He.obsDG 5 fas dfs (HandSHeadRun.getT s)
theorem ob_eq (s : PySem.W.SharedT) : ob s = hk.obs s.abs := He.obsDG_eq (HandSHeadRun.getT_eq s)
def loose : List PySem.Str := (["LAST", "LETTERS", "is_name", "is_moment", "is_stretch", "_law_cell_at", "_law_stream", "_law_take", "_law_text", "_law_spoilt", "_law_number", "_law_thing", "_law_is_name", "_law_moment", "_law_stretch", "_law_truth", "_law_right"] : List PySem.Str)
theorem run (w : World) : HandSHeadRun.RunEq R (PySem.W.view R.prog [19]) hk ob 4000 loose w := by
  intro os
  kernel_rfl
end Kx
open PySem PySem.W PySem.Calls PyProof.Rows
set_option maxRecDepth 100000 in
set_option maxHeartbeats 0 in
theorem PySem.Challenge.cw_twotimes_k01_names_moments_stretches_holds : PySem.Challenge.rw_twotimes_k01_names_moments_stretches.Holds := by
  w_on; o_law
  refine HandSHeadRun.head_any (r := OpenLaw.row PySem.Challenge.rw_twotimes_k01_names_moments_stretches) (q := view (OpenLaw.row PySem.Challenge.rw_twotimes_k01_names_moments_stretches).prog [19]) (H := Kx.hk) (ob := Kx.ob) (M := 4000) (loose := Kx.loose) (d := HandSHeadRun.topDef (OpenLaw.row PySem.Challenge.rw_twotimes_k01_names_moments_stretches).prog 19) (kwd := []) Kx.ob_eq
    (by kernel_rfl) (fun s => by kernel_rfl) Kx.run (by kernel_rfl) (by kernel_rfl) (by kernel_rfl) (by rfl) (by first | assumption | decide +kernel) (by decide +kernel) ⟨rfl, rfl, rfl, rfl, rfl, by decide +kernel⟩ ?hw ?hc
  case hw => w_witness2
  case hc =>
    exact Tw.law_end (l := PySem.Challenge.rw_twotimes_k01_names_moments_stretches) (k := 5) (i := 15) (j := 23) rfl (by kernel_rfl) ⟨rfl, by decide, by decide⟩ rfl rfl rfl rfl (by kernel_rfl)
      (fun K fd F s u => F.bindsA (ps := ["script"]) (fun _ _ _ _ _ _ us hl => match us, hl with | [_], _ => rfl) s [u] rfl) (fun w K mg base T fd F => Kx.ok_all T fd F) rfl
