import PyProof.Rows.All
import Wide.All
import OpenK.AllK
import Wide.FinOn
import KE.KStateDown
import Lean
import HandS.Base
import HandS.Call
import HandS.Ends
import HandS.Defaults
import HandS.Head0
import HandS.Head1
import HandS.Head2
import HandS.HeadEnd
import HandS.HeadHook1
import HandS.HeadHook2
import HandS.ForMost
import HandS.IsInst
import HandS.SortInts
import HandS.Wide
import HandS.WideBits
import HandS.Flow
import HandS.Zip
import HandS.Conv
import HandS.Walk
import HandS.Deep
import HandS.More
import HandS.Style
import HandS.Star
import PyProof.ReprRoads
import HandS.Dict
import HandS.SetFor
import HandS.Comp
import HandS.DictComp
import HandS.Text
import PyProof.SumWalkG
import HandS.ExcValue
import HandS.NoneIn
import KE.SortData
import KE.DataMinMax
import HandS.TupSets
import HandS.TupLen
import KE.KDictPairs
import PySem.Challenge.RW_suretricks_k21_whole_words_of_shuffles
set_option Elab.async false
set_option linter.all false
set_option maxRecDepth 100000
set_option maxHeartbeats 4000000

namespace DL
open PySem PySem.Spec PyProof.Rows L2
/-! the plain layer: values without addresses, what represents them, the transfer of readings -/

/-- plain data; ref: a thing at an address that is looked up in the table of mutable things -/
inductive D where
  | non | bl (b : Bool) | int (i : Int) | str (x : Str) | ref (a : Addr) | ty (n : String)
  | lst (xs : List D) | tup (xs : List D) | dct (ks : List Key) (xs : List D)
  /-- the law's own list: read, never written -/
  | scr (K : PySem.W.Frag) (xs : List D)
mutual
/-- v stands for d in the heap F -/
def Rp (F : Hp) : D → V → Prop
  | .non, v => v = .non
  | .bl b, v => v = .bl b
  | .int i, v => v = .int i
  | .str x, v => v = .str x
  | .ref a, v => v = .ref a
  | .ty n, v => v = .ty n
  | .lst xs, v => ∃ a vs, v = .ref a ∧ F a = some (.lst vs) ∧ RpL F xs vs
  | .tup xs, v => ∃ a vs, v = .ref a ∧ F a = some (.tup vs) ∧ RpL F xs vs
  | .dct ks xs, v => ∃ a kvs, v = .ref a ∧ F a = some (.dK kvs) ∧ kvs.map (·.1) = ks ∧ RpL F xs (kvs.map (·.2))
  | .scr K xs, v => ∃ a vs, v = .ref a ∧ SqL K F a vs ∧ RpL F xs vs
def RpL (F : Hp) : List D → List V → Prop
  | [], vs => vs = []
  | x :: xs, vs => ∃ v r, vs = v :: r ∧ Rp F x v ∧ RpL F xs r
end
mutual
theorem Rp.mono {F F' : Hp} (s : Same F F') : ∀ (d : D) (v : V), Rp F d v → Rp F' d v
  | .non, _, h => h
  | .bl _, _, h => h
  | .int _, _, h => h
  | .str _, _, h => h
  | .ref _, _, h => h
  | .ty _, _, h => h
  | .lst xs, _, ⟨a, vs, e, f, r⟩ => ⟨a, vs, e, s _ _ f, RpL.mono s xs vs r⟩
  | .tup xs, _, ⟨a, vs, e, f, r⟩ => ⟨a, vs, e, s _ _ f, RpL.mono s xs vs r⟩
  | .dct ks xs, _, ⟨a, vs, e, f, k, r⟩ => ⟨a, vs, e, s _ _ f, k, RpL.mono s xs _ r⟩
  | .scr K xs, _, ⟨a, vs, e, f, r⟩ => ⟨a, vs, e, s.seq f, RpL.mono s xs vs r⟩
theorem RpL.mono {F F' : Hp} (s : Same F F') : ∀ (xs : List D) (vs : List V), RpL F xs vs → RpL F' xs vs
  | [], _, h => h
  | x :: xs, _, ⟨v, r, e, h1, h2⟩ => ⟨v, r, e, Rp.mono s x v h1, RpL.mono s xs r h2⟩
end
theorem RpL.length {F : Hp} : ∀ {xs : List D} {vs : List V}, RpL F xs vs → vs.length = xs.length
  | [], _, h => by cases h; rfl
  | x :: xs, _, ⟨v, r, e, h1, h2⟩ => by subst e; simp [RpL.length h2]
theorem RpL.append {F : Hp} : ∀ {xs ys : List D} {vs ws : List V}, RpL F xs vs → RpL F ys ws → RpL F (xs ++ ys) (vs ++ ws)
  | [], _, _, _, h, h' => by cases h; exact h'
  | x :: xs, _, _, _, ⟨v, r, e, h1, h2⟩, h' => by subst e; exact ⟨v, _, rfl, h1, RpL.append h2 h'⟩
theorem RpL.get {F : Hp} : ∀ {xs : List D} {vs : List V} {i : Nat} {x : D}, RpL F xs vs → xs[i]? = some x → ∃ v, vs[i]? = some v ∧ Rp F x v
  | x :: xs, _, 0, y, ⟨v, r, e, h1, h2⟩, h => by subst e; simp at h; subst h; exact ⟨v, rfl, h1⟩
  | x :: xs, _, i + 1, y, ⟨v, r, e, h1, h2⟩, h => by subst e; simp at h; simpa using RpL.get h2 h
theorem RpL.get' {F : Hp} : ∀ {xs : List D} {vs : List V} {i : Nat} {v : V}, RpL F xs vs → vs[i]? = some v → ∃ x, xs[i]? = some x ∧ Rp F x v
  | [], _, _, _, h, h' => by cases h; simp at h'
  | x :: xs, _, 0, w, ⟨v, r, e, h1, h2⟩, h => by subst e; simp at h; subst h; exact ⟨x, rfl, h1⟩
  | x :: xs, _, i + 1, w, ⟨v, r, e, h1, h2⟩, h => by subst e; simp at h; simpa using RpL.get' h2 h
theorem RpL.take {F : Hp} : ∀ {xs : List D} {vs : List V} (n : Nat), RpL F xs vs → RpL F (xs.take n) (vs.take n)
  | _, _, 0, _ => rfl
  | [], _, n + 1, h => by cases h; rfl
  | x :: xs, _, n + 1, ⟨v, r, e, h1, h2⟩ => by subst e; exact ⟨v, _, rfl, h1, RpL.take n h2⟩
theorem RpL.drop {F : Hp} : ∀ {xs : List D} {vs : List V} (n : Nat), RpL F xs vs → RpL F (xs.drop n) (vs.drop n)
  | _, _, 0, h => h
  | [], _, n + 1, h => by cases h; rfl
  | x :: xs, _, n + 1, ⟨v, r, e, h1, h2⟩ => by subst e; exact RpL.drop n h2
theorem RpL.set {F : Hp} {d : D} {u : V} (h0 : Rp F d u) : ∀ {xs : List D} {vs : List V} (i : Nat), RpL F xs vs → RpL F (xs.set i d) (vs.set i u)
  | [], _, _, h => by cases h; rfl
  | x :: xs, _, 0, ⟨v, r, e, h1, h2⟩ => by subst e; exact ⟨u, r, rfl, h0, h2⟩
  | x :: xs, _, i + 1, ⟨v, r, e, h1, h2⟩ => by subst e; exact ⟨v, _, rfl, h1, RpL.set h0 i h2⟩
theorem RpL.one {F : Hp} {d : D} {u : V} (h0 : Rp F d u) : RpL F [d] [u] := ⟨u, [], rfl, h0, rfl⟩
theorem RpL.reverse {F : Hp} : ∀ {xs : List D} {vs : List V}, RpL F xs vs → RpL F xs.reverse vs.reverse
  | [], _, h => by cases h; rfl
  | x :: xs, _, ⟨v, r, e, h1, h2⟩ => by subst e; simp only [List.reverse_cons]; exact RpL.append (RpL.reverse h2) (RpL.one h1)
theorem RpL.dropLast {F : Hp} {xs : List D} {vs : List V} (h : RpL F xs vs) : RpL F xs.dropLast vs.dropLast := by
  rw [List.dropLast_eq_take, List.dropLast_eq_take, h.length]; exact h.take _
theorem RpL.rep {F : Hp} {xs : List D} {vs : List V} (h : RpL F xs vs) : ∀ n : Nat, RpL F (List.replicate n xs).flatten (List.replicate n vs).flatten
  | 0 => rfl
  | n + 1 => by simp only [List.replicate_succ, List.flatten_cons]; exact RpL.append h (RpL.rep h n)
theorem RpL.ints {F : Hp} : ∀ {ns : List Int} {vs : List V}, RpL F (ns.map D.int) vs → vs = ns.map V.int
  | [], _, h => h
  | n :: ns, _, ⟨v, r, e, h1, h2⟩ => by subst e; cases h1; rw [RpL.ints h2]; rfl
theorem RpL.of_ints {F : Hp} : ∀ {ns : List Int}, RpL F (ns.map D.int) (ns.map V.int)
  | [] => rfl
  | n :: ns => ⟨.int n, _, rfl, rfl, RpL.of_ints⟩
theorem RpL.bls {F : Hp} : ∀ {ns : List Bool} {vs : List V}, RpL F (ns.map D.bl) vs → vs = ns.map V.bl
  | [], _, h => h
  | n :: ns, _, ⟨v, r, e, h1, h2⟩ => by subst e; cases h1; rw [RpL.bls h2]; rfl

/-! ### mutable things -/
inductive MO where
  | lst (xs : List D)
  | dK (ks : List Key) (xs : List D)
  | raw (o : HO)
abbrev Mp := Addr → Option MO
def Mp.set (M : Mp) (a : Addr) (m : MO) : Mp := fun b => if b = a then some m else M b
def Mp.del (M : Mp) (a : Addr) : Mp := fun b => if b = a then none else M b
theorem Mp.set_same {M : Mp} {a : Addr} {m : MO} : (M.set a m) a = some m := if_pos rfl
theorem Mp.set_ne {M : Mp} {a b : Addr} {m : MO} (h : b ≠ a) : (M.set a m) b = M b := if_neg h
theorem Mp.del_same {M : Mp} {a : Addr} : (M.del a) a = none := if_pos rfl
theorem Mp.del_ne {M : Mp} {a b : Addr} (h : b ≠ a) : (M.del a) b = M b := if_neg h
theorem Mp.set_set {M : Mp} {a : Addr} {m m' : MO} : (M.set a m).set a m' = M.set a m' := by
  funext b; unfold Mp.set; split <;> rfl
theorem Mp.set_del {M : Mp} {a : Addr} {m : MO} (h : M a = none) : (M.set a m).del a = M := by
  funext b; unfold Mp.set Mp.del
  by_cases e : b = a
  · simp [e, h]
  · simp [e]
theorem Mp.set_self {M : Mp} {a : Addr} {m : MO} (h : M a = some m) : M.set a m = M := by
  funext b; unfold Mp.set; split
  · rename_i e; rw [e, h]
  · rfl
theorem Mp.set_comm {M : Mp} {a b : Addr} {m m' : MO} (h : a ≠ b) : (M.set a m).set b m' = (M.set b m').set a m := by
  funext c; unfold Mp.set
  by_cases h1 : c = a
  · subst h1; simp [h]
  · simp [h1]
def MRp (F : Hp) : MO → HO → Prop
  | .lst xs, o => ∃ vs, o = .lst vs ∧ RpL F xs vs
  | .dK ks xs, o => ∃ kvs, o = .dK kvs ∧ kvs.map (·.1) = ks ∧ RpL F xs (kvs.map (·.2))
  | .raw o', o => o = o' ∧ ∀ xs, o' ≠ .tup xs
theorem MRp.mono {F F' : Hp} (s : Same F F') {m : MO} {o : HO} (h : MRp F m o) : MRp F' m o := by
  cases m with
  | lst xs => obtain ⟨vs, e, r⟩ := h; exact ⟨vs, e, RpL.mono s _ _ r⟩
  | dK ks xs => obtain ⟨vs, e, k, r⟩ := h; exact ⟨vs, e, k, RpL.mono s _ _ r⟩
  | raw o' => exact h
structure Mem (M : Mp) (H F : Hp) : Prop where
  same : Same F H
  mem : ∀ a m, M a = some m → F a = none ∧ ∃ o, H a = some o ∧ MRp F m o
structure Ext (M : Mp) (H F : Hp) (M' : Mp) (H' F' : Hp) : Prop where
  fs : Same F F'
  keep : ∀ a o, H a = some o → M a = none → H' a = some o
  new : ∀ a, M' a ≠ none → M a ≠ none ∨ H a = none
  fnew : ∀ a, F' a ≠ none → F a ≠ none ∨ M a ≠ none ∨ H a = none ∨ ∃ xs, H a = some (.tup xs)
theorem Ext.refl {M : Mp} {H F : Hp} : Ext M H F M H F := ⟨.refl _, fun _ _ h _ => h, fun _ h => .inl h, fun _ h => .inl h⟩
theorem Ext.trans {M M1 M2 : Mp} {H H1 H2 F F1 F2 : Hp} (a : Ext M H F M1 H1 F1) (b : Ext M1 H1 F1 M2 H2 F2) : Ext M H F M2 H2 F2 := by
  refine ⟨a.fs.trans b.fs, fun x o h m => ?_, fun x h => ?_, fun x h => ?_⟩
  · have h1 := a.keep x o h m
    refine b.keep x o h1 ?_
    cases e : M1 x with
    | none => rfl
    | some q =>
      rcases a.new x (by rw [e]; exact fun z => nomatch z) with z | z
      · exact absurd m z
      · rw [h] at z; cases z
  · rcases b.new x h with z | z
    · exact a.new x z
    · by_cases q : M x = none
      · right
        cases e : H x with
        | none => rfl
        | some o =>
          have := a.keep x o e q
          rw [z] at this; cases this
      · exact .inl q
  · rcases b.fnew x h with z | z | z | ⟨xs, z⟩
    · exact a.fnew x z
    · rcases a.new x z with z | z
      · exact .inr (.inl z)
      · exact .inr (.inr (.inl z))
    · by_cases q : M x = none
      · right; right; left
        cases e : H x with
        | none => rfl
        | some o =>
          have := a.keep x o e q
          rw [z] at this; cases this
      · exact .inr (.inl q)
    · by_cases q : M x = none
      · right; right
        cases e : H x with
        | none => exact .inl rfl
        | some o =>
          have := a.keep x o e q
          rw [z] at this; cases this
          exact .inr ⟨xs, rfl⟩
      · exact .inr (.inl q)
theorem Mem.fresh {M : Mp} {H F : Hp} (m : Mem M H F) {p : Addr} (h : H p = none) : F p = none ∧ M p = none := by
  refine ⟨m.same.free h, ?_⟩
  cases e : M p with
  | none => rfl
  | some q =>
    obtain ⟨_, o, ho, _⟩ := m.mem p q e
    rw [h] at ho; cases ho
theorem same_upd {H : Hp} {p : Addr} {o : HO} (h : H p = none) : Same H (upd H p o) := fun b x e => by
  rw [upd_ne (ne_of_none e h)]; exact e
theorem same_upd2 {F H : Hp} {p : Addr} {o : HO} (s : Same F H) (h : F p = none) : Same F (upd H p o) := fun b x e => by
  rw [upd_ne (ne_of_none e h)]; exact s b x e
/-- a new object, frozen at once -/
theorem Mem.frz {M : Mp} {H F : Hp} (m : Mem M H F) {p : Addr} (h : H p = none) (o : HO) : Mem M (upd H p o) (upd F p o) ∧ Ext M H F M (upd H p o) (upd F p o) := by
  obtain ⟨f, mm⟩ := m.fresh h
  refine ⟨⟨fun b x e => ?_, fun a q e => ?_⟩, ⟨same_upd f, fun a x e _ => by rw [upd_ne (ne_of_none e h)]; exact e, fun a e => .inl e, fun a e => ?_⟩⟩
  · by_cases hb : b = p
    · subst hb; rw [upd_same] at e ⊢; exact e
    · rw [upd_ne hb] at e ⊢; exact m.same b x e
  · obtain ⟨h1, x, h2, h3⟩ := m.mem a q e
    have ne : a ≠ p := ne_of_none h2 h
    exact ⟨by rw [upd_ne ne]; exact h1, x, by rw [upd_ne ne]; exact h2, h3.mono (same_upd f)⟩
  · by_cases ha : a = p
    · subst ha; exact .inr (.inr (.inl h))
    · rw [upd_ne ha] at e; exact .inl e
/-- a new object, kept mutable -/
theorem Mem.mut {M : Mp} {H F : Hp} (m : Mem M H F) {p : Addr} (h : H p = none) {o : HO} {q : MO} (r : MRp F q o) : Mem (M.set p q) (upd H p o) F ∧ Ext M H F (M.set p q) (upd H p o) F := by
  obtain ⟨f, mm⟩ := m.fresh h
  refine ⟨⟨same_upd2 m.same f, fun a q' e => ?_⟩, ⟨.refl _, fun a x e _ => by rw [upd_ne (ne_of_none e h)]; exact e, fun a e => ?_, fun a e => .inl e⟩⟩
  · by_cases ha : a = p
    · subst ha
      rw [Mp.set_same] at e; cases e
      exact ⟨f, o, upd_same, r⟩
    · rw [Mp.set_ne ha] at e
      obtain ⟨h1, x, h2, h3⟩ := m.mem a q' e
      exact ⟨h1, x, by rw [upd_ne ha]; exact h2, h3⟩
  · by_cases ha : a = p
    · subst ha; exact .inr h
    · rw [Mp.set_ne ha] at e; exact .inl e
/-- a mutable thing is changed -/
theorem Mem.chg {M : Mp} {H F : Hp} (m : Mem M H F) {p : Addr} {q0 : MO} (h : M p = some q0) {o : HO} {q : MO} (r : MRp F q o) : Mem (M.set p q) (upd H p o) F ∧ Ext M H F (M.set p q) (upd H p o) F := by
  obtain ⟨f, _, hp, _⟩ := m.mem p q0 h
  refine ⟨⟨same_upd2 m.same f, fun a q' e => ?_⟩, ⟨.refl _, fun a x e z => by rw [upd_ne (fun w => by subst w; rw [h] at z; cases z)]; exact e, fun a e => ?_, fun a e => .inl e⟩⟩
  · by_cases ha : a = p
    · subst ha
      rw [Mp.set_same] at e; cases e
      exact ⟨f, o, upd_same, r⟩
    · rw [Mp.set_ne ha] at e
      obtain ⟨h1, x, h2, h3⟩ := m.mem a q' e
      exact ⟨h1, x, by rw [upd_ne ha]; exact h2, h3⟩
  · by_cases ha : a = p
    · subst ha; exact .inl (by rw [h]; exact fun z => nomatch z)
    · rw [Mp.set_ne ha] at e; exact .inl e
/-- a mutable list is frozen -/
theorem Mem.freeze {M : Mp} {H F : Hp} (m : Mem M H F) {p : Addr} {xs : List D} (h : M p = some (.lst xs)) : ∃ F', Mem (M.del p) H F' ∧ Ext M H F (M.del p) H F' ∧ Rp F' (.lst xs) (.ref p) := by
  obtain ⟨f, o, hp, vs, rfl, r⟩ := m.mem p _ h
  refine ⟨upd F p (.lst vs), ⟨fun b x e => ?_, fun a q e => ?_⟩, ⟨same_upd f, fun a x e _ => e, fun a e => ?_, fun a e => ?_⟩, p, vs, rfl, upd_same, RpL.mono (same_upd f) _ _ r⟩
  · by_cases hb : b = p
    · subst hb; rw [upd_same] at e; cases e; exact hp
    · rw [upd_ne hb] at e; exact m.same b x e
  · by_cases ha : a = p
    · subst ha; rw [Mp.del_same] at e; cases e
    · rw [Mp.del_ne ha] at e
      obtain ⟨h1, x, h2, h3⟩ := m.mem a q e
      exact ⟨by rw [upd_ne ha]; exact h1, x, h2, h3.mono (same_upd f)⟩
  · by_cases ha : a = p
    · subst ha; rw [Mp.del_same] at e; exact absurd rfl e
    · rw [Mp.del_ne ha] at e; exact .inl e
  · by_cases ha : a = p
    · subst ha; exact .inr (.inl (by rw [h]; exact fun z => nomatch z))
    · rw [upd_ne ha] at e; exact .inl e

/-! ### how a value looks now -/
/-- a mutable thing read as plain data -/
def nrmA (M : Mp) (a : Addr) : D := match M a with
  | some (.lst xs) => .lst xs
  | some (.dK ks xs) => .dct ks xs
  | _ => .ref a
def nrm (M : Mp) : D → D
  | .ref a => nrmA M a
  | d => d
/-- v looks like d in H, its parts in F -/
def Vw (H F : Hp) : D → V → Prop
  | .lst xs, v => ∃ a vs, v = .ref a ∧ H a = some (.lst vs) ∧ RpL F xs vs
  | .tup xs, v => ∃ a vs, v = .ref a ∧ H a = some (.tup vs) ∧ RpL F xs vs
  | .dct ks xs, v => ∃ a kvs, v = .ref a ∧ H a = some (.dK kvs) ∧ kvs.map (·.1) = ks ∧ RpL F xs (kvs.map (·.2))
  | .non, v => v = .non
  | .bl b, v => v = .bl b
  | .int i, v => v = .int i
  | .str x, v => v = .str x
  | .ref a, v => v = .ref a
  | .ty n, v => v = .ty n
  | .scr K xs, v => ∃ a vs, v = .ref a ∧ SqL K H a vs ∧ RpL F xs vs
theorem Mem.view {M : Mp} {H F : Hp} (m : Mem M H F) : ∀ {d : D} {v : V}, Rp F d v → Vw H F (nrm M d) v
  | .non, _, r => r
  | .bl _, _, r => r
  | .int _, _, r => r
  | .str _, _, r => r
  | .ty _, _, r => r
  | .lst xs, _, ⟨a, vs, e, f, r⟩ => ⟨a, vs, e, m.same _ _ f, r⟩
  | .tup xs, _, ⟨a, vs, e, f, r⟩ => ⟨a, vs, e, m.same _ _ f, r⟩
  | .dct ks xs, _, ⟨a, vs, e, f, k, r⟩ => ⟨a, vs, e, m.same _ _ f, k, r⟩
  | .scr K xs, _, ⟨a, vs, e, f, r⟩ => ⟨a, vs, e, m.same.seq f, r⟩
  | .ref a, v, r => by
    show Vw H F (nrmA M a) v
    unfold nrmA
    have r : v = .ref a := r
    subst r
    split
    · rename_i xs e
      obtain ⟨_, o, ho, vs, rfl, rr⟩ := m.mem a _ e
      exact ⟨a, vs, rfl, ho, rr⟩
    · rename_i ks xs e
      obtain ⟨_, o, ho, vs, rfl, k, rr⟩ := m.mem a _ e
      exact ⟨a, vs, rfl, ho, k, rr⟩
    · exact rfl
/-! ### the transfer -/
abbrev DEnv := List (Option D)
abbrev DK := D → Mp → Prop
abbrev DE := DEnv → Mp → DK → Prop
abbrev DT := DEnv → Mp → (Bool → Mp → Prop) → Prop
abbrev DA := DEnv → Mp → (List D → Mp → Prop) → Prop
structure EnvR (F : Hp) (ρ : DEnv) (σ : L2.St) : Prop where
  len : σ.length = ρ.length
  at_ : ∀ (i : Nat) (d : D), ρ[i]? = some (some d) → ∃ v, σ[i]? = some (some v) ∧ Rp F d v
theorem EnvR.mono {F F' : Hp} {ρ : DEnv} {σ : L2.St} (h : EnvR F ρ σ) (s : Same F F') : EnvR F' ρ σ :=
  ⟨h.len, fun i d e => let ⟨v, a, b⟩ := h.at_ i d e; ⟨v, a, Rp.mono s d v b⟩⟩
theorem EnvR.set {F : Hp} {ρ : DEnv} {σ : L2.St} (h : EnvR F ρ σ) (i : Nat) {d : D} {v : V} (r : Rp F d v) : EnvR F (ρ.set i (some d)) (σ.set i (some v)) := by
  refine ⟨by simp [h.len], fun j e q => ?_⟩
  by_cases hj : i = j
  · subst hj
    by_cases hi : i < ρ.length
    · rw [List.getElem?_set_self hi] at q
      cases q
      exact ⟨v, List.getElem?_set_self (by rw [h.len]; exact hi), r⟩
    · rw [List.getElem?_eq_none (by simp; omega)] at q; cases q
  · rw [List.getElem?_set_ne hj] at q ⊢
    exact h.at_ j e q
/-- what is wanted behind, by the plain wish Q -/
abbrev Fin (Q : DK) (Qv : VK) (M : Mp) (H F : Hp) : Prop := ∀ d v M' H' F', Mem M' H' F' → Ext M H F M' H' F' → Rp F' d v → Q d M' → Qv v H'
theorem Fin.ext {Q : DK} {Qv : VK} {M M1 : Mp} {H F H1 F1 : Hp} (f : Fin Q Qv M H F) (e : Ext M H F M1 H1 F1) : Fin Q Qv M1 H1 F1 := fun d v M' H' F' m x r q => f d v M' H' F' m (e.trans x) r q
theorem Fin.here {Q : DK} {Qv : VK} {M : Mp} {H F : Hp} (f : Fin Q Qv M H F) (m : Mem M H F) {d : D} {v : V} (r : Rp F d v) (q : Q d M) : Qv v H := f d v M H F m .refl r q
def Tr (t : TE) (w : DE) : Prop := ∀ (ρ : DEnv) (M : Mp) (σ : L2.St) (H F : Hp) (Q : DK) (Qv : VK), EnvR F ρ σ → Mem M H F → w ρ M Q → Fin Q Qv M H F → t σ H Qv
def TrT (t : TT) (w : DT) : Prop := ∀ (ρ : DEnv) (M : Mp) (σ : L2.St) (H F : Hp) (Q : Bool → Mp → Prop) (Qv : Bool → Hp → Prop), EnvR F ρ σ → Mem M H F → w ρ M Q →
  (∀ b M' H' F', Mem M' H' F' → Ext M H F M' H' F' → Q b M' → Qv b H') → t σ H Qv
def TrA (t : TA) (w : DA) : Prop := ∀ (ρ : DEnv) (M : Mp) (σ : L2.St) (H F : Hp) (Q : List D → Mp → Prop) (Qv : List V → Hp → Prop), EnvR F ρ σ → Mem M H F → w ρ M Q →
  (∀ ds vs M' H' F', Mem M' H' F' → Ext M H F M' H' F' → RpL F' ds vs → Q ds M' → Qv vs H') → t σ H Qv

/-- a new list: frozen, or mutable -/
inductive Md where | frz | own
def wNew : Md → List D → Mp → DK → Prop
  | .frz, xs, M, Q => Q (.lst xs) M
  | .own, xs, M, Q => ∀ p, M p = none → Q (.ref p) (M.set p (.lst xs))
theorem new_lst {md : Md} {xs : List D} {vs : List V} {Q : DK} {Qv : VK} {M : Mp} {H F : Hp} (m : Mem M H F) (r : RpL F xs vs) (h : wNew md xs M Q) (f : Fin Q Qv M H F) : ∀ p, H p = none → Qv (.ref p) (L2.upd H p (.lst vs)) := by
  intro p hp
  cases md with
  | frz =>
    obtain ⟨m', e⟩ := m.frz hp (.lst vs)
    exact f (.lst xs) _ _ _ _ m' e ⟨p, vs, rfl, upd_same, RpL.mono e.fs _ _ r⟩ h
  | own =>
    obtain ⟨m', e⟩ := m.mut hp (o := .lst vs) (q := .lst xs) ⟨vs, rfl, r⟩
    exact f (.ref p) _ _ _ _ m' e rfl (h p (m.fresh hp).2)
theorem new_tup {xs : List D} {vs : List V} {Q : DK} {Qv : VK} {M : Mp} {H F : Hp} (m : Mem M H F) (r : RpL F xs vs) (h : Q (.tup xs) M) (f : Fin Q Qv M H F) : ∀ p, H p = none → Qv (.ref p) (L2.upd H p (.tup vs)) := by
  intro p hp
  obtain ⟨m', e⟩ := m.frz hp (.tup vs)
  exact f (.tup xs) _ _ _ _ m' e ⟨p, vs, rfl, upd_same, RpL.mono e.fs _ _ r⟩ h

abbrev Sz (n : Nat) : Prop := n ≤ 16777216
theorem Sz.line {n : Nat} (h : Sz n) : n ≤ sizeLine := by rw [sizeLine_eq]; exact h

/-! ### names, constants -/
def wVar (i : Nat) : DE := fun ρ M Q => match ρ[i]? with
  | some (some d) => Q d M
  | _ => False
theorem tr_var {i : Nat} : Tr (tVar i) (wVar i) := by
  intro ρ M σ H F Q Qv er m h f
  unfold wVar at h
  split at h
  · rename_i d e
    obtain ⟨v, e1, r⟩ := er.at_ i d e
    exact ⟨v, e1, f.here m r h⟩
  · exact h.elim
def wC (d : D) : DE := fun _ M Q => Q d M
theorem tr_int {i : Int} : Tr (tC (.int i)) (wC (.int i)) := fun ρ M σ H F Q Qv er m h f => f.here (d := .int i) m rfl h
theorem tr_bl {b : Bool} : Tr (tC (.bl b)) (wC (.bl b)) := fun ρ M σ H F Q Qv er m h f => f.here (d := .bl b) m rfl h
theorem tr_non : Tr (tC .non) (wC .non) := fun ρ M σ H F Q Qv er m h f => f.here (d := .non) m rfl h
theorem tr_str {x : Str} : Tr (tC (.str x)) (wC (.str x)) := fun ρ M σ H F Q Qv er m h f => f.here (d := .str x) m rfl h
theorem tr_ty {n : String} : Tr (tC (.ty n)) (wC (.ty n)) := fun ρ M σ H F Q Qv er m h f => f.here (d := .ty n) m rfl h
theorem tr_ref {a : Addr} : Tr (tC (.ref a)) (wC (.ref a)) := fun ρ M σ H F Q Qv er m h f => f.here (d := .ref a) m rfl h
/-- a mutable list is given away -/
def wFrzK (Q : DK) : DK := fun d M => match d with
  | .ref a => match M a with
    | some (.lst xs) => Q (.lst xs) (M.del a)
    | _ => Q (.ref a) M
  | d => Q d M
def wFrz (w : DE) : DE := fun ρ M Q => w ρ M (wFrzK Q)
theorem Fin.frz {Q : DK} {Qv : VK} {M : Mp} {H F : Hp} (f : Fin Q Qv M H F) : Fin (wFrzK Q) Qv M H F := by
  intro d v M' H' F' m e r q
  unfold wFrzK at q
  split at q
  · rename_i a
    have r : v = .ref a := r
    subst r
    split at q
    · rename_i xs e1
      obtain ⟨F2, m2, e2, r2⟩ := m.freeze e1
      exact f _ _ _ _ _ m2 (e.trans e2) r2 q
    · exact f (.ref a) _ _ _ _ m e rfl q
  · exact f _ _ _ _ _ m e r q
theorem tr_frz {t : TE} {w : DE} (h : Tr t w) : Tr t (wFrz w) := fun ρ M σ H F Q Qv er m q f => h ρ M σ H F _ _ er m q f.frz

/-! ### operators -/
abbrev DO := D → D → Mp → DK → Prop
def OpT (r : R2) (wr : DO) : Prop := ∀ (M : Mp) (H F : Hp) (d1 d2 : D) (v1 v2 : V) (Q : DK) (Qv : VK), Mem M H F → Rp F d1 v1 → Rp F d2 v2 → wr d1 d2 M Q → Fin Q Qv M H F → r v1 v2 H Qv
def wOp (wr : DO) (wa wb : DE) : DE := fun ρ M Q => wa ρ M fun x M1 => wb ρ M1 fun y M2 => wr x y M2 Q
theorem tr_op {r : R2} {wr : DO} {ta tb : TE} {wa wb : DE} (ho : OpT r wr) (ha : Tr ta wa) (hb : Tr tb wb) : Tr (tOp r ta tb) (wOp wr wa wb) := by
  intro ρ M σ H F Q Qv er m h f
  refine ha ρ M σ H F _ _ er m h fun d1 v1 M1 H1 F1 m1 e1 r1 q1 => ?_
  refine hb ρ M1 σ H1 F1 _ _ (er.mono e1.fs) m1 q1 fun d2 v2 M2 H2 F2 m2 e2 r2 q2 => ?_
  exact ho M2 H2 F2 d1 d2 v1 v2 Q Qv m2 (Rp.mono e2.fs _ _ r1) r2 q2 (f.ext (e1.trans e2))
/-- by how both look -/
theorem OpT.byView {r : R2} {wr : DO} {wn : DO} (hw : ∀ d1 d2 M Q, wr d1 d2 M Q = wn (nrm M d1) (nrm M d2) M Q)
    (h : ∀ (M : Mp) (H F : Hp) (n1 n2 : D) (v1 v2 : V) (Q : DK) (Qv : VK), Mem M H F → Vw H F n1 v1 → Vw H F n2 v2 → wn n1 n2 M Q → Fin Q Qv M H F → r v1 v2 H Qv) : OpT r wr :=
  fun M H F d1 d2 v1 v2 Q Qv m r1 r2 q f => h M H F _ _ v1 v2 Q Qv m (m.view r1) (m.view r2) (by rw [← hw]; exact q) f

/-- + of ints, lists, texts, tuples -/
def rAddA (K : PySem.W.Frag) : R2 := fun x y H Q => rI0 (fun i j => .int (i + j)) x y H Q ∨ (rCat x y H Q ∨ ∃ i j, x = .str i ∧ y = .str j ∧ i.length + j.length ≤ sizeLine ∧ Q (.str (i ++ j)) H)
theorem op_addA {X : Cx} : OpR X (binaryOp .Add) (rAddA X.K) := op_add.or (op_cat.or op_add_str)
def nAdd (md : Md) : DO := fun x y M Q => match x, y with
  | .int i, .int j => Q (.int (i + j)) M
  | .lst xs, .lst ys => Sz (xs.length + ys.length) ∧ wNew md (xs ++ ys) M Q
  | .str x, .str y => Sz (x.length + y.length) ∧ Q (.str (x ++ y)) M
  | _, _ => False
def wAdd (md : Md) : DO := fun x y M Q => nAdd md (nrm M x) (nrm M y) M Q
theorem ot_add {K : PySem.W.Frag} {md : Md} : OpT (rAddA K) (wAdd md) := OpT.byView (fun _ _ _ _ => rfl) fun M H F n1 n2 v1 v2 Q Qv m r1 r2 q f => by
  unfold nAdd at q
  split at q
  · cases r1; cases r2
    exact .inl ⟨_, _, rfl, rfl, f.here (d := .int _) m rfl q⟩
  · obtain ⟨a, vs, rfl, ha, ra⟩ := r1
    obtain ⟨b, ws, rfl, hb, rb⟩ := r2
    exact .inr (.inl ⟨a, b, vs, ws, rfl, rfl, ha, hb, by rw [ra.length, rb.length]; exact q.1.line, new_lst m (ra.append rb) q.2 f⟩)
  · cases r1; cases r2
    exact .inr (.inr ⟨_, _, rfl, rfl, q.1.line, f.here (d := .str _) m rfl q.2⟩)
  · exact q.elim
/-- ints in, a value without address out -/
inductive Flat : D → V → Prop
  | int (i : Int) : Flat (.int i) (.int i)
  | bl (b : Bool) : Flat (.bl b) (.bl b)
theorem Flat.rp {F : Hp} {d : D} {v : V} (h : Flat d v) : Rp F d v := by cases h <;> rfl
def nI (C : Int → Int → Prop) (g : Int → Int → D) : DO := fun x y M Q => match x, y with
  | .int i, .int j => C i j ∧ Q (g i j) M
  | _, _ => False
def nI0 (g : Int → Int → D) : DO := fun x y M Q => match x, y with
  | .int i, .int j => Q (g i j) M
  | _, _ => False
theorem ot_I {C C' : Int → Int → Prop} {g : Int → Int → V} {g' : Int → Int → D} (hc : ∀ i j, C' i j → C i j) (hg : ∀ i j, Flat (g' i j) (g i j)) : OpT (rI C g) (nI C' g') := by
  intro M H F d1 d2 v1 v2 Q Qv m r1 r2 q f
  unfold nI at q
  split at q
  · cases r1; cases r2
    exact ⟨_, _, rfl, rfl, hc _ _ q.1, f.here m (hg _ _).rp q.2⟩
  · exact q.elim
theorem ot_I0 {g : Int → Int → V} {g' : Int → Int → D} (hg : ∀ i j, Flat (g' i j) (g i j)) : OpT (rI0 g) (nI0 g') := by
  intro M H F d1 d2 v1 v2 Q Qv m r1 r2 q f
  unfold nI0 at q
  split at q
  · cases r1; cases r2
    exact ⟨_, _, rfl, rfl, f.here m (hg _ _).rp q⟩
  · exact q.elim
abbrev wSub : DO := nI0 fun i j => .int (i - j)
theorem ot_sub : OpT (rI0 fun i j => .int (i - j)) wSub := ot_I0 fun _ _ => .int _
abbrev wLt : DO := nI0 fun i j => .bl (decide (i < j))
theorem ot_lt : OpT (rI0 fun i j => .bl (decide (i < j))) wLt := ot_I0 fun _ _ => .bl _
abbrev wLe : DO := nI0 fun i j => .bl (decide (i ≤ j))
theorem ot_le : OpT (rI0 fun i j => .bl (decide (i ≤ j))) wLe := ot_I0 fun _ _ => .bl _
abbrev wGt : DO := nI0 fun i j => .bl (decide (j < i))
theorem ot_gt : OpT (rI0 fun i j => .bl (decide (j < i))) wGt := ot_I0 fun _ _ => .bl _
abbrev wGe : DO := nI0 fun i j => .bl (decide (j ≤ i))
theorem ot_ge : OpT (rI0 fun i j => .bl (decide (j ≤ i))) wGe := ot_I0 fun _ _ => .bl _
def CDv (_ j : Int) : Prop := 0 < j ∧ (j < 2 ^ 64 ∨ j.natAbs.log2 < 9000)
theorem CDv.w {i j : Int} (h : CDv i j) : CDivW i j := by
  obtain ⟨h0, h | h⟩ := h
  · exact wide_div h0 (b := 64) (by omega) (by decide) (by decide)
  · exact ⟨h0, h⟩
abbrev wDiv : DO := nI CDv fun i j => .int (i / j)
theorem ot_div : OpT (rI CDivW fun i j => .int (i / j)) wDiv := ot_I (fun _ _ h => h.w) fun _ _ => .int _
abbrev wMod : DO := nI (fun _ j => 0 < j) fun i j => .int (i % j)
theorem ot_mod : OpT (rI (fun _ j => 0 < j) fun i j => .int (i % j)) wMod := ot_I (fun _ _ h => h) fun _ _ => .int _
/-- powers -/
def CPowW (i j : Int) : Prop := 0 ≤ j ∧ (Builtin.Int.intBits i : Int) * j ≤ 2 ^ 27
theorem op_powW {X : Cx} : OpR X (binaryOp .Pow) (rI CPowW fun i j => .int (i ^ j.toNat)) := opI fun _ _ _ _ _ _ _ hc q => pow_int hc.1 hc.2 q
abbrev wPow : DO := nI CPowW fun i j => .int (i ^ j.toNat)
theorem ot_pow : OpT (rI CPowW fun i j => .int (i ^ j.toNat)) wPow := ot_I (fun _ _ h => h) fun _ _ => .int _
abbrev wShl : DO := nI CPow fun i j => .int (i * 2 ^ j.toNat)
theorem ot_shl : OpT (rI CPow fun i j => .int (i * 2 ^ j.toNat)) wShl := ot_I (fun _ _ h => h) fun _ _ => .int _
/-- * of ints; a list so often -/
def CMl (i j : Int) : Prop := i.natAbs < 2 ^ 64 ∨ j.natAbs < 2 ^ 64 ∨ CMulW i j
def rMulA : R2 := fun x y H Q => rI CMul (fun i j => .int (i * j)) x y H Q ∨ (rI CMulW (fun i j => .int (i * j)) x y H Q ∨ rRep x y H Q)
theorem op_mulA {X : Cx} : OpR X (binaryOp .Mult) rMulA := op_mul.or (op_mulW.or op_rep)
def nMul (md : Md) : DO := fun x y M Q => match x, y with
  | .int i, .int j => CMl i j ∧ Q (.int (i * j)) M
  | .lst xs, .int k => (k < 2 ^ 63 ∧ -(2 ^ 63) ≤ k ∧ Sz (xs.length * k.toNat)) ∧ wNew md (List.replicate k.toNat xs).flatten M Q
  | _, _ => False
def wMul (md : Md) : DO := fun x y M Q => nMul md (nrm M x) (nrm M y) M Q
theorem ot_mul {md : Md} : OpT rMulA (wMul md) := OpT.byView (fun _ _ _ _ => rfl) fun M H F n1 n2 v1 v2 Q Qv m r1 r2 q f => by
  unfold nMul at q
  split at q
  · cases r1; cases r2
    rename_i i j
    rcases q.1 with h | h | h
    · exact .inl ⟨_, _, rfl, rfl, .inl ⟨by omega, by omega⟩, f.here (d := .int _) m rfl q.2⟩
    · exact .inl ⟨_, _, rfl, rfl, .inr ⟨by omega, by omega⟩, f.here (d := .int _) m rfl q.2⟩
    · exact .inr (.inl ⟨_, _, rfl, rfl, h, f.here (d := .int _) m rfl q.2⟩)
  · obtain ⟨a, vs, rfl, ha, ra⟩ := r1
    cases r2
    exact .inr (.inr ⟨a, _, vs, rfl, rfl, ha, q.1.2.1, q.1.1, by rw [ra.length]; exact q.1.2.2.line, new_lst m (ra.rep _) q.2 f⟩)
  · exact q.elim
/-- -a -/
def wNeg (wa : DE) : DE := fun ρ M Q => wa ρ M fun x M1 => match x with
  | .int i => Q (.int (-i)) M1
  | _ => False
theorem tr_neg {ta : TE} {wa : DE} (ha : Tr ta wa) : Tr (tUn (rU fun i => .int (-i)) ta) (wNeg wa) := by
  intro ρ M σ H F Q Qv er m h f
  refine ha ρ M σ H F _ _ er m h fun d1 v1 M1 H1 F1 m1 e1 r1 q1 => ?_
  split at q1
  · cases r1
    exact ⟨_, rfl, f (.int _) _ _ _ _ m1 e1 rfl q1⟩
  · exact q1.elim

/-! ### == and != -/
mutual
def toPD : D → PyData
  | .non => .none
  | .bl b => .bool b
  | .int i => .int i
  | .str x => .str x
  | .ref _ => .dict []
  | .ty _ => .dict []
  | .lst xs => .list (toPDs xs)
  | .tup xs => .tuple (toPDs xs)
  | .dct _ _ => .dict []
  | .scr _ _ => .dict []
def toPDs : List D → List PyData
  | [] => []
  | x :: xs => toPD x :: toPDs xs
end
/-- plain data through and through -/
def pdOk (d : D) : Bool := SeqAt.shaped (toPD d)
def deq (a b : D) : Bool := PyData.eqv (toPD a) (toPD b)
mutual
theorem rp_dp {K : PySem.W.Frag} {F H : Hp} (s : Same F H) : ∀ (d : D) (v : V), Rp F d v → (toPD d).canLay0 = true → Dp K H v (toPD d)
  | .non, _, r, _ => by cases r; exact .non
  | .bl b, _, r, _ => by cases r; exact .bl b
  | .int i, _, r, _ => by cases r; exact .int i
  | .str x, _, r, _ => by cases r; exact .str x
  | .ref a, _, _, h => by simp [toPD, PyData.canLay0] at h
  | .ty a, _, _, h => by simp [toPD, PyData.canLay0] at h
  | .dct a b, _, _, h => by simp [toPD, PyData.canLay0] at h
  | .scr a b, _, _, h => by simp [toPD, PyData.canLay0] at h
  | .lst xs, _, ⟨a, vs, e, f, r⟩, h => by
    subst e
    exact .lst (.of (s _ _ f)) (rp_dps s xs vs r (by simpa [toPD, PyData.canLay0] using h))
  | .tup xs, _, ⟨a, vs, e, f, r⟩, h => by
    subst e
    exact .tup (.of (s _ _ f)) (rp_dps s xs vs r (by simpa [toPD, PyData.canLay0] using h))
theorem rp_dps {K : PySem.W.Frag} {F H : Hp} (s : Same F H) : ∀ (xs : List D) (vs : List V), RpL F xs vs → PyData.canLayAll0 (toPDs xs) = true → DpAll K H vs (toPDs xs)
  | [], _, r, _ => by cases r; exact .nil
  | x :: xs, _, ⟨v, r, e, h1, h2⟩, h => by
    subst e
    simp only [toPDs, PyData.canLayAll0, Bool.and_eq_true] at h
    exact .cons (rp_dp s x v h1 h.1) (rp_dps s xs r h2 h.2)
end
theorem vw_dp {K : PySem.W.Frag} {F H : Hp} (s : Same F H) {d : D} {v : V} (r : Vw H F d v) (h : pdOk d = true) : Dp K H v (toPD d) := by
  have h := SeqAt.canLay_of_shaped h
  cases d with
  | lst xs => obtain ⟨a, vs, rfl, f, r⟩ := r; exact .lst (.of f) (rp_dps s xs vs r (by simpa [toPD, PyData.canLay0] using h))
  | tup xs => obtain ⟨a, vs, rfl, f, r⟩ := r; exact .tup (.of f) (rp_dps s xs vs r (by simpa [toPD, PyData.canLay0] using h))
  | dct _ _ => simp [toPD, PyData.canLay0] at h
  | scr _ _ => simp [toPD, PyData.canLay0] at h
  | ref _ => simp [toPD, PyData.canLay0] at h
  | ty _ => simp [toPD, PyData.canLay0] at h
  | non => exact rp_dp s .non v r h
  | bl b => exact rp_dp s (.bl b) v r h
  | int b => exact rp_dp s (.int b) v r h
  | str b => exact rp_dp s (.str b) v r h
def nEq (neg : Bool) : DO := fun x y M Q => match x, y with
  | .int i, .int j => Q (.bl (if neg then !decide (i = j) else decide (i = j))) M
  | x, y => (pdOk x = true ∧ pdOk y = true) ∧ Q (.bl (if neg then !deq x y else deq x y)) M
def wEq (neg : Bool) : DO := fun x y M Q => nEq neg (nrm M x) (nrm M y) M Q
theorem deq_int (i j : Int) : deq (.int i) (.int j) = decide (i = j) := by
  simp only [deq, toPD, PyData.eqv]; exact Bool.beq_eq_decide_eq i j
theorem pdOk_int (i : Int) : pdOk (.int i) = true := by simp [pdOk, toPD, SeqAt.shaped, PyData.canLay0, PyData.depth]
theorem ot_eq {K : PySem.W.Frag} : OpT (rEqD K) (wEq false) := OpT.byView (fun _ _ _ _ => rfl) fun M H F n1 n2 v1 v2 Q Qv m r1 r2 q f => by
  unfold nEq at q
  split at q
  · rename_i i j
    refine ⟨_, _, vw_dp m.same r1 (pdOk_int i), vw_dp m.same r2 (pdOk_int j), pdOk_int i, pdOk_int j, ?_⟩
    refine f.here (d := .bl _) m rfl ?_
    have e := deq_int i j
    unfold deq at e
    rw [e]; exact q
  · exact ⟨_, _, vw_dp m.same r1 q.1.1, vw_dp m.same r2 q.1.2, q.1.1, q.1.2, f.here (d := .bl _) m rfl q.2⟩
theorem ot_ne {K : PySem.W.Frag} : OpT (rNeD K) (wEq true) := OpT.byView (fun _ _ _ _ => rfl) fun M H F n1 n2 v1 v2 Q Qv m r1 r2 q f => by
  unfold nEq at q
  split at q
  · rename_i i j
    refine ⟨_, _, vw_dp m.same r1 (pdOk_int i), vw_dp m.same r2 (pdOk_int j), pdOk_int i, pdOk_int j, ?_⟩
    refine f.here (d := .bl _) m rfl ?_
    have e := deq_int i j
    unfold deq at e
    rw [e]; exact q
  · exact ⟨_, _, vw_dp m.same r1 q.1.1, vw_dp m.same r2 q.1.2, q.1.1, q.1.2, f.here (d := .bl _) m rfl q.2⟩
/-- is None -/
def wIsN (neg : Bool) (wa : DE) : DE := fun ρ M Q => wa ρ M fun x M1 => Q (.bl (match x with | .non => !neg | _ => neg)) M1
theorem rp_non {F : Hp} {d : D} {v : V} (r : Rp F d v) : decide (v = V.non) = (match d with | .non => true | _ => false) := by
  cases d with
  | non => cases r; rfl
  | bl _ => cases r; rfl
  | int _ => cases r; rfl
  | str _ => cases r; rfl
  | ref _ => cases r; rfl
  | ty _ => cases r; rfl
  | lst xs => obtain ⟨a, vs, rfl, _⟩ := r; rfl
  | tup xs => obtain ⟨a, vs, rfl, _⟩ := r; rfl
  | dct _ xs => obtain ⟨a, vs, rfl, _⟩ := r; rfl
  | scr _ xs => obtain ⟨a, vs, rfl, _⟩ := r; rfl
theorem tr_isN {ta : TE} {wa : DE} (ha : Tr ta wa) : Tr (tIsN ta) (wIsN false wa) := by
  intro ρ M σ H F Q Qv er m h f
  refine ha ρ M σ H F _ _ er m h fun d1 v1 M1 H1 F1 m1 e1 r1 q1 => ?_
  rw [rp_non r1]
  refine f (.bl _) _ _ _ _ m1 e1 rfl ?_
  cases d1 <;> exact q1
theorem tr_notN {ta : TE} {wa : DE} (ha : Tr ta wa) : Tr (tNotN ta) (wIsN true wa) := by
  intro ρ M σ H F Q Qv er m h f
  refine ha ρ M σ H F _ _ er m h fun d1 v1 M1 H1 F1 m1 e1 r1 q1 => ?_
  show Qv (.bl (!decide (v1 = V.non))) H1
  rw [rp_non r1]
  refine f (.bl _) _ _ _ _ m1 e1 rfl ?_
  cases d1 <;> exact q1

/-! ### tests, and, or, not -/
def wB (w : DE) : DT := fun ρ M Q => w ρ M fun x M1 => match x with
  | .bl b => Q b M1
  | _ => False
theorem tt_B {t : TE} {w : DE} (h : Tr t w) : TrT (tB t) (wB w) := by
  intro ρ M σ H F Q Qv er m q f
  refine h ρ M σ H F _ _ er m q fun d1 v1 M1 H1 F1 m1 e1 r1 q1 => ?_
  split at q1
  · cases r1
    exact ⟨_, rfl, f _ _ _ _ m1 e1 q1⟩
  · exact q1.elim
theorem tt_test {t : TE} {w : DE} (h : Tr t w) : TrT (tTest t) (wB w) := tt_B h
def wAndT (a b : DT) : DT := fun ρ M Q => a ρ M fun c M1 => if c = true then b ρ M1 Q else Q false M1
def wOrT (a b : DT) : DT := fun ρ M Q => a ρ M fun c M1 => if c = true then Q true M1 else b ρ M1 Q
def wNotT (a : DT) : DT := fun ρ M Q => a ρ M fun c M1 => Q (!c) M1
theorem tt_and {t u : TT} {a b : DT} (ha : TrT t a) (hb : TrT u b) : TrT (tAnd t u) (wAndT a b) := by
  intro ρ M σ H F Q Qv er m q f
  refine ha ρ M σ H F _ _ er m q fun c M1 H1 F1 m1 e1 q1 => ?_
  cases c with
  | true => exact hb ρ M1 σ H1 F1 _ _ (er.mono e1.fs) m1 q1 fun b' M2 H2 F2 m2 e2 q2 => f _ _ _ _ m2 (e1.trans e2) q2
  | false => exact f _ _ _ _ m1 e1 q1
theorem tt_or {t u : TT} {a b : DT} (ha : TrT t a) (hb : TrT u b) : TrT (tOr t u) (wOrT a b) := by
  intro ρ M σ H F Q Qv er m q f
  refine ha ρ M σ H F _ _ er m q fun c M1 H1 F1 m1 e1 q1 => ?_
  cases c with
  | false => exact hb ρ M1 σ H1 F1 _ _ (er.mono e1.fs) m1 q1 fun b' M2 H2 F2 m2 e2 q2 => f _ _ _ _ m2 (e1.trans e2) q2
  | true => exact f _ _ _ _ m1 e1 q1
theorem tt_not {t : TT} {a : DT} (ha : TrT t a) : TrT (tNot t) (wNotT a) := by
  intro ρ M σ H F Q Qv er m q f
  exact ha ρ M σ H F _ _ er m q fun c M1 H1 F1 m1 e1 q1 => f _ _ _ _ m1 e1 q1
/-- .. as values -/
def wAndV (a b : DE) : DE := fun ρ M Q => a ρ M fun x M1 => match x with
  | .bl true => b ρ M1 Q
  | .bl false => Q (.bl false) M1
  | _ => False
def wOrV (a b : DE) : DE := fun ρ M Q => a ρ M fun x M1 => match x with
  | .bl false => b ρ M1 Q
  | .bl true => Q (.bl true) M1
  | _ => False
def wNotV (a : DE) : DE := fun ρ M Q => a ρ M fun x M1 => match x with
  | .bl b => Q (.bl (!b)) M1
  | _ => False
theorem tr_and {ta tb : TE} {a b : DE} (ha : Tr ta a) (hb : Tr tb b) : Tr (tAndV ta tb) (wAndV a b) := by
  intro ρ M σ H F Q Qv er m q f
  refine ha ρ M σ H F _ _ er m q fun d1 v1 M1 H1 F1 m1 e1 r1 q1 => ?_
  split at q1
  · cases r1
    exact ⟨true, rfl, hb ρ M1 σ H1 F1 _ _ (er.mono e1.fs) m1 q1 (f.ext e1)⟩
  · cases r1
    exact ⟨false, rfl, f (.bl false) _ _ _ _ m1 e1 rfl q1⟩
  · exact q1.elim
theorem tr_or {ta tb : TE} {a b : DE} (ha : Tr ta a) (hb : Tr tb b) : Tr (tOrV ta tb) (wOrV a b) := by
  intro ρ M σ H F Q Qv er m q f
  refine ha ρ M σ H F _ _ er m q fun d1 v1 M1 H1 F1 m1 e1 r1 q1 => ?_
  split at q1
  · cases r1
    exact ⟨false, rfl, hb ρ M1 σ H1 F1 _ _ (er.mono e1.fs) m1 q1 (f.ext e1)⟩
  · cases r1
    exact ⟨true, rfl, f (.bl true) _ _ _ _ m1 e1 rfl q1⟩
  · exact q1.elim
theorem tr_not {ta : TE} {a : DE} (ha : Tr ta a) : Tr (tNotV ta) (wNotV a) := by
  intro ρ M σ H F Q Qv er m q f
  refine ha ρ M σ H F _ _ er m q fun d1 v1 M1 H1 F1 m1 e1 r1 q1 => ?_
  split at q1
  · cases r1
    exact ⟨_, rfl, f (.bl _) _ _ _ _ m1 e1 rfl q1⟩
  · exact q1.elim
def wIfE (c : DT) (a b : DE) : DE := fun ρ M Q => c ρ M fun k M1 => if k = true then a ρ M1 Q else b ρ M1 Q
theorem tr_if {tc : TT} {ta tb : TE} {c : DT} {a b : DE} (hc : TrT tc c) (ha : Tr ta a) (hb : Tr tb b) : Tr (tIf tc ta tb) (wIfE c a b) := by
  intro ρ M σ H F Q Qv er m q f
  refine hc ρ M σ H F _ _ er m q fun k M1 H1 F1 m1 e1 q1 => ?_
  cases k with
  | true => exact ha ρ M1 σ H1 F1 _ _ (er.mono e1.fs) m1 q1 (f.ext e1)
  | false => exact hb ρ M1 σ H1 F1 _ _ (er.mono e1.fs) m1 q1 (f.ext e1)
/-- a op b op' c -/
def wChain (r r' : DO) (a b c : DE) : DE := fun ρ M Q => a ρ M fun x M1 => b ρ M1 fun y M2 => r x y M2 fun z M3 => match z with
  | .bl true => c ρ M3 fun u M4 => r' y u M4 Q
  | .bl false => Q (.bl false) M3
  | _ => False
theorem tr_chain {r r' : R2} {w w' : DO} {ta tb tc : TE} {a b c : DE} (ho : OpT r w) (ho' : OpT r' w') (ha : Tr ta a) (hb : Tr tb b) (hc : Tr tc c) : Tr (tChain r r' ta tb tc) (wChain w w' a b c) := by
  intro ρ M σ H F Q Qv er m h f
  refine ha ρ M σ H F _ _ er m h fun d1 v1 M1 H1 F1 m1 e1 r1 q1 => ?_
  refine hb ρ M1 σ H1 F1 _ _ (er.mono e1.fs) m1 q1 fun d2 v2 M2 H2 F2 m2 e2 r2 q2 => ?_
  refine ho M2 H2 F2 d1 d2 v1 v2 _ _ m2 (Rp.mono e2.fs _ _ r1) r2 q2 fun d3 v3 M3 H3 F3 m3 e3 r3 q3 => ?_
  split at q3
  · cases r3
    refine ⟨true, rfl, ?_⟩
    rw [if_pos rfl]
    refine hc ρ M3 σ H3 F3 _ _ (er.mono (e1.fs.trans (e2.fs.trans e3.fs))) m3 q3 fun d4 v4 M4 H4 F4 m4 e4 r4 q4 => ?_
    exact ho' M4 H4 F4 d2 d4 v2 v4 Q Qv m4 (Rp.mono (e3.fs.trans e4.fs) _ _ r2) r4 q4 (f.ext (e1.trans (e2.trans (e3.trans e4))))
  · cases r3
    refine ⟨false, rfl, ?_⟩
    rw [if_neg Bool.false_ne_true]
    exact f (.bl false) _ _ _ _ m3 (e1.trans (e2.trans e3)) rfl q3
  · exact q3.elim

/-! ### displays, argument lists -/
def aNil : DA := fun _ M Q => Q [] M
def aCons (a : DE) (r : DA) : DA := fun ρ M Q => a ρ M fun x M1 => r ρ M1 fun xs M2 => Q (x :: xs) M2
theorem ta_nil : TrA tNil aNil := fun ρ M σ H F Q Qv er m h f => f [] [] _ _ _ m .refl rfl h
theorem ta_cons {ta : TE} {t : TA} {a : DE} {r : DA} (ha : Tr ta a) (hr : TrA t r) : TrA (tCons ta t) (aCons a r) := by
  intro ρ M σ H F Q Qv er m h f
  refine ha ρ M σ H F _ _ er m h fun d1 v1 M1 H1 F1 m1 e1 r1 q1 => ?_
  refine hr ρ M1 σ H1 F1 _ _ (er.mono e1.fs) m1 q1 fun ds vs M2 H2 F2 m2 e2 r2 q2 => ?_
  exact f (d1 :: ds) _ _ _ _ m2 (e1.trans e2) ⟨v1, vs, rfl, Rp.mono e2.fs _ _ r1, r2⟩ q2
def wLst (md : Md) (a : DA) : DE := fun ρ M Q => a ρ M fun xs M1 => Sz xs.length ∧ wNew md xs M1 Q
def wTup (a : DA) : DE := fun ρ M Q => a ρ M fun xs M1 => Sz xs.length ∧ Q (.tup xs) M1
theorem tr_lst {md : Md} {t : TA} {a : DA} (h : TrA t a) : Tr (tLst t) (wLst md a) := by
  intro ρ M σ H F Q Qv er m q f
  refine h ρ M σ H F _ _ er m q fun ds vs M1 H1 F1 m1 e1 r1 q1 => ?_
  exact ⟨by rw [r1.length]; exact q1.1.line, new_lst m1 r1 q1.2 (f.ext e1)⟩
theorem tr_tup {t : TA} {a : DA} (h : TrA t a) : Tr (tTup t) (wTup a) := by
  intro ρ M σ H F Q Qv er m q f
  refine h ρ M σ H F _ _ er m q fun ds vs M1 H1 F1 m1 e1 r1 q1 => ?_
  exact ⟨by rw [r1.length]; exact q1.1.line, new_tup m1 r1 q1.2 (f.ext e1)⟩

/-! ### items, slices -/
def nIx : DO := fun x y M Q => match x, y with
  | .lst xs, .int i => match atI xs i with
    | some d => Q d M
    | none => False
  | .tup xs, .int i => match atI xs i with
    | some d => Q d M
    | none => False
  | .str z, .int i => match atI z.cps.toList i with
    | some c => Sz z.length ∧ Q (.str ⟨#[c]⟩) M
    | none => False
  | _, _ => False
def wIx : DO := fun x y M Q => nIx (nrm M x) (nrm M y) M Q
theorem atI_rp {F : Hp} {xs : List D} {vs : List V} {i : Int} {d : D} (r : RpL F xs vs) (h : atI xs i = some d) : ∃ v, atI vs i = some v ∧ Rp F d v := by
  unfold atI at h ⊢
  rw [← r.length] at h
  cases e : ixN vs.length i with
  | none => rw [e] at h; cases h
  | some j => rw [e] at h; exact r.get h
theorem ot_ix {K : PySem.W.Frag} : OpT (rIx K) wIx := OpT.byView (fun _ _ _ _ => rfl) fun M H F n1 n2 v1 v2 Q Qv m r1 r2 q f => by
  unfold nIx at q
  split at q
  · obtain ⟨a, vs, rfl, ha, ra⟩ := r1
    cases r2
    split at q
    · rename_i d e
      obtain ⟨v, e1, rv⟩ := atI_rp ra e
      exact .inl ⟨_, _, _, _, rfl, rfl, .of ha, e1, f.here m rv q⟩
    · exact q.elim
  · obtain ⟨a, vs, rfl, ha, ra⟩ := r1
    cases r2
    split at q
    · rename_i d e
      obtain ⟨v, e1, rv⟩ := atI_rp ra e
      exact .inr (.inl ⟨_, _, _, _, rfl, rfl, .of ha, e1, f.here m rv q⟩)
    · exact q.elim
  · cases r1; cases r2
    split at q
    · rename_i c e
      exact .inr (.inr ⟨_, _, _, rfl, rfl, q.1.line, e, f.here (d := .str _) m rfl q.2⟩)
    · exact q.elim
  · exact q.elim
/-- a part of a slice -/
abbrev DP := DEnv → Mp → (Option Int → Mp → Prop) → Prop
def TrP (t : TO) (w : DP) : Prop := ∀ (ρ : DEnv) (M : Mp) (σ : L2.St) (H F : Hp) (Q : Option Int → Mp → Prop) (Qv : Option Int → Hp → Prop), EnvR F ρ σ → Mem M H F → w ρ M Q →
  (∀ b M' H' F', Mem M' H' F' → Ext M H F M' H' F' → Q b M' → Qv b H') → t σ H Qv
def pNo : DP := fun _ M Q => Q none M
def pSo (a : DE) : DP := fun ρ M Q => a ρ M fun x M1 => match x with
  | .int i => Q (some i) M1
  | _ => False
theorem tp_no : TrP tNoPart pNo := fun ρ M σ H F Q Qv er m q f => f _ _ _ _ m .refl q
theorem tp_so {t : TE} {a : DE} (h : Tr t a) : TrP (tPart t) (pSo a) := by
  intro ρ M σ H F Q Qv er m q f
  refine h ρ M σ H F _ _ er m q fun d1 v1 M1 H1 F1 m1 e1 r1 q1 => ?_
  split at q1
  · cases r1
    exact ⟨_, rfl, f _ _ _ _ m1 e1 q1⟩
  · exact q1.elim
def cutD {α : Type} (xs : List α) (lo hi : Option Int) : List α := (xs.drop (HT.sIx xs.length 0 lo)).take (HT.sIx xs.length xs.length hi - HT.sIx xs.length 0 lo)
def wSl (K : PySem.W.Frag) (md : Md) (a : DE) (lo hi : DP) : DE := fun ρ M Q => a ρ M fun x M1 => lo ρ M1 fun l M2 => hi ρ M2 fun u M3 => match nrm M3 x with
  | .lst xs => wNew md (cutD xs l u) M3 Q
  | .scr K' xs => K' = K ∧ wNew md (cutD xs l u) M3 Q
  | _ => False
theorem tr_sl {K : PySem.W.Frag} {md : Md} {t : TE} {tl th : TO} {a : DE} {lo hi : DP} (h : Tr t a) (hl : TrP tl lo) (hh : TrP th hi) : Tr (tSl (rSlL K) t tl th) (wSl K md a lo hi) := by
  intro ρ M σ H F Q Qv er m q f
  refine h ρ M σ H F _ _ er m q fun d1 v1 M1 H1 F1 m1 e1 r1 q1 => ?_
  refine hl ρ M1 σ H1 F1 _ _ (er.mono e1.fs) m1 q1 fun l M2 H2 F2 m2 e2 q2 => ?_
  refine hh ρ M2 σ H2 F2 _ _ (er.mono (e1.fs.trans e2.fs)) m2 q2 fun u M3 H3 F3 m3 e3 q3 => ?_
  have rv := m3.view (Rp.mono (e2.fs.trans e3.fs) _ _ r1)
  split at q3
  · rename_i xs e
    rw [e] at rv
    obtain ⟨b, vs, rfl, hb, rb⟩ := rv
    refine ⟨b, vs, rfl, .of hb, new_lst m3 ?_ q3 (f.ext (e1.trans (e2.trans e3)))⟩
    unfold cutV cutD
    rw [rb.length]
    exact (rb.drop _).take _
  · rename_i K' xs e
    rw [e] at rv
    obtain ⟨b, vs, rfl, hb, rb⟩ := rv
    obtain ⟨rfl, q3⟩ := q3
    refine ⟨b, vs, rfl, hb, new_lst m3 ?_ q3 (f.ext (e1.trans (e2.trans e3)))⟩
    unfold cutV cutD
    rw [rb.length]
    exact (rb.drop _).take _
  · exact q3.elim


/-! ### statements -/
structure DEnds where
  nx : DEnv → Mp → Prop
  rt : DK
  bk : DEnv → Mp → Prop := fun _ _ => False
  ct : DEnv → Mp → Prop := fun _ _ => False
abbrev DS := DEnds → DEnv → Mp → Prop
structure EndsR (M : Mp) (H F : Hp) (Dd : DEnds) (De : Ends) : Prop where
  nx : ∀ ρ' M' σ' H' F', EnvR F' ρ' σ' → Mem M' H' F' → Ext M H F M' H' F' → Dd.nx ρ' M' → De.nx σ' H'
  rt : ∀ d v M' H' F', Mem M' H' F' → Ext M H F M' H' F' → Rp F' d v → Dd.rt d M' → De.rt v H'
  bk : ∀ ρ' M' σ' H' F', EnvR F' ρ' σ' → Mem M' H' F' → Ext M H F M' H' F' → Dd.bk ρ' M' → De.bk σ' H'
  ct : ∀ ρ' M' σ' H' F', EnvR F' ρ' σ' → Mem M' H' F' → Ext M H F M' H' F' → Dd.ct ρ' M' → De.ct σ' H'
theorem EndsR.ext {M M1 : Mp} {H F H1 F1 : Hp} {Dd : DEnds} {De : Ends} (r : EndsR M H F Dd De) (e : Ext M H F M1 H1 F1) : EndsR M1 H1 F1 Dd De :=
  ⟨fun a b c d f g h i => r.nx a b c d f g h (e.trans i), fun a b c d f g h => r.rt a b c d f g (e.trans h), fun a b c d f g h i => r.bk a b c d f g h (e.trans i), fun a b c d f g h i => r.ct a b c d f g h (e.trans i)⟩
def TrS (t : TS) (w : DS) : Prop := ∀ (ρ : DEnv) (M : Mp) (σ : L2.St) (H F : Hp) (Dd : DEnds) (De : Ends), EnvR F ρ σ → Mem M H F → w Dd ρ M → EndsR M H F Dd De → t De σ H
def sNext : DS := fun Dd ρ M => Dd.nx ρ M
theorem ts_next : TrS tNext sNext := fun ρ M σ H F Dd De er m h r => r.nx _ _ _ _ _ er m .refl h
def sBreak : DS := fun Dd ρ M => Dd.bk ρ M
theorem ts_break : TrS tBreak sBreak := fun ρ M σ H F Dd De er m h r => r.bk _ _ _ _ _ er m .refl h
def sCont : DS := fun Dd ρ M => Dd.ct ρ M
theorem ts_cont : TrS tCont sCont := fun ρ M σ H F Dd De er m h r => r.ct _ _ _ _ _ er m .refl h
def sNever : DS := fun _ _ _ => False
theorem ts_never : TrS tNever sNever := fun ρ M σ H F Dd De er m h r => h.elim
def sSeq (a b : DS) : DS := fun Dd ρ M => a { Dd with nx := b Dd } ρ M
theorem ts_seq {t u : TS} {a b : DS} (ha : TrS t a) (hb : TrS u b) : TrS (tSeq t u) (sSeq a b) := by
  intro ρ M σ H F Dd De er m h r
  exact ha ρ M σ H F _ _ er m h ⟨fun ρ' M' σ' H' F' er' m' e' q => hb ρ' M' σ' H' F' Dd De er' m' q (r.ext e'), r.rt, r.bk, r.ct⟩
def sDrop (a : DE) : DS := fun Dd ρ M => a ρ M fun _ M1 => Dd.nx ρ M1
theorem ts_drop {t : TE} {a : DE} (h : Tr t a) : TrS (tDrop t) (sDrop a) := by
  intro ρ M σ H F Dd De er m q r
  exact h ρ M σ H F _ _ er m q fun d v M' H' F' m' e' _ q' => r.nx _ _ _ _ _ (er.mono e'.fs) m' e' q'
def sRet (a : DE) : DS := fun Dd ρ M => a ρ M Dd.rt
theorem ts_ret {t : TE} {a : DE} (h : Tr t a) : TrS (tRet t) (sRet a) := by
  intro ρ M σ H F Dd De er m q r
  exact h ρ M σ H F _ _ er m q fun d v M' H' F' m' e' r' q' => r.rt _ _ _ _ _ m' e' r' q'
def sRetN : DS := fun Dd _ M => Dd.rt .non M
theorem ts_retN : TrS tRetN sRetN := fun ρ M σ H F Dd De er m q r => r.rt .non .non _ _ _ m .refl rfl q
def sIf (c : DT) (a b : DS) : DS := fun Dd ρ M => c ρ M fun k M1 => if k = true then a Dd ρ M1 else b Dd ρ M1
theorem ts_if {tc : TT} {t u : TS} {c : DT} {a b : DS} (hc : TrT tc c) (ha : TrS t a) (hb : TrS u b) : TrS (tIfS tc t u) (sIf c a b) := by
  intro ρ M σ H F Dd De er m q r
  refine hc ρ M σ H F _ _ er m q fun k M1 H1 F1 m1 e1 q1 => ?_
  cases k with
  | true => exact ha ρ M1 σ H1 F1 _ _ (er.mono e1.fs) m1 q1 (r.ext e1)
  | false => exact hb ρ M1 σ H1 F1 _ _ (er.mono e1.fs) m1 q1 (r.ext e1)

/-! ### targets -/
abbrev DG := D → DEnv → Mp → (DEnv → Mp → Prop) → Prop
def TrG (g : TG) (w : DG) : Prop := ∀ (d : D) (v : V) (ρ : DEnv) (M : Mp) (σ : L2.St) (H F : Hp) (Q : DEnv → Mp → Prop) (Qs : L2.St → Hp → Prop), EnvR F ρ σ → Mem M H F → Rp F d v → w d ρ M Q →
  (∀ ρ' M' σ' H' F', EnvR F' ρ' σ' → Mem M' H' F' → Ext M H F M' H' F' → Q ρ' M' → Qs σ' H') → g v σ H Qs
def dName (i : Nat) : DG := fun d ρ M Q => Q (ρ.set i (some d)) M
theorem tg_name {i : Nat} : TrG (gName i) (dName i) := fun d v ρ M σ H F Q Qs er m r q f => f _ _ _ _ _ (er.set i r) m .refl q
abbrev DGs := List D → DEnv → Mp → (DEnv → Mp → Prop) → Prop
def TrGs (g : TGs) (w : DGs) : Prop := ∀ (ds : List D) (vs : List V) (ρ : DEnv) (M : Mp) (σ : L2.St) (H F : Hp) (Q : DEnv → Mp → Prop) (Qs : L2.St → Hp → Prop), EnvR F ρ σ → Mem M H F → RpL F ds vs → w ds ρ M Q →
  (∀ ρ' M' σ' H' F', EnvR F' ρ' σ' → Mem M' H' F' → Ext M H F M' H' F' → Q ρ' M' → Qs σ' H') → g vs σ H Qs
def dNil : DGs := fun ds ρ M Q => match ds with
  | [] => Q ρ M
  | _ => False
def dCons (g : DG) (r : DGs) : DGs := fun ds ρ M Q => match ds with
  | d :: ds => g d ρ M fun ρ1 M1 => r ds ρ1 M1 Q
  | [] => False
theorem tgs_nil : TrGs gNil dNil := by
  intro ds vs ρ M σ H F Q Qs er m r q f
  unfold dNil at q
  split at q
  · cases r; exact ⟨rfl, f _ _ _ _ _ er m .refl q⟩
  · exact q.elim
theorem tgs_cons {g : TG} {r : TGs} {w : DG} {u : DGs} (hg : TrG g w) (hr : TrGs r u) : TrGs (gCons g r) (dCons w u) := by
  intro ds vs ρ M σ H F Q Qs er m r q f
  unfold dCons at q
  split at q
  · obtain ⟨v, vr, rfl, h1, h2⟩ := r
    refine ⟨v, vr, rfl, hg _ v ρ M σ H F _ _ er m h1 q fun ρ1 M1 σ1 H1 F1 er1 m1 e1 q1 => ?_⟩
    exact hr _ vr ρ1 M1 σ1 H1 F1 _ _ er1 m1 (RpL.mono e1.fs _ _ h2) q1 fun a b c d e f1 f2 f3 f4 => f a b c d e f1 f2 (e1.trans f3) f4
  · exact q.elim
def dTup (n : Nat) (g : DGs) : DG := fun d ρ M Q => match d with
  | .tup xs => xs.length = n ∧ g xs ρ M Q
  | _ => False
theorem tg_tup {K : PySem.W.Frag} {n : Nat} {g : TGs} {w : DGs} (h : TrGs g w) : TrG (gTup K n g) (dTup n w) := by
  intro d v ρ M σ H F Q Qs er m r q f
  unfold dTup at q
  split at q
  · obtain ⟨a, vs, rfl, ha, ra⟩ := r
    exact ⟨a, vs, rfl, .of (m.same _ _ ha), by rw [ra.length]; exact q.1, h _ vs ρ M σ H F Q Qs er m ra q.2 f⟩
  · exact q.elim
/-- o[i] = .. -/
abbrev DSet := D → D → D → Mp → (Mp → Prop) → Prop
def TrSet (t : TSet) (w : DSet) : Prop := ∀ (o i d : D) (ov iv v : V) (M : Mp) (H F : Hp) (Q : Mp → Prop) (Qs : Hp → Prop), Mem M H F → Rp F o ov → Rp F i iv → Rp F d v → w o i d M Q →
  (∀ M' H' F', Mem M' H' F' → Ext M H F M' H' F' → Q M' → Qs H') → t ov iv v H Qs
def dSub (o i : DE) (s : DSet) : DG := fun d ρ M Q => o ρ M fun x M1 => i ρ M1 fun y M2 => s x y d M2 fun M3 => Q ρ M3
theorem tg_sub {to ti : TE} {o i : DE} {t : TSet} {s : DSet} (ho : Tr to o) (hi : Tr ti i) (hs : TrSet t s) : TrG (gSub to ti t) (dSub o i s) := by
  intro d v ρ M σ H F Q Qs er m r q f
  refine ho ρ M σ H F _ _ er m q fun x ov M1 H1 F1 m1 e1 r1 q1 => ?_
  refine hi ρ M1 σ H1 F1 _ _ (er.mono e1.fs) m1 q1 fun y iv M2 H2 F2 m2 e2 r2 q2 => ?_
  refine hs x y d ov iv v M2 H2 F2 _ _ m2 (Rp.mono e2.fs _ _ r1) r2 (Rp.mono (e1.fs.trans e2.fs) _ _ r) q2 fun M3 H3 F3 m3 e3 q3 => ?_
  have e := e1.trans (e2.trans e3)
  exact f _ _ _ _ _ (er.mono e.fs) m3 e q3
/-- a list's item is set -/
def sSetL : DSet := fun o i d M Q => match o, i with
  | .ref a, .int k => match M a with
    | some (.lst xs) => match ixN xs.length k with
      | some j => Q (M.set a (.lst (xs.set j d)))
      | none => False
    | _ => False
  | _, _ => False
theorem tset_list : TrSet rSetL sSetL := by
  intro o i d ov iv v M H F Q Qs m ro ri rd q f
  unfold sSetL at q
  split at q
  · rename_i a k
    split at q
    · rename_i xs e
      obtain ⟨hf, ob, ha, vs, rfl, ra⟩ := m.mem a _ e
      split at q
      · rename_i j ej
        have ro : ov = .ref a := ro
        have ri : iv = .int k := ri
        subst ro; subst ri
        obtain ⟨m', e'⟩ := m.chg e (o := .lst (vs.set j v)) (q := .lst (xs.set j d)) ⟨_, rfl, ra.set rd j⟩
        exact ⟨a, vs, k, j, rfl, rfl, ha, by rw [ra.length]; exact ej, f _ _ _ m' e' q⟩
      · exact q.elim
    · exact q.elim
  · exact q.elim
def sAsg (a : DE) (g : DG) : DS := fun Dd ρ M => a ρ M fun x M1 => g x ρ M1 Dd.nx
theorem ts_asg {t : TE} {g : TG} {a : DE} {w : DG} (h : Tr t a) (hg : TrG g w) : TrS (tAsg t g) (sAsg a w) := by
  intro ρ M σ H F Dd De er m q r
  refine h ρ M σ H F _ _ er m q fun d v M1 H1 F1 m1 e1 r1 q1 => ?_
  exact hg d v ρ M1 σ H1 F1 _ _ (er.mono e1.fs) m1 r1 q1 fun a b c d e f1 f2 f3 f4 => r.nx a b c d e f1 f2 (e1.trans f3) f4
/-- a, b = x, y -/
def sPar (i j : Nat) (a : DA) : DS := fun Dd ρ M => a ρ M fun ds M1 => match ds with
  | [x, y] => Dd.nx ((ρ.set i (some x)).set j (some y)) M1
  | _ => False
theorem ts_par {i j : Nat} {t : TA} {a : DA} (h : TrA t a) : TrS (tPar i j t) (sPar i j a) := by
  intro ρ M σ H F Dd De er m q r
  refine h ρ M σ H F _ _ er m q fun ds vs M1 H1 F1 m1 e1 r1 q1 => ?_
  split at q1
  · obtain ⟨v, vr, rfl, h1, w, wr, rfl, h2, h3⟩ := r1
    cases h3
    exact ⟨v, w, rfl, r.nx _ _ _ _ _ (((er.mono e1.fs).set i h1).set j h2) m1 e1 q1⟩
  · exact q1.elim
/-- x op= e, by an operator's in-place rule -/
def sAug (i : Nat) (a : DE) (o : DO) : DS := fun Dd ρ M => match ρ[i]? with
  | some (some x) => a ρ M fun y M1 => o x y M1 fun z M2 => Dd.nx (ρ.set i (some z)) M2
  | _ => False
theorem ts_aug {i : Nat} {t : TE} {a : DE} {r : R2} {o : DO} (h : Tr t a) (ho : OpT r o) : TrS (tAug i t r) (sAug i a o) := by
  intro ρ M σ H F Dd De er m q r
  unfold sAug at q
  split at q
  · rename_i x e
    obtain ⟨v, e1, rx⟩ := er.at_ i x e
    refine ⟨v, e1, h ρ M σ H F _ _ er m q fun y u M1 H1 F1 m1 x1 r1 q1 => ?_⟩
    refine ho M1 H1 F1 x y v u _ _ m1 (Rp.mono x1.fs _ _ rx) r1 q1 fun z w M2 H2 F2 m2 x2 r2 q2 => ?_
    exact r.nx _ _ _ _ _ ((er.mono (x1.trans x2).fs).set i r2) m2 (x1.trans x2) q2
  · exact q.elim

/-! ### what is walked -/
abbrev DI := DEnv → Mp → (List D → (Mp → Prop) → Mp → Prop) → Prop
/-- the walk J gives xs, one after another -/
def DWk (J : It) (xs : List D) (P : Mp → Prop) (F1 : Hp) : Prop := ∃ (G : Hp → Prop) (Y : Nat → Hp → V → Hp → Prop), Walk J xs.length G Y ∧
  (∀ M H F, Mem M H F → Same F1 F → P M → G H) ∧ ∀ i x H H' M F, i < xs.length → Mem M H F → Same F1 F → P M → Y i H x H' → ∃ F' d, Mem M H' F' ∧ Ext M H F M H' F' ∧ xs[i]? = some d ∧ Rp F' d x
def TrI (t : TI) (w : DI) : Prop := ∀ (ρ : DEnv) (M : Mp) (σ : L2.St) (H F : Hp) (Q : List D → (Mp → Prop) → Mp → Prop) (R : It → Hp → Prop), EnvR F ρ σ → Mem M H F → w ρ M Q →
  (∀ xs P J M' H' F', Mem M' H' F' → Ext M H F M' H' F' → DWk J xs P F' → Q xs P M' → R J H') → t σ H R
/-- list or mutable list -/
def nIt (K : PySem.W.Frag) (x : D) (M : Mp) (Q : List D → (Mp → Prop) → Mp → Prop) : Prop := match nrm M x with
  | .lst xs => Q xs (fun M' => nrm M' x = .lst xs) M
  | .scr K' xs => K' = K ∧ Q xs (fun M' => nrm M' x = .scr K' xs) M
  | _ => False
def iLst (K : PySem.W.Frag) (w : DE) : DI := fun ρ M Q => w ρ M fun x M1 => nIt K x M1 Q
theorem dwk_list {K : PySem.W.Frag} {a : Addr} {xs : List D} {P : Mp → Prop} {F1 : Hp} (h : ∀ M H F, Mem M H F → Same F1 F → P M → ∃ vs, RpL F xs vs ∧ SqL K H a vs) : DWk (Itl K a) xs P F1 := by
  refine ⟨fun H => ∃ vs : List V, vs.length = xs.length ∧ SqL K H a vs, fun i H x H' => H' = H ∧ ∀ ys, SqL K H a ys → ys[i]? = some x, ⟨fun i H hi q => ?_, fun H q => ?_, fun i H x H' _ _ y => y⟩, fun M H F m s p => ?_, fun i x H H' M F hi m s p y => ?_⟩
  · obtain ⟨vs, e, q⟩ := q
    exact ⟨vs, vs[i]'(by omega), q, by simp [show i < vs.length by omega]⟩
  · obtain ⟨vs, e, q⟩ := q
    exact ⟨vs, q, by omega⟩
  · obtain ⟨vs, r, q⟩ := h M H F m s p
    exact ⟨vs, r.length, q⟩
  · obtain ⟨vs, r, q⟩ := h M H F m s p
    obtain ⟨rfl, y⟩ := y
    obtain ⟨d, e, rd⟩ := r.get' (y vs q)
    exact ⟨F, d, m, .refl, e, rd⟩
theorem ti_list {K : PySem.W.Frag} {t : TE} {w : DE} (h : Tr t w) : TrI (iList K t) (iLst K w) := by
  intro ρ M σ H F Q R er m q f
  refine h ρ M σ H F _ _ er m q fun d v M1 H1 F1 m1 e1 r1 q1 => ?_
  unfold nIt at q1
  have vw := m1.view r1
  split at q1
  · rename_i xs e
    rw [e] at vw
    obtain ⟨a, vs, rfl, ha, ra⟩ := vw
    refine ⟨a, rfl, ⟨vs, .of ha⟩, f _ _ _ _ _ _ m1 e1 (dwk_list fun M H F m s p => ?_) q1⟩
    have vw := m.view (Rp.mono s _ _ r1)
    rw [show nrm M d = .lst xs from p] at vw
    obtain ⟨a2, vs2, ea, ha2, ra2⟩ := vw
    cases ea
    exact ⟨vs2, ra2, .of ha2⟩
  · rename_i K' xs e
    obtain ⟨rfl, q1⟩ := q1
    rw [e] at vw
    obtain ⟨a, vs, rfl, ha, ra⟩ := vw
    refine ⟨a, rfl, ⟨vs, ha⟩, f _ _ _ _ _ _ m1 e1 (dwk_list fun M H F m s p => ?_) q1⟩
    have vw := m.view (Rp.mono s _ _ r1)
    rw [show nrm M d = .scr _ xs from p] at vw
    obtain ⟨a2, vs2, ea, ha2, ra2⟩ := vw
    cases ea
    exact ⟨vs2, ra2, ha2⟩
  · exact q1.elim
/-- a tuple -/
def iTp (w : DE) : DI := fun ρ M Q => w ρ M fun x M1 => match x with
  | .tup xs => Q xs (fun _ => True) M1
  | _ => False
theorem ti_tup {K : PySem.W.Frag} {t : TE} {w : DE} (h : Tr t w) : TrI (iTup K t) (iTp w) := by
  intro ρ M σ H F Q R er m q f
  refine h ρ M σ H F _ _ er m q fun d v M1 H1 F1 m1 e1 r1 q1 => ?_
  split at q1
  · obtain ⟨a, vs, rfl, ha, ra⟩ := r1
    refine ⟨a, rfl, ⟨vs, .of (m1.same _ _ ha)⟩, f _ _ _ _ _ _ m1 e1 ⟨_, _, ra.length ▸ (walk_tup (xs := vs)), fun M H F m s _ => .of (m.same _ _ (s _ _ ha)), fun i x H H' M F hi m s _ y => ?_⟩ q1⟩
    obtain ⟨rfl, hx⟩ := y
    obtain ⟨d, e, rd⟩ := (RpL.mono s _ _ ra).get' hx
    exact ⟨F, d, m, .refl, e, rd⟩
  · exact q1.elim
/-- lo, lo + c, .. -/
def rngD (lo c : Int) (n : Nat) : List D := (List.range n).map fun i => .int (lo + (i : Nat) * c)
theorem rngD_length {lo c : Int} {n : Nat} : (rngD lo c n).length = n := by simp [rngD]
theorem rngD_get {lo c : Int} {n i : Nat} (h : i < n) : (rngD lo c n)[i]? = some (.int (lo + (i : Nat) * c)) := by simp [rngD, h]
def Rg (i : Int) : Prop := -(2 ^ 62) ≤ i ∧ i < 2 ^ 62
def iRn1 (a : DA) : DI := fun ρ M Q => a ρ M fun ds M1 => match ds with
  | [.int j] => Rg j ∧ Q (rngD 0 1 j.toNat) (fun _ => True) M1
  | _ => False
def iRn2 (a : DA) : DI := fun ρ M Q => a ρ M fun ds M1 => match ds with
  | [.int i, .int j] => (Rg i ∧ Rg j) ∧ Q (rngD i 1 (j - i).toNat) (fun _ => True) M1
  | _ => False
/-- how many a range with a step has -/
def rngN (i j c : Int) : Nat := (Builtin.Range.rangeSize i j c).toNat
def Stp (c : Int) : Prop := c ≠ 0 ∧ c.natAbs < 1073741824
def iRn3 (a : DA) : DI := fun ρ M Q => a ρ M fun ds M1 => match ds with
  | [.int i, .int j, .int c] => (Rg i ∧ Rg j ∧ Stp c) ∧ Q (rngD i c (rngN i j c)) (fun _ => True) M1
  | _ => False
theorem size_nn (i j c : Int) : 0 ≤ Builtin.Range.rangeSize i j c := by
  unfold Builtin.Range.rangeSize
  split
  · split
    · have : 0 ≤ (j - i - 1) / c := Int.ediv_nonneg (by omega) (by omega)
      omega
    · omega
  · split
    · by_cases h : c = 0
      · subst h; simp
      · have : 0 ≤ (i - j - 1) / -c := Int.ediv_nonneg (by omega) (by omega)
        omega
    · omega
theorem ediv_le_self' {a c : Int} (ha : 0 ≤ a) (hc : 0 < c) : a / c ≤ a := by
  have := Int.ediv_le_self c ha
  exact this
theorem rgC_of {i j c : Int} (hi : Rg i) (hj : Rg j) (hc : Stp c) : RgC i j c (rngN i j c) := by
  obtain ⟨c0, c1⟩ := hc
  have n0 := size_nn i j c
  have n1 : Builtin.Range.rangeSize i j c < 2 ^ 63 := by
    unfold Builtin.Range.rangeSize
    obtain ⟨a1, a2⟩ := hi
    obtain ⟨b1, b2⟩ := hj
    split
    · split
      · have : (j - i - 1) / c ≤ j - i - 1 := ediv_le_self' (by omega) (by omega)
        omega
      · omega
    · split
      · have : (i - j - 1) / -c ≤ i - j - 1 := ediv_le_self' (by omega) (by omega)
        omega
      · omega
  refine ⟨c0, c1, ?_, by unfold rngN; omega⟩
  obtain ⟨a1, a2⟩ := hi
  obtain ⟨b1, b2⟩ := hj
  have fit : ∀ x : Int, -(2 ^ 63) ≤ x → x < 2 ^ 63 → Builtin.Range.rangeFitsLong x = true := fun x h1 h2 => by
    unfold Builtin.Range.rangeFitsLong
    simp only [Bool.and_eq_true, decide_eq_true_eq]
    omega
  unfold Builtin.Range.small
  rw [fit i (by omega) (by omega), fit j (by omega) (by omega), fit c (by omega) (by omega), fit _ (by omega) n1]
  have l1 := fit (j + (c - 1)) (by omega) (by omega)
  have l2 := fit (j + (c + 1)) (by omega) (by omega)
  rw [l1, l2]
  simp
theorem dwk_rng {lo c : Int} {n : Nat} {J : It} {P : Mp → Prop} {F1 : Hp} (h : Walk J n (fun _ => True) (YFn fun i => .int (lo + (i : Nat) * c))) : DWk J (rngD lo c n) P F1 := by
  refine ⟨_, _, (rngD_length (lo := lo) (c := c) (n := n)).symm ▸ h, fun _ _ _ _ _ _ => trivial, fun i x H H' M F hi m s _ y => ?_⟩
  obtain ⟨rfl, rfl⟩ := y
  rw [rngD_length] at hi
  exact ⟨F, _, m, .refl, rngD_get hi, rfl⟩
theorem dwk_rng1 {lo : Int} {n : Nat} {P : Mp → Prop} {F1 : Hp} : DWk (Itr lo n) (rngD lo 1 n) P F1 := dwk_rng (walk_range.mono (fun _ h => h) fun i H x H' _ _ y => by simpa using y)
theorem ti_rng1 {t : TA} {a : DA} (h : TrA t a) : TrI (iRng1 t) (iRn1 a) := by
  intro ρ M σ H F Q R er m q f
  refine h ρ M σ H F _ _ er m q fun ds vs M1 H1 F1 m1 e1 r1 q1 => ?_
  split at q1
  · obtain ⟨v, r, rfl, h1, h2⟩ := r1
    cases h1; cases h2
    exact ⟨_, rfl, q1.1.1, q1.1.2, f _ _ _ _ _ _ m1 e1 dwk_rng1 q1.2⟩
  · exact q1.elim
theorem ti_rng2 {t : TA} {a : DA} (h : TrA t a) : TrI (iRng2 t) (iRn2 a) := by
  intro ρ M σ H F Q R er m q f
  refine h ρ M σ H F _ _ er m q fun ds vs M1 H1 F1 m1 e1 r1 q1 => ?_
  split at q1
  · obtain ⟨v, r, rfl, h1, w, r2, rfl, h2, h3⟩ := r1
    cases h1; cases h2; cases h3
    exact ⟨_, _, rfl, ⟨q1.1.1.1, q1.1.1.2, q1.1.2.1, q1.1.2.2⟩, f _ _ _ _ _ _ m1 e1 dwk_rng1 q1.2⟩
  · exact q1.elim
theorem ti_rng3 {t : TA} {a : DA} (h : TrA t a) : TrI (iRng3 t) (iRn3 a) := by
  intro ρ M σ H F Q R er m q f
  refine h ρ M σ H F _ _ er m q fun ds vs M1 H1 F1 m1 e1 r1 q1 => ?_
  split at q1
  · obtain ⟨v, r, rfl, h1, w, r2, rfl, h2, u, r3, rfl, h3, h4⟩ := r1
    cases h1; cases h2; cases h3; cases h4
    exact ⟨_, _, _, _, rfl, rgC_of q1.1.1 q1.1.2.1 q1.1.2.2, f _ _ _ _ _ _ m1 e1 (dwk_rng walk_rangeC) q1.2⟩
  · exact q1.elim
/-- pairs, each laid anew -/
theorem dwk_pair {J : It} {xs ys : List D} {zs : List D} {P : Mp → Prop} {F1 : Hp} {G : Hp → Prop} {f g : Nat → Option V} (w : Walk J zs.length G (YPair f g)) (hG : ∀ M H F, Mem M H F → Same F1 F → P M → G H)
    (hf : ∀ F i x, Same F1 F → f i = some x → ∃ d, xs[i]? = some d ∧ Rp F d x) (hg : ∀ F i x, Same F1 F → g i = some x → ∃ d, ys[i]? = some d ∧ Rp F d x)
    (hz : ∀ i a b, xs[i]? = some a → ys[i]? = some b → i < zs.length → zs[i]? = some (.tup [a, b])) : DWk J zs P F1 := by
  refine ⟨G, _, w, hG, fun i v H H' M F hi m s p y => ?_⟩
  obtain ⟨T, x, y, rfl, hT, rfl, e1, e2⟩ := y
  obtain ⟨d1, k1, r1⟩ := hf F i x s e1
  obtain ⟨d2, k2, r2⟩ := hg F i y s e2
  obtain ⟨m', e'⟩ := m.frz hT (.tup [x, y])
  exact ⟨_, .tup [d1, d2], m', e', hz i _ _ k1 k2 hi, T, [x, y], rfl, upd_same, x, [y], rfl, Rp.mono e'.fs _ _ r1, y, [], rfl, Rp.mono e'.fs _ _ r2, rfl⟩
def enumD (xs : List D) : List D := xs.zipIdx.map fun p => .tup [.int (p.2 : Nat), p.1]
theorem enumD_length (xs : List D) : (enumD xs).length = xs.length := by simp [enumD]
theorem enumD_get {xs : List D} {i : Nat} {d : D} (h : xs[i]? = some d) : (enumD xs)[i]? = some (.tup [.int (i : Nat), d]) := by simp [enumD, h]
/-- enumerate(list) -/
def iEn (a : DA) : DI := fun ρ M Q => a ρ M fun ds M1 => match ds with
  | [x] => match nrm M1 x with
    | .lst xs => Q (enumD xs) (fun M' => nrm M' x = .lst xs) M1
    | _ => False
  | _ => False
theorem ti_enum {K : PySem.W.Frag} {t : TA} {a : DA} (h : TrA t a) : TrI (iEnum K t) (iEn a) := by
  intro ρ M σ H F Q R er m q f
  refine h ρ M σ H F _ _ er m q fun ds vs M1 H1 F1 m1 e1 r1 q1 => ?_
  split at q1
  · rename_i x
    split at q1
    · rename_i xs e
      obtain ⟨v, r, rfl, h1, h2⟩ := r1
      cases h2
      have vw := m1.view h1
      rw [e] at vw
      obtain ⟨b, ws, rfl, hb, rb⟩ := vw
      refine ⟨b, ws, rfl, .of hb, f _ _ _ _ _ _ m1 e1 ?_ q1⟩
      -- at each turn the list stands
      have st : ∀ M H F, Mem M H F → Same F1 F → nrm M x = .lst xs → ∃ vs, RpL F xs vs ∧ SqL K H b vs := fun M H F m s p => by
        have vw := m.view (Rp.mono s _ _ h1)
        rw [p] at vw
        obtain ⟨b', ws', eb, hb', rb'⟩ := vw
        cases eb
        exact ⟨ws', rb', .of hb'⟩
      refine ⟨fun H => ∃ vs : List V, vs.length = xs.length ∧ SqL K H b vs, fun i H v H' => ∃ T x', v = .ref T ∧ H T = none ∧ H' = L2.upd H T (.tup [.int (i : Nat), x']) ∧ ∀ ys, SqL K H b ys → ys[i]? = some x',
        ⟨fun i H hi q => ?_, fun H q => ?_, fun i H x H' _ _ y => ?_⟩, fun M H F m s p => ?_, fun i v H H' M F hi m s p y => ?_⟩
      · obtain ⟨vs, e, q⟩ := q
        rw [enumD_length] at hi
        exact ⟨vs, vs[i]'(by omega), q, by simp [show i < vs.length by omega]⟩
      · obtain ⟨vs, e, q⟩ := q
        rw [enumD_length]
        exact ⟨vs, q, by omega⟩
      · obtain ⟨T, x, h1, h2, h3, h4⟩ := y
        exact ⟨T, x, h1, h2, h3, h4⟩
      · obtain ⟨vs, r, q⟩ := st M H F m s p
        exact ⟨vs, r.length, q⟩
      · obtain ⟨vs, r, q⟩ := st M H F m s p
        obtain ⟨T, x', rfl, hT, rfl, y⟩ := y
        obtain ⟨d, ed, rd⟩ := r.get' (y vs q)
        obtain ⟨m', e'⟩ := m.frz hT (.tup [.int (i : Nat), x'])
        exact ⟨_, _, m', e', enumD_get ed, T, _, rfl, upd_same, .int (i : Nat), [x'], rfl, rfl, x', [], rfl, Rp.mono e'.fs _ _ rd, rfl⟩
    · exact q1.elim
  · exact q1.elim
def zipD (xs ys : List D) : List D := (xs.zip ys).map fun p => .tup [p.1, p.2]
theorem zipD_length (xs ys : List D) : (zipD xs ys).length = min xs.length ys.length := by simp [zipD]
theorem zipD_get {xs ys : List D} {i : Nat} {a b : D} (h : xs[i]? = some a) (h' : ys[i]? = some b) : (zipD xs ys)[i]? = some (.tup [a, b]) := by
  have e : (xs.zip ys)[i]? = some (a, b) := List.getElem?_zip_eq_some.mpr ⟨h, h'⟩
  simp only [zipD, List.getElem?_map, e, Option.map_some]
/-- zip(list, list), zip(tuple, tuple) -/
def iZp (a : DA) : DI := fun ρ M Q => a ρ M fun ds M1 => match ds with
  | [.lst xs, .lst ys] => Q (zipD xs ys) (fun _ => True) M1
  | [.tup xs, .tup ys] => Q (zipD xs ys) (fun _ => True) M1
  | [x, y] => match nrm M1 x, nrm M1 y with
    | .lst xs, .lst ys => Q (zipD xs ys) (fun M' => nrm M' x = .lst xs ∧ nrm M' y = .lst ys) M1
    | _, _ => False
  | _ => False
theorem dwk_zip {K : PySem.W.Frag} {a b : Addr} {xs ys : List D} {P : Mp → Prop} {F1 : Hp} (h : ∀ M H F, Mem M H F → Same F1 F → P M → ∃ vs ws, RpL F xs vs ∧ RpL F ys ws ∧ SqL K H a vs ∧ SqL K H b ws) : DWk (Itz K a b) (zipD xs ys) P F1 := by
  refine ⟨fun H => ∃ vs ws : List V, vs.length = xs.length ∧ ws.length = ys.length ∧ SqL K H a vs ∧ SqL K H b ws, fun i H v H' => ∃ T x y, v = .ref T ∧ H T = none ∧ H' = L2.upd H T (.tup [x, y]) ∧ (∀ ys, SqL K H a ys → ys[i]? = some x) ∧ (∀ ys, SqL K H b ys → ys[i]? = some y),
    ⟨fun i H hi q => ?_, fun H q => ?_, fun i H x H' _ _ y => ?_⟩, fun M H F m s p => ?_, fun i v H H' M F hi m s p y => ?_⟩
  · obtain ⟨vs, ws, e1, e2, q1, q2⟩ := q
    rw [zipD_length] at hi
    exact ⟨vs, ws, vs[i]'(by omega), ws[i]'(by omega), q1, q2, by simp [show i < vs.length by omega], by simp [show i < ws.length by omega]⟩
  · obtain ⟨vs, ws, e1, e2, q1, q2⟩ := q
    rw [zipD_length]
    exact ⟨vs, ws, q1, q2, by omega⟩
  · obtain ⟨T, x, z, h1, h2, h3, h4, h5⟩ := y
    exact ⟨T, x, z, h1, h2, h3, h4, h5⟩
  · obtain ⟨vs, ws, r1, r2, q1, q2⟩ := h M H F m s p
    exact ⟨vs, ws, r1.length, r2.length, q1, q2⟩
  · obtain ⟨vs, ws, r1, r2, q1, q2⟩ := h M H F m s p
    obtain ⟨T, x', y', rfl, hT, rfl, y1, y2⟩ := y
    obtain ⟨d1, ed1, rd1⟩ := r1.get' (y1 vs q1)
    obtain ⟨d2, ed2, rd2⟩ := r2.get' (y2 ws q2)
    obtain ⟨m', e'⟩ := m.frz hT (.tup [x', y'])
    exact ⟨_, _, m', e', zipD_get ed1 ed2, T, _, rfl, upd_same, x', [y'], rfl, Rp.mono e'.fs _ _ rd1, y', [], rfl, Rp.mono e'.fs _ _ rd2, rfl⟩
theorem dwk_zipT {K : PySem.W.Frag} {a b : Addr} {xs ys : List D} {vs ws : List V} {P : Mp → Prop} {F1 : Hp} (ra : RpL F1 xs vs) (rb : RpL F1 ys ws) (ha : F1 a = some (.tup vs)) (hb : F1 b = some (.tup ws)) : DWk (RZ.ItzT K a b) (zipD xs ys) P F1 := by
  refine ⟨fun H => SqT K H a vs ∧ SqT K H b ws, fun i H v H' => ∃ T x y, v = .ref T ∧ H T = none ∧ H' = L2.upd H T (.tup [x, y]) ∧ (∀ ys, SqT K H a ys → ys[i]? = some x) ∧ (∀ ys, SqT K H b ys → ys[i]? = some y),
    ⟨fun i H hi q => ?_, fun H q => ?_, fun i H x H' _ _ y => ?_⟩, fun M H F m s p => ⟨.of (m.same _ _ (s _ _ ha)), .of (m.same _ _ (s _ _ hb))⟩, fun i v H H' M F hi m s p y => ?_⟩
  · rw [zipD_length, ← ra.length, ← rb.length] at hi
    exact ⟨vs, ws, vs[i]'(by omega), ws[i]'(by omega), q.1, q.2, by simp [show i < vs.length by omega], by simp [show i < ws.length by omega]⟩
  · rw [zipD_length, ← ra.length, ← rb.length]
    exact ⟨vs, ws, q.1, q.2, by omega⟩
  · obtain ⟨T, x, z, h1, h2, h3, h4, h5⟩ := y
    exact ⟨T, x, z, h1, h2, h3, h4, h5⟩
  · obtain ⟨T, x', y', rfl, hT, rfl, y1, y2⟩ := y
    obtain ⟨d1, ed1, rd1⟩ := (RpL.mono s _ _ ra).get' (y1 vs (.of (m.same _ _ (s _ _ ha))))
    obtain ⟨d2, ed2, rd2⟩ := (RpL.mono s _ _ rb).get' (y2 ws (.of (m.same _ _ (s _ _ hb))))
    obtain ⟨m', e'⟩ := m.frz hT (.tup [x', y'])
    exact ⟨_, _, m', e', zipD_get ed1 ed2, T, _, rfl, upd_same, x', [y'], rfl, Rp.mono e'.fs _ _ rd1, y', [], rfl, Rp.mono e'.fs _ _ rd2, rfl⟩
theorem ti_zip {K : PySem.W.Frag} {t : TA} {a : DA} (h : TrA t a) : TrI (RZ.iZipA K t) (iZp a) := by
  intro ρ M σ H F Q R er m q f
  refine h ρ M σ H F _ _ er m q fun ds vs M1 H1 F1 m1 e1 r1 q1 => ?_
  split at q1
  · obtain ⟨v, r, rfl, ⟨a, vs, rfl, ha, ra⟩, w, r2, rfl, ⟨b, ws, rfl, hb, rb⟩, h3⟩ := r1
    cases h3
    exact ⟨a, b, vs, ws, rfl, .inl ⟨.of (m1.same _ _ ha), .of (m1.same _ _ hb), f _ _ _ _ _ _ m1 e1 (dwk_zip fun M H F m s _ => ⟨vs, ws, RpL.mono s _ _ ra, RpL.mono s _ _ rb, .of (m.same _ _ (s _ _ ha)), .of (m.same _ _ (s _ _ hb))⟩) q1⟩⟩
  · obtain ⟨v, r, rfl, ⟨a, vs, rfl, ha, ra⟩, w, r2, rfl, ⟨b, ws, rfl, hb, rb⟩, h3⟩ := r1
    cases h3
    exact ⟨a, b, vs, ws, rfl, .inr ⟨.of (m1.same _ _ ha), .of (m1.same _ _ hb), f _ _ _ _ _ _ m1 e1 (dwk_zipT ra rb ha hb) q1⟩⟩
  · rename_i x y _ _
    split at q1
    · rename_i xs ys ex ey
      obtain ⟨v, r, rfl, h1, w, r2, rfl, h2, h3⟩ := r1
      cases h3
      have v1 := m1.view h1
      have v2 := m1.view h2
      rw [ex] at v1
      rw [ey] at v2
      obtain ⟨a, vs, rfl, ha, ra⟩ := v1
      obtain ⟨b, ws, rfl, hb, rb⟩ := v2
      refine ⟨a, b, vs, ws, rfl, .inl ⟨.of ha, .of hb, f _ _ _ _ _ _ m1 e1 (dwk_zip fun M H F m s p => ?_) q1⟩⟩
      have v1 := m.view (Rp.mono s _ _ h1)
      have v2 := m.view (Rp.mono s _ _ h2)
      rw [p.1] at v1
      rw [p.2] at v2
      obtain ⟨a', vs', ea, ha', ra'⟩ := v1
      obtain ⟨b', ws', eb, hb', rb'⟩ := v2
      cases ea; cases eb
      exact ⟨vs', ws', ra', rb', .of ha', .of hb'⟩
    · exact q1.elim
  · exact q1.elim
/-- a text's signs -/
def signsD (z : Str) : List D := z.cps.toList.map fun c => .str ⟨#[c]⟩
def iSt (w : DE) : DI := fun ρ M Q => w ρ M fun x M1 => match x with
  | .str z => Q (signsD z) (fun _ => True) M1
  | _ => False
theorem ti_str {t : TE} {w : DE} (h : Tr t w) : TrI (iStr t) (iSt w) := by
  intro ρ M σ H F Q R er m q f
  refine h ρ M σ H F _ _ er m q fun d v M1 H1 F1 m1 e1 r1 q1 => ?_
  split at q1
  · rename_i z
    cases r1
    have el : (signsD z).length = z.cps.size := by simp [signsD]
    refine ⟨z, rfl, f _ _ _ _ _ _ m1 e1 ⟨_, _, el ▸ walk_str, fun _ _ _ _ _ _ => trivial, fun i x H H' M F hi m s _ y => ?_⟩ q1⟩
    obtain ⟨rfl, c, hc, rfl⟩ := y
    exact ⟨F, .str ⟨#[c]⟩, m, .refl, by simp [signsD, hc], rfl⟩
  · exact q1.elim

/-! ### for, while -/
def sFor (wi : DI) (g : DG) (tb : DS) : DS := fun Dd ρ M => wi ρ M fun xs P M1 => ∃ W : Nat → DEnv → Mp → Prop, W 0 ρ M1 ∧ (∀ i ρ M, i ≤ xs.length → W i ρ M → P M) ∧
  (∀ i x ρ M, xs[i]? = some x → W i ρ M → g x ρ M fun ρ1 M1 => tb { Dd with nx := W (i + 1), ct := W (i + 1), bk := Dd.nx } ρ1 M1) ∧ ∀ ρ M, W xs.length ρ M → Dd.nx ρ M
theorem ts_for {wi : TI} {g : TG} {tb : TS} {di : DI} {dg : DG} {ds : DS} (hi : TrI wi di) (hg : TrG g dg) (hb : TrS tb ds) : TrS (tFor wi g tb) (sFor di dg ds) := by
  intro ρ M σ H F Dd De er m q r
  refine hi ρ M σ H F _ _ er m q fun xs P J M1 H1 F1 m1 e1 wk q1 => ?_
  obtain ⟨W, w0, wP, wt, we⟩ := q1
  obtain ⟨G, Y, wJ, hG, hY⟩ := wk
  refine for_it wJ (fun i σ H => ∃ ρ M F, EnvR F ρ σ ∧ Mem M H F ∧ Ext M1 H1 F1 M H F ∧ W i ρ M) ⟨ρ, M1, F1, er.mono e1.fs, m1, .refl, w0⟩ (fun i σ H hi ⟨ρ, M, F, er, m, e, w⟩ => hG M H F m e.fs (wP i ρ M hi w)) (fun i x σ H H' hi ⟨ρ, M, F, er, m, e, w⟩ y => ?_) fun σ H ⟨ρ, M, F, er, m, e, w⟩ => r.nx _ _ _ _ _ er m (e1.trans e) (we ρ M w)
  obtain ⟨F', d, m', e', hd, rd⟩ := hY i x H H' M F hi m e.fs (wP i ρ M (Nat.le_of_lt hi) w) y
  refine hg d x ρ M σ H' F' _ _ (er.mono e'.fs) m' rd (wt i d ρ M hd w) fun ρ2 M2 σ2 H2 F2 er2 m2 e2 q2 => ?_
  have ee := e.trans (e'.trans e2)
  refine hb ρ2 M2 σ2 H2 F2 _ _ er2 m2 q2 ⟨fun ρ3 M3 σ3 H3 F3 er3 m3 e3 q3 => ⟨ρ3, M3, F3, er3, m3, ee.trans e3, q3⟩, fun d v M3 H3 F3 m3 e3 r3 q3 => r.rt _ _ _ _ _ m3 (e1.trans (ee.trans e3)) r3 q3, fun ρ3 M3 σ3 H3 F3 er3 m3 e3 q3 => r.nx _ _ _ _ _ er3 m3 (e1.trans (ee.trans e3)) q3, fun ρ3 M3 σ3 H3 F3 er3 m3 e3 q3 => ⟨ρ3, M3, F3, er3, m3, ee.trans e3, q3⟩⟩
def sWhile (c : DT) (tb : DS) : DS := fun Dd ρ M => ∃ W : Nat → DEnv → Mp → Prop, (∃ n, W n ρ M) ∧ ∀ n ρ M, W n ρ M → c ρ M fun b M1 => if b = true then tb { Dd with nx := fun ρ' M' => ∃ n', n' < n ∧ W n' ρ' M', ct := fun ρ' M' => ∃ n', n' < n ∧ W n' ρ' M', bk := Dd.nx } ρ M1 else Dd.nx ρ M1
theorem ts_while {tc : TT} {tb : TS} {c : DT} {ds : DS} (hc : TrT tc c) (hb : TrS tb ds) : TrS (tWhile tc tb) (sWhile c ds) := by
  intro ρ M σ H F Dd De er m q r
  obtain ⟨W, ⟨n0, w0⟩, wt⟩ := q
  refine ⟨fun n σ' H' => ∃ ρ' M' F', EnvR F' ρ' σ' ∧ Mem M' H' F' ∧ Ext M H F M' H' F' ∧ W n ρ' M', ⟨n0, ρ, M, F, er, m, .refl, w0⟩, fun n σ' H' ⟨ρ', M', F', er', m', e', w'⟩ => ?_⟩
  refine hc ρ' M' σ' H' F' _ _ er' m' (wt n ρ' M' w') fun b M1 H1 F1 m1 e1 q1 => ?_
  cases b with
  | false => exact r.nx _ _ _ _ _ (er'.mono e1.fs) m1 (e'.trans e1) q1
  | true =>
    rw [if_pos rfl] at q1 ⊢
    refine ⟨fun σ2 H2 => ∃ n', n' < n ∧ ∃ ρ2 M2 F2, EnvR F2 ρ2 σ2 ∧ Mem M2 H2 F2 ∧ Ext M H F M2 H2 F2 ∧ W n' ρ2 M2, fun σ2 H2 z => z, ?_⟩
    have ee := e'.trans e1
    refine hb ρ' M1 σ' H1 F1 _ _ (er'.mono e1.fs) m1 q1 ⟨fun ρ3 M3 σ3 H3 F3 er3 m3 e3 q3 => ?_, fun d v M3 H3 F3 m3 e3 r3 q3 => r.rt _ _ _ _ _ m3 (ee.trans e3) r3 q3, fun ρ3 M3 σ3 H3 F3 er3 m3 e3 q3 => r.nx _ _ _ _ _ er3 m3 (ee.trans e3) q3, fun ρ3 M3 σ3 H3 F3 er3 m3 e3 q3 => ?_⟩
    · obtain ⟨n', l, w⟩ := q3
      exact ⟨n', l, ρ3, M3, F3, er3, m3, ee.trans e3, w⟩
    · obtain ⟨n', l, w⟩ := q3
      exact ⟨n', l, ρ3, M3, F3, er3, m3, ee.trans e3, w⟩

/-! ### comprehensions -/
theorem wipe_get {σ : L2.St} {j : Nat} : ∀ {vs : List Nat}, (wipe σ vs)[j]? = if j ∈ vs ∧ j < σ.length then some none else σ[j]?
  | [] => by simp [wipe]
  | v :: vs => by
    unfold wipe
    by_cases h : v = j
    · subst h
      by_cases hl : v < σ.length
      · rw [List.getElem?_set_self (by rw [wipe_length]; exact hl)]; simp [hl]
      · rw [List.getElem?_eq_none (by rw [List.length_set, wipe_length]; omega)]; simp [hl]
    · rw [List.getElem?_set_ne h, wipe_get (vs := vs)]
      have : j ≠ v := fun e => h e.symm
      simp [this]
theorem wipe_set {σ : L2.St} {i : Nat} {x : Option V} {vs : List Nat} (h : i ∈ vs) : wipe (σ.set i x) vs = wipe σ vs := by
  apply List.ext_getElem?
  intro j
  rw [wipe_get, wipe_get, List.length_set]
  by_cases hj : j ∈ vs ∧ j < σ.length
  · rw [if_pos hj, if_pos hj]
  · rw [if_neg hj, if_neg hj]
    by_cases e : i = j
    · subst e
      have hl : ¬ i < σ.length := fun z => hj ⟨h, z⟩
      rw [List.getElem?_eq_none (by rw [List.length_set]; omega), List.getElem?_eq_none (by omega)]
    · rw [List.getElem?_set_ne e]
theorem wipe_wipe {σ : L2.St} {vs : List Nat} : wipe (wipe σ vs) vs = wipe σ vs := by
  apply List.ext_getElem?
  intro j
  rw [wipe_get, wipe_length, wipe_get]
  split
  · rfl
  · rfl
def wipeD (ρ : DEnv) : List Nat → DEnv
  | [] => ρ
  | v :: vs => (wipeD ρ vs).set v none
theorem EnvR.wipe {F : Hp} {ρ : DEnv} {σ : L2.St} (h : EnvR F ρ σ) : ∀ vs, EnvR F (wipeD ρ vs) (L2.wipe σ vs)
  | [] => h
  | v :: vs => by
    have ih := EnvR.wipe h vs
    refine ⟨by unfold wipeD L2.wipe; rw [List.length_set, List.length_set, ih.len], fun j d q => ?_⟩
    unfold wipeD at q
    unfold L2.wipe
    by_cases e : v = j
    · subst e
      by_cases hl : v < (wipeD ρ vs).length
      · rw [List.getElem?_set_self hl] at q; cases q
      · rw [List.getElem?_eq_none (by rw [List.length_set]; omega)] at q; cases q
    · rw [List.getElem?_set_ne e] at q ⊢
      exact ih.at_ j d q
/-- a comprehension's target -/
def TrC (vs : List Nat) (g : TG) (w : DG) : Prop := ∀ (d : D) (v : V) (ρ : DEnv) (M : Mp) (σ : L2.St) (H F : Hp) (Q : DEnv → Mp → Prop) (Qs : L2.St → Hp → Prop), EnvR F ρ σ → Mem M H F → Rp F d v → w d ρ M Q →
  (∀ ρ' M' σ' H' F', EnvR F' ρ' σ' → Mem M' H' F' → Ext M H F M' H' F' → wipe σ' vs = wipe σ vs → Q ρ' M' → Qs σ' H') → g v σ H Qs
theorem tc_name {vs : List Nat} {i : Nat} (h : i ∈ vs) : TrC vs (gName i) (dName i) := fun d v ρ M σ H F Q Qs er m r q f => f _ _ _ _ _ (er.set i r) m .refl (wipe_set h) q
def TrCs (vs : List Nat) (g : TGs) (w : DGs) : Prop := ∀ (ds : List D) (us : List V) (ρ : DEnv) (M : Mp) (σ : L2.St) (H F : Hp) (Q : DEnv → Mp → Prop) (Qs : L2.St → Hp → Prop), EnvR F ρ σ → Mem M H F → RpL F ds us → w ds ρ M Q →
  (∀ ρ' M' σ' H' F', EnvR F' ρ' σ' → Mem M' H' F' → Ext M H F M' H' F' → wipe σ' vs = wipe σ vs → Q ρ' M' → Qs σ' H') → g us σ H Qs
theorem tcs_nil {vs : List Nat} : TrCs vs gNil dNil := by
  intro ds us ρ M σ H F Q Qs er m r q f
  unfold dNil at q
  split at q
  · cases r; exact ⟨rfl, f _ _ _ _ _ er m .refl rfl q⟩
  · exact q.elim
theorem tcs_cons {vs : List Nat} {g : TG} {r : TGs} {w : DG} {u : DGs} (hg : TrC vs g w) (hr : TrCs vs r u) : TrCs vs (gCons g r) (dCons w u) := by
  intro ds us ρ M σ H F Q Qs er m r q f
  unfold dCons at q
  split at q
  · obtain ⟨v, vr, rfl, h1, h2⟩ := r
    refine ⟨v, vr, rfl, hg _ v ρ M σ H F _ _ er m h1 q fun ρ1 M1 σ1 H1 F1 er1 m1 e1 z1 q1 => ?_⟩
    exact hr _ vr ρ1 M1 σ1 H1 F1 _ _ er1 m1 (RpL.mono e1.fs _ _ h2) q1 fun a b c d e f1 f2 f3 z2 f4 => f a b c d e f1 f2 (e1.trans f3) (z2.trans z1) f4
  · exact q.elim
theorem tc_tup {K : PySem.W.Frag} {vs : List Nat} {n : Nat} {g : TGs} {w : DGs} (h : TrCs vs g w) : TrC vs (gTup K n g) (dTup n w) := by
  intro d v ρ M σ H F Q Qs er m r q f
  unfold dTup at q
  split at q
  · obtain ⟨a, us, rfl, ha, ra⟩ := r
    exact ⟨a, us, rfl, .of (m.same _ _ ha), by rw [ra.length]; exact q.1, h _ us ρ M σ H F Q Qs er m ra q.2 f⟩
  · exact q.elim
def tYesD : DT := fun _ M Q => Q true M
theorem tt_yes : TrT tYes tYesD := fun ρ M σ H F Q Qv er m q f => f _ _ _ _ m .refl q
/-- dark changes: of a thing that is neither frozen nor in the table -/
theorem Mem.dark {M : Mp} {H F : Hp} (m : Mem M H F) {p : Addr} (hf : F p = none) (hm : M p = none) (o : HO) : Mem M (L2.upd H p o) F :=
  ⟨same_upd2 m.same hf, fun a q e => by
    obtain ⟨h1, x, h2, h3⟩ := m.mem a q e
    exact ⟨h1, x, by rw [upd_ne (fun z => by subst z; rw [hm] at e; cases e)]; exact h2, h3⟩⟩
theorem Ext.dark {M1 M : Mp} {H1 F1 H F : Hp} (e : Ext M1 H1 F1 M H F) {p : Addr} (h : H1 p = none) (o : HO) : Ext M1 H1 F1 M (L2.upd H p o) F :=
  ⟨e.fs, fun a x k z => by rw [upd_ne (ne_of_none k h)]; exact e.keep a x k z, e.new, e.fnew⟩
theorem Ext.still {M M' : Mp} {H F H' F' : Hp} (e : Ext M H F M' H' F') {p : Addr} {o : HO} (h : H p = some o) (hf : F p = none) (hm : M p = none) (nt : ∀ xs, o ≠ .tup xs := by nofun) : H' p = some o ∧ F' p = none ∧ M' p = none := by
  refine ⟨e.keep p o h hm, ?_, ?_⟩
  · cases q : F' p with
    | none => rfl
    | some x =>
      rcases e.fnew p (by rw [q]; exact fun z => nomatch z) with z | z | z | ⟨xs, z⟩
      · exact absurd hf z
      · exact absurd hm z
      · rw [h] at z; cases z
      · rw [h] at z; cases z; exact absurd rfl (nt xs)
  · cases q : M' p with
    | none => rfl
    | some x =>
      rcases e.new p (by rw [q]; exact fun z => nomatch z) with z | z
      · exact absurd hm z
      · rw [h] at z; cases z
/-- a dark list comes to light -/
theorem adopt {md : Md} {xs : List D} {vs : List V} {Q : DK} {Qv : VK} {M0 M : Mp} {H0 F0 H F : Hp} {p : Addr} (m : Mem M H F) (e : Ext M0 H0 F0 M H F) (h0 : H0 p = none) (hp : H p = some (.lst vs)) (hf : F p = none) (hm : M p = none) (r : RpL F xs vs) (h : wNew md xs M Q) (f : Fin Q Qv M0 H0 F0) : Qv (.ref p) H := by
  cases md with
  | frz =>
    refine f (.lst xs) _ M H (L2.upd F p (.lst vs)) ⟨fun b x q => ?_, fun a q w => ?_⟩ ⟨e.fs.trans (same_upd hf), e.keep, e.new, fun a w => ?_⟩ ⟨p, vs, rfl, upd_same, RpL.mono (same_upd hf) _ _ r⟩ h
    · by_cases hb : b = p
      · subst hb; rw [upd_same] at q; cases q; exact hp
      · rw [upd_ne hb] at q; exact m.same b x q
    · obtain ⟨h1, x, h2, h3⟩ := m.mem a q w
      have ne : a ≠ p := fun z => by subst z; rw [hm] at w; cases w
      exact ⟨by rw [upd_ne ne]; exact h1, x, h2, h3.mono (same_upd hf)⟩
    · by_cases ha : a = p
      · subst ha; exact .inr (.inr (.inl h0))
      · rw [upd_ne ha] at w; exact e.fnew a w
  | own =>
    refine f (.ref p) _ (M.set p (.lst xs)) H F ⟨m.same, fun a q w => ?_⟩ ⟨e.fs, e.keep, fun a w => ?_, e.fnew⟩ rfl (h p hm)
    · by_cases ha : a = p
      · subst ha; rw [Mp.set_same] at w; cases w; exact ⟨hf, _, hp, vs, rfl, r⟩
      · rw [Mp.set_ne ha] at w; exact m.mem a q w
    · by_cases ha : a = p
      · subst ha; exact .inr h0
      · rw [Mp.set_ne ha] at w; exact e.new a w
def wLc (md : Md) (wi : DI) (g : DG) (tt : DT) (te : DE) (vs : List Nat) : DE := fun ρ M Q => wi ρ M fun xs P M1 => Sz xs.length ∧ ∃ W : Nat → List D → Mp → Prop, W 0 [] M1 ∧ (∀ i acc M, i ≤ xs.length → W i acc M → P M) ∧
  (∀ i x acc M, xs[i]? = some x → W i acc M → g x (wipeD ρ vs) M fun ρ2 M2 => tt ρ2 M2 fun b M3 => if b = true then te ρ2 M3 fun y M4 => W (i + 1) (acc ++ [y]) M4 else W (i + 1) acc M3) ∧ ∀ acc M, W xs.length acc M → wNew md acc M Q
theorem tr_lc {md : Md} {wi : TI} {g : TG} {tt : TT} {te : TE} {vs : List Nat} {di : DI} {dg : DG} {dt : DT} {de : DE} (hi : TrI wi di) (hg : TrC vs g dg) (ht : TrT tt dt) (he : Tr te de) : Tr (tLc wi g tt te vs) (wLc md di dg dt de vs) := by
  intro ρ M σ H F Q Qv er m q f
  refine hi ρ M σ H F _ _ er m q fun xs P J M1 H1 F1 m1 e1 wk q1 D hD => ?_
  obtain ⟨hz, W, w0, wP, wt, we⟩ := q1
  obtain ⟨G, Y, wJ, hG, hY⟩ := wk
  obtain ⟨f1, mm1⟩ := m1.fresh hD
  have erw := (er.mono e1.fs).wipe vs
  refine lc_it wJ (fun i H => ∃ acc av M F, acc.length ≤ i ∧ Mem M H F ∧ Ext M1 H1 F1 M H F ∧ H D = some (.lst av) ∧ F D = none ∧ M D = none ∧ RpL F acc av ∧ W i acc M) ⟨[], [], M1, F1, Nat.le_refl _, m1.dark f1 mm1 _, Ext.refl.dark hD _, upd_same, f1, mm1, rfl, w0⟩
    (fun i H hi ⟨acc, av, M, F, l, m, e, h1, h2, h3, r, w⟩ => hG M H F m e.fs (wP i acc M hi w)) (fun i x H H' hi ⟨acc, av, M, F, l, m, e, h1, h2, h3, r, w⟩ y => ?_)
    fun H ⟨acc, av, M, F, l, m, e, h1, h2, h3, r, w⟩ => adopt m e hD h1 h2 h3 r (we acc M w) (f.ext e1)
  obtain ⟨F', d, m', e', hd, rd⟩ := hY i x H H' M F hi m e.fs (wP i acc M (Nat.le_of_lt hi) w) y
  refine hg d x (wipeD ρ vs) M (wipe σ vs) H' F' _ _ (erw.mono (e.trans e').fs) m' rd (wt i d acc M hd w) fun ρ2 M2 σ2 H2 F2 er2 m2 e2 z2 q2 => ⟨z2.trans wipe_wipe, ?_⟩
  refine ht ρ2 M2 σ2 H2 F2 _ _ er2 m2 q2 fun b M3 H3 F3 m3 e3 q3 => ?_
  have k1 := e'.still h1 h2 h3
  have k2 := e2.still k1.1 k1.2.1 k1.2.2
  have k3 := e3.still k2.1 k2.2.1 k2.2.2
  have ee := e.trans (e'.trans (e2.trans e3))
  cases b with
  | false => exact ⟨acc, av, M3, F3, by omega, m3, ee, k3.1, k3.2.1, k3.2.2, RpL.mono (e'.trans (e2.trans e3)).fs _ _ r, q3⟩
  | true =>
    refine he ρ2 M3 σ2 H3 F3 _ _ (er2.mono e3.fs) m3 q3 fun yd yv M4 H4 F4 m4 e4 r4 q4 => ?_
    have k4 := e4.still k3.1 k3.2.1 k3.2.2
    refine ⟨av, k4.1, by rw [r.length, sizeLine_eq]; unfold Sz at hz; omega, acc ++ [yd], av ++ [yv], M4, F4, by simp; omega, m4.dark k4.2.1 k4.2.2 _, (ee.trans e4).dark hD _, upd_same, k4.2.1, k4.2.2, (RpL.mono (e'.trans (e2.trans (e3.trans e4))).fs _ _ r).append (RpL.one r4), q4⟩


/-! ### calls of built-ins -/
abbrev DC := List D → Mp → DK → Prop
def CallT (r : List V → Hp → VK → Prop) (w : DC) : Prop := ∀ (M : Mp) (H F : Hp) (ds : List D) (vs : List V) (Q : DK) (Qv : VK), Mem M H F → RpL F ds vs → w ds M Q → Fin Q Qv M H F → r vs H Qv
def wCB (w : DC) (a : DA) : DE := fun ρ M Q => a ρ M fun ds M1 => w ds M1 Q
theorem tr_cb {r : List V → Hp → VK → Prop} {w : DC} {t : TA} {a : DA} (hc : CallT r w) (ha : TrA t a) : Tr (tCB r t) (wCB w a) := by
  intro ρ M σ H F Q Qv er m q f
  refine ha ρ M σ H F _ _ er m q fun ds vs M1 H1 F1 m1 e1 r1 q1 => ?_
  exact hc M1 H1 F1 ds vs Q Qv m1 r1 q1 (f.ext e1)
theorem rp1 {F : Hp} {d : D} {vs : List V} (r : RpL F [d] vs) : ∃ v, vs = [v] ∧ Rp F d v := by
  obtain ⟨v, w, rfl, h1, h2⟩ := r
  cases h2
  exact ⟨v, rfl, h1⟩
theorem rp2 {F : Hp} {d e : D} {vs : List V} (r : RpL F [d, e] vs) : ∃ v w, vs = [v, w] ∧ Rp F d v ∧ Rp F e w := by
  obtain ⟨v, r1, rfl, h1, w, r2, rfl, h2, h3⟩ := r
  cases h3
  exact ⟨v, w, rfl, h1, h2⟩
/-- len -/
def rLenA (K : PySem.W.Frag) : List V → Hp → VK → Prop := fun xs H Q => (∃ x n, xs = [x] ∧ LenV K x H n ∧ Q (.int n) H) ∨ ∃ a kvs, xs = [.ref a] ∧ H a = some (.dK kvs) ∧ Q (.int (kvs.length : Nat)) H
theorem call_lenA {X : Cx} : CallR X (.builtin "len") (rLenA X.K) := by
  refine CallR.or call_len ?_
  intro pins s σ H xs us Q I r h
  obtain ⟨a, kvs, rfl, hd, q⟩ := h
  exact call_lenD pins s σ H _ us Q I r ⟨a, kvs, rfl, hd, q⟩
def cLen (K : PySem.W.Frag) : DC := fun ds M Q => match ds with
  | [x] => match nrm M x with
    | .lst xs => Q (.int xs.length) M
    | .tup xs => Q (.int xs.length) M
    | .str z => Sz z.length ∧ Q (.int z.length) M
    | .dct ks _ => Q (.int ks.length) M
    | .scr K' xs => K' = K ∧ Q (.int xs.length) M
    | _ => False
  | _ => False
theorem ct_len {K : PySem.W.Frag} : CallT (rLenA K) (cLen K) := by
  intro M H F ds vs Q Qv m r q f
  unfold cLen at q
  split at q
  · obtain ⟨v, rfl, h1⟩ := rp1 r
    have vw := m.view h1
    split at q
    · rename_i x xs e
      rw [e] at vw
      obtain ⟨a, ws, rfl, ha, ra⟩ := vw
      exact .inl ⟨_, xs.length, rfl, .inl ⟨ws, .of ha, ra.length.symm⟩, f.here (d := .int _) m rfl q⟩
    · rename_i x xs e
      rw [e] at vw
      obtain ⟨a, ws, rfl, ha, ra⟩ := vw
      exact .inl ⟨_, xs.length, rfl, .inr ⟨ws, .of ha, ra.length.symm⟩, f.here (d := .int _) m rfl q⟩
    · rename_i x z e
      rw [e] at vw
      cases vw
      exact .inl ⟨_, z.length, rfl, ⟨q.1.line, rfl⟩, f.here (d := .int _) m rfl q.2⟩
    · rename_i x ks xs e
      rw [e] at vw
      obtain ⟨a, kvs, rfl, ha, hk, ra⟩ := vw
      exact .inr ⟨a, kvs, rfl, ha, f.here (d := .int _) m (by rw [← hk, List.length_map]; rfl) q⟩
    · rename_i x K' xs e
      rw [e] at vw
      obtain ⟨a, ws, rfl, ha, ra⟩ := vw
      obtain ⟨rfl, q⟩ := q
      exact .inl ⟨_, xs.length, rfl, .inl ⟨ws, ha, ra.length.symm⟩, f.here (d := .int _) m rfl q⟩
    · exact q.elim
  · exact q.elim
/-- all, any of a list of truth values -/
def bools : List D → Option (List Bool)
  | [] => some []
  | .bl b :: r => (bools r).map (b :: ·)
  | _ => none
theorem bools_eq : ∀ {xs : List D} {bs : List Bool}, bools xs = some bs → xs = bs.map D.bl
  | [], bs, h => by simp [bools] at h; subst h; rfl
  | x :: xs, bs, h => by
    cases x with
    | bl b =>
      simp only [bools, Option.map_eq_some_iff] at h
      obtain ⟨r, h1, rfl⟩ := h
      rw [bools_eq h1]; rfl
    | _ => simp [bools] at h
theorem bools_map {bs : List Bool} : bools (bs.map D.bl) = some bs := by
  induction bs with
  | nil => rfl
  | cons b r ih => simp [bools, ih]
def cAll (g : List Bool → Bool) : DC := fun ds M Q => match ds with
  | [x] => match nrm M x with
    | .lst xs => match bools xs with
      | some bs => Q (.bl (g bs)) M
      | none => False
    | _ => False
  | _ => False
theorem ct_allg {K : PySem.W.Frag} {g : List Bool → Bool} : CallT (fun vs H Q => ∃ (a : Addr) (bs : List Bool), vs = [V.ref a] ∧ SqL K H a (bs.map V.bl) ∧ Q (.bl (g bs)) H) (cAll g) := by
  intro M H F ds vs Q Qv m r q f
  unfold cAll at q
  split at q
  · obtain ⟨v, rfl, h1⟩ := rp1 r
    have vw := m.view h1
    split at q
    · rename_i x xs e
      rw [e] at vw
      obtain ⟨a, ws, rfl, ha, ra⟩ := vw
      split at q
      · rename_i bs eb
        have e2 := bools_eq eb
        subst e2
        rw [ra.bls] at ha
        exact ⟨a, bs, rfl, .of ha, f.here (d := .bl _) m rfl q⟩
      · exact q.elim
    · exact q.elim
  · exact q.elim
theorem ct_all {K : PySem.W.Frag} : CallT (rAll K) (cAll fun bs => bs.all id) := ct_allg
theorem ct_any {K : PySem.W.Frag} : CallT (rAny K) (cAll fun bs => bs.any id) := ct_allg
/-- lists of intsD -/
def intsD : List D → Option (List Int)
  | [] => some []
  | .int b :: r => (intsD r).map (b :: ·)
  | _ => none
theorem ints_eq : ∀ {xs : List D} {bs : List Int}, intsD xs = some bs → xs = bs.map D.int
  | [], bs, h => by simp [intsD] at h; subst h; rfl
  | x :: xs, bs, h => by
    cases x with
    | int b =>
      simp only [intsD, Option.map_eq_some_iff] at h
      obtain ⟨r, h1, rfl⟩ := h
      rw [ints_eq h1]; rfl
    | _ => simp [intsD] at h
theorem ints_map {bs : List Int} : intsD (bs.map D.int) = some bs := by
  induction bs with
  | nil => rfl
  | cons b r ih => simp [intsD, ih]
/-- sum -/
def cSum : DC := fun ds M Q => match ds with
  | [x] => match nrm M x with
    | .lst xs => match intsD xs with
      | some ns => Q (.int ns.sum) M
      | none => False
    | _ => False
  | _ => False
theorem ct_sum {K : PySem.W.Frag} : CallT (rSum K) cSum := by
  intro M H F ds vs Q Qv m r q f
  unfold cSum at q
  split at q
  · obtain ⟨v, rfl, h1⟩ := rp1 r
    have vw := m.view h1
    split at q
    · rename_i x xs e
      rw [e] at vw
      obtain ⟨a, ws, rfl, ha, ra⟩ := vw
      split at q
      · rename_i bs eb
        have e2 := ints_eq eb
        subst e2
        rw [ra.ints] at ha
        exact ⟨a, bs, rfl, .of ha, f.here (d := .int _) m rfl q⟩
      · exact q.elim
    · exact q.elim
  · exact q.elim
/-- max, min of two intsD; of a list of intsD -/
def rMaxA (K : PySem.W.Frag) : List V → Hp → VK → Prop := fun xs H Q => (∃ i j, xs = [.int i, .int j] ∧ Q (.int (if j > i then j else i)) H) ∨ rMax K xs H Q
def rMinA (K : PySem.W.Frag) : List V → Hp → VK → Prop := fun xs H Q => (∃ i j, xs = [.int i, .int j] ∧ Q (.int (if j < i then j else i)) H) ∨ rMin K xs H Q
theorem call_maxA {X : Cx} (hc : X.calm = true) : CallR X (.builtin "max") (rMaxA X.K) := CallR.or (call_max2 hc) (cr_max hc)
theorem call_minA {X : Cx} (hc : X.calm = true) : CallR X (.builtin "min") (rMinA X.K) := CallR.or (call_min2 hc) (cr_min hc)
def cMax : DC := fun ds M Q => match ds with
  | [.int i, .int j] => Q (.int (max i j)) M
  | [x] => match nrm M x with
    | .lst xs => match intsD xs with
      | some ns => ns ≠ [] ∧ ∀ k, k ∈ ns → (∀ y, y ∈ ns → y ≤ k) → Q (.int k) M
      | none => False
    | _ => False
  | _ => False
def cMin : DC := fun ds M Q => match ds with
  | [.int i, .int j] => Q (.int (min i j)) M
  | [x] => match nrm M x with
    | .lst xs => match intsD xs with
      | some ns => ns ≠ [] ∧ ∀ k, k ∈ ns → (∀ y, y ∈ ns → k ≤ y) → Q (.int k) M
      | none => False
    | _ => False
  | _ => False
theorem ct_max {K : PySem.W.Frag} : CallT (rMaxA K) cMax := by
  intro M H F ds vs Q Qv m r q f
  unfold cMax at q
  split at q
  · rename_i i j
    obtain ⟨v, w, rfl, h1, h2⟩ := rp2 r
    cases h1; cases h2
    refine .inl ⟨i, j, rfl, f.here (d := .int (max i j)) m ?_ q⟩
    show V.int _ = V.int _
    congr 1
    split <;> omega
  · obtain ⟨v, rfl, h1⟩ := rp1 r
    have vw := m.view h1
    split at q
    · rename_i x _ xs e
      rw [e] at vw
      obtain ⟨a, ws, rfl, ha, ra⟩ := vw
      split at q
      · rename_i bs eb
        have e2 := ints_eq eb
        subst e2
        rw [ra.ints] at ha
        exact .inr ⟨a, bs, rfl, .of ha, List.length_pos_iff.mpr q.1, fun k hk hy => f.here (d := .int k) m rfl (q.2 k hk hy)⟩
      · exact q.elim
    · exact q.elim
  · exact q.elim
theorem ct_min {K : PySem.W.Frag} : CallT (rMinA K) cMin := by
  intro M H F ds vs Q Qv m r q f
  unfold cMin at q
  split at q
  · rename_i i j
    obtain ⟨v, w, rfl, h1, h2⟩ := rp2 r
    cases h1; cases h2
    refine .inl ⟨i, j, rfl, f.here (d := .int (min i j)) m ?_ q⟩
    show V.int _ = V.int _
    congr 1
    split <;> omega
  · obtain ⟨v, rfl, h1⟩ := rp1 r
    have vw := m.view h1
    split at q
    · rename_i x _ xs e
      rw [e] at vw
      obtain ⟨a, ws, rfl, ha, ra⟩ := vw
      split at q
      · rename_i bs eb
        have e2 := ints_eq eb
        subst e2
        rw [ra.ints] at ha
        exact .inr ⟨a, bs, rfl, .of ha, List.length_pos_iff.mpr q.1, fun k hk hy => f.here (d := .int k) m rfl (q.2 k hk hy)⟩
      · exact q.elim
    · exact q.elim
  · exact q.elim
/-- sorted(intsD) -/
def cSorted (md : Md) : DC := fun ds M Q => match ds with
  | [x] => match nrm M x with
    | .lst xs => match intsD xs with
      | some ns => ∀ ns' : List Int, ns'.Perm ns → ns'.Pairwise (· ≤ ·) → wNew md (ns'.map D.int) M Q
      | none => False
    | _ => False
  | _ => False
theorem ct_sorted {K : PySem.W.Frag} {md : Md} : CallT (rSortedI K) (cSorted md) := by
  intro M H F ds vs Q Qv m r q f
  unfold cSorted at q
  split at q
  · obtain ⟨v, rfl, h1⟩ := rp1 r
    have vw := m.view h1
    split at q
    · rename_i x xs e
      rw [e] at vw
      obtain ⟨a, ws, rfl, ha, ra⟩ := vw
      split at q
      · rename_i bs eb
        have e2 := ints_eq eb
        subst e2
        rw [ra.ints] at ha
        exact ⟨a, bs, rfl, .of ha, fun ns' p h1 h2 hp => new_lst m RpL.of_ints (q ns' h1 h2) f p hp⟩
      · exact q.elim
    · exact q.elim
  · exact q.elim
/-- int(..) -/
def cInt : DC := fun ds M Q => match ds with
  | [.int i] => Q (.int i) M
  | [.bl b] => Q (.int (if b then 1 else 0)) M
  | _ => False
theorem ct_int : CallT (fun xs H Q => (∃ i, xs = [V.int i] ∧ Q (.int i) H) ∨ ∃ k, xs = [V.bl k] ∧ Q (.int (if k then 1 else 0)) H) cInt := by
  intro M H F ds vs Q Qv m r q f
  unfold cInt at q
  split at q
  · obtain ⟨v, rfl, h1⟩ := rp1 r
    cases h1
    exact .inl ⟨_, rfl, f.here (d := .int _) m rfl q⟩
  · obtain ⟨v, rfl, h1⟩ := rp1 r
    cases h1
    exact .inr ⟨_, rfl, f.here (d := .int _) m rfl q⟩
  · exact q.elim
/-- list(list), list(tuple) -/
def cList (md : Md) : DC := fun ds M Q => match ds with
  | [x] => match nrm M x with
    | .lst xs => wNew md xs M Q
    | .tup xs => wNew md xs M Q
    | _ => False
  | _ => False
theorem ct_list {K : PySem.W.Frag} {md : Md} : CallT (fun xs H Q => ∃ p ys, xs = [V.ref p] ∧ (SqL K H p ys ∨ SqT K H p ys) ∧ ∀ l, H l = none → Q (.ref l) (L2.upd H l (.lst ys))) (cList md) := by
  intro M H F ds vs Q Qv m r q f
  unfold cList at q
  split at q
  · obtain ⟨v, rfl, h1⟩ := rp1 r
    have vw := m.view h1
    split at q
    · rename_i x xs e
      rw [e] at vw
      obtain ⟨a, ws, rfl, ha, ra⟩ := vw
      exact ⟨a, ws, rfl, .inl (.of ha), new_lst m ra q f⟩
    · rename_i x xs e
      rw [e] at vw
      obtain ⟨a, ws, rfl, ha, ra⟩ := vw
      exact ⟨a, ws, rfl, .inr (.of ha), new_lst m ra q f⟩
    · exact q.elim
  · exact q.elim
/-- tuple(list), tuple(tuple) -/
def cTuple : DC := fun ds M Q => match ds with
  | [x] => match nrm M x with
    | .lst xs => Q (.tup xs) M
    | .tup xs => Q (.tup xs) M
    | _ => False
  | _ => False
theorem nrm_tup {M : Mp} {x : D} {xs : List D} (h : nrm M x = .tup xs) : x = .tup xs := by
  cases x with
  | ref a =>
    have h : nrmA M a = .tup xs := h
    unfold nrmA at h
    split at h <;> cases h
  | _ => exact h
theorem ct_tuple {K : PySem.W.Frag} : CallT (fun xs H Q => ∃ p ys, xs = [V.ref p] ∧ ((SqL K H p ys ∧ ∀ l, H l = none → Q (.ref l) (L2.upd H l (.tup ys))) ∨ (SqT K H p ys ∧ Q (.ref p) H))) cTuple := by
  intro M H F ds vs Q Qv m r q f
  unfold cTuple at q
  split at q
  · obtain ⟨v, rfl, h1⟩ := rp1 r
    have vw := m.view h1
    split at q
    · rename_i x xs e
      rw [e] at vw
      obtain ⟨a, ws, rfl, ha, ra⟩ := vw
      exact ⟨a, ws, rfl, .inl ⟨.of ha, new_tup m ra q f⟩⟩
    · rename_i x xs e
      rw [nrm_tup e] at h1
      rw [e] at vw
      obtain ⟨a, ws, rfl, ha, ra⟩ := vw
      exact ⟨a, ws, rfl, .inr ⟨.of ha, f.here m h1 q⟩⟩
    · exact q.elim
  · exact q.elim
/-- isinstance(x, T), isinstance(x, (T1, T2)) with built-in classes -/
def tyN : D → Option String
  | .non => some "NoneType"
  | .bl _ => some "bool"
  | .int _ => some "int"
  | .str _ => some "str"
  | .lst _ => some "list"
  | .tup _ => some "tuple"
  | .dct _ _ => some "dict"
  | _ => none
/-- .. and is it so? -/
def isA (a b : String) : Bool := a == b || (a == "bool" && b == "int")
def okT (b : String) : Bool := b == "int" || b == "bool" || b == "str" || b == "list" || b == "tuple" || b == "dict"
theorem kit_isA {a b : String} {d : D} (h : tyN d = some a) (hb : okT b = true) : kitB a b = some (isA a b) := by
  have hb' : b = "int" ∨ b = "bool" ∨ b = "str" ∨ b = "list" ∨ b = "tuple" ∨ b = "dict" := by
    simp only [okT, Bool.or_eq_true, beq_iff_eq] at hb
    rcases hb with ((((h | h) | h) | h) | h) | h <;> simp [h]
  cases d with
  | ref _ => simp [tyN] at h
  | ty _ => simp [tyN] at h
  | scr _ _ => simp [tyN] at h
  | non => simp only [tyN, Option.some.injEq] at h; subst h; rcases hb' with rfl | rfl | rfl | rfl | rfl | rfl <;> decide +kernel
  | bl _ => simp only [tyN, Option.some.injEq] at h; subst h; rcases hb' with rfl | rfl | rfl | rfl | rfl | rfl <;> decide +kernel
  | int _ => simp only [tyN, Option.some.injEq] at h; subst h; rcases hb' with rfl | rfl | rfl | rfl | rfl | rfl <;> decide +kernel
  | str _ => simp only [tyN, Option.some.injEq] at h; subst h; rcases hb' with rfl | rfl | rfl | rfl | rfl | rfl <;> decide +kernel
  | lst _ => simp only [tyN, Option.some.injEq] at h; subst h; rcases hb' with rfl | rfl | rfl | rfl | rfl | rfl <;> decide +kernel
  | tup _ => simp only [tyN, Option.some.injEq] at h; subst h; rcases hb' with rfl | rfl | rfl | rfl | rfl | rfl <;> decide +kernel
  | dct _ _ => simp only [tyN, Option.some.injEq] at h; subst h; rcases hb' with rfl | rfl | rfl | rfl | rfl | rfl <;> decide +kernel
theorem vw_ty {K : PySem.W.Frag} {H F : Hp} {d : D} {v : V} {a : String} (r : Vw H F d v) (h : tyN d = some a) : TyX K H v (.type a) := by
  cases d with
  | ref _ => simp [tyN] at h
  | ty _ => simp [tyN] at h
  | scr _ _ => simp [tyN] at h
  | non => simp only [tyN, Option.some.injEq] at h; subst h; cases r; exact .base .non
  | bl _ => simp only [tyN, Option.some.injEq] at h; subst h; cases r; exact .base (.bl _)
  | int _ => simp only [tyN, Option.some.injEq] at h; subst h; cases r; exact .base (.int _)
  | str _ => simp only [tyN, Option.some.injEq] at h; subst h; cases r; exact .base (.str _)
  | lst _ => simp only [tyN, Option.some.injEq] at h; subst h; obtain ⟨a, vs, rfl, ha, _⟩ := r; exact .base (.lst ha)
  | tup _ => simp only [tyN, Option.some.injEq] at h; subst h; obtain ⟨a, vs, rfl, ha, _⟩ := r; exact .base (.tup ha)
  | dct _ _ => simp only [tyN, Option.some.injEq] at h; subst h; obtain ⟨a, vs, rfl, ha, _⟩ := r; exact .base (.dK ha)
def tyNames : List D → Option (List String)
  | [] => some []
  | .ty n :: r => if okT n then (tyNames r).map (n :: ·) else none
  | _ => none
def rIsiA (K : PySem.W.Frag) : List V → Hp → VK → Prop := fun xs H Q => rIsi K xs H Q ∨ rIsiT K xs H Q
theorem call_isiA {X : Cx} : CallR X (.builtin "isinstance") (rIsiA X.K) := CallR.or call_isi call_isiT
def cIsi : DC := fun ds M Q => match ds with
  | [x, .ty n] => match tyN (nrm M x) with
    | some a => okT n = true ∧ Q (.bl (isA a n)) M
    | none => False
  | [x, .tup ts] => match tyN (nrm M x), tyNames ts with
    | some a, some ns => Q (.bl (ns.any (isA a))) M
    | _, _ => False
  | _ => False
theorem tyNames_ok {K : PySem.W.Frag} {F : Hp} {d : D} {a : String} (h : tyN d = some a) : ∀ {ts : List D} {vs : List V} {ns : List String}, RpL F ts vs → tyNames ts = some ns → ∃ us, Paired ClsV vs us ∧ PySem.W.kitAny K (.type a) us = some (ns.any (isA a))
  | [], _, ns, r, e => by
    cases r
    simp only [tyNames, Option.some.injEq] at e
    subst e
    exact ⟨[], .nil, kitAny_nil⟩
  | t :: ts, _, ns, ⟨v, r, e1, h1, h2⟩, e => by
    subst e1
    cases t with
    | ty n =>
      simp only [tyNames] at e
      split at e
      · rename_i ok
        obtain ⟨ms, e2, rfl⟩ := Option.map_eq_some_iff.mp e
        obtain ⟨us, p, k⟩ := tyNames_ok h h2 e2
        cases h1
        refine ⟨.type n :: us, .cons (.ty n) p, ?_⟩
        refine kitAny_cons (kit_ty (kit_isA h ok)) (fun z => ?_) (fun z => ?_)
        · rw [List.any_cons, z, Bool.false_or]; exact k
        · rw [List.any_cons, z, Bool.true_or]
      · cases e
    | _ => simp [tyNames] at e
theorem ct_isi {K : PySem.W.Frag} : CallT (rIsiA K) cIsi := by
  intro M H F ds vs Q Qv m r q f
  unfold cIsi at q
  split at q
  · obtain ⟨v, w, rfl, h1, h2⟩ := rp2 r
    cases h2
    split at q
    · rename_i a e
      exact .inl ⟨v, _, .type a, _, _, rfl, .ty _, vw_ty (m.view h1) e, kit_ty (kit_isA e q.1), f.here (d := .bl _) m rfl q.2⟩
    · exact q.elim
  · obtain ⟨v, w, rfl, h1, b, us, rfl, hb, rb⟩ := rp2 r
    split at q
    · rename_i a ns e1 e2
      obtain ⟨ws, p, k⟩ := tyNames_ok (K := K) e1 rb e2
      exact .inr ⟨v, b, us, .type a, ws, _, rfl, m.same _ _ hb, p, vw_ty (m.view h1) e1, k, f.here (d := .bl _) m rfl q⟩
    · exact q.elim
  · exact q.elim
/-- x.bit_length() -/
def wBits (a : DE) : DE := fun ρ M Q => a ρ M fun x M1 => match x with
  | .int i => Q (.int (Builtin.Int.intBits i : Nat)) M1
  | _ => False
theorem tr_bits {t : TE} {a : DE} (h : Tr t a) : Tr (tBits t) (wBits a) := by
  intro ρ M σ H F Q Qv er m q f
  refine h ρ M σ H F _ _ er m q fun d1 v1 M1 H1 F1 m1 e1 r1 q1 => ?_
  split at q1
  · cases r1
    exact ⟨_, rfl, f (.int _) _ _ _ _ m1 e1 rfl q1⟩
  · exact q1.elim

/-! ### list(range(..)) -/
abbrev DR := DEnv → Mp → (Int → Int → Int → Mp → Prop) → Prop
def PRgC (X : Cx) (e : Expr) (t : L2.St → Hp → (Int → Int → Int → Hp → Prop) → Prop) : Prop :=
  ∀ (pins : List (Addr × Obj)) (s : Shared) (σ : L2.St) (H : Hp) (Q : Int → Int → Int → Hp → Prop), Inv X pins σ H s → t σ H Q →
    wpAny (model X.prog X.w) X.A (eval e X.env) (fun x s' => ∃ r a b c t u v H', x = .ref r ∧ IsRange s'.heap r a b c t u v ∧ Inv X pins σ H' s' ∧ Q a b c H') X.xe s
def tRgA (ta : TA) : L2.St → Hp → (Int → Int → Int → Hp → Prop) → Prop := fun σ H Q => ta σ H fun vs H1 => (∃ j, vs = [.int j] ∧ Q 0 j 1 H1) ∨ (∃ i j, vs = [.int i, .int j] ∧ Q i j 1 H1) ∨ ∃ i j c, vs = [.int i, .int j, .int c] ∧ (c ≠ 0 ∧ c.natAbs < 1073741824) ∧ Q i j c H1
theorem prgA {X : Cx} {e : Expr} {es : List Expr} {ta : TA} {p pos : Pos} (hg : Gl X "range") (hm : X.mg "range" = none) (ha : PA X (e :: es) ta)
    (he : starEach (e :: es) X.env = (false, eval e X.env) :: starEach es X.env := by rfl) (hpl : (backTo pos (starEach es X.env)).any (·.1) = false := by rfl) : PRgC X (.Call (.Name "range" p) (e :: es) [] pos) (tRgA ta) := by
  intro pins s σ H Q I h
  refine Call_ (ld_blt I hg hm boot_range (PyProof.Rows.callWith_type1 (thn (ha.run pos pins s σ H _ I h) fun us s1 ⟨vs, H1, I1, r1, q1⟩ => ?_) he hpl))
  rcases q1 with ⟨j, rfl, q⟩ | ⟨i, j, rfl, q⟩ | ⟨i, j, c, rfl, hc, q⟩
  · obtain ⟨u, rfl, t, rfl⟩ := vals1 r1
    exact call_range_1 ⟨_, 0, j, 1, _, _, _, H1, rfl, IsRange.new _ _ _ _ _ _ _, I1.kept fun b u e => Heap.get?_push_of_some _ e, q⟩
  · obtain ⟨u, w', rfl, ⟨t, rfl⟩, ⟨t', rfl⟩⟩ := vals2 r1
    exact call_range_2 ⟨_, i, j, 1, _, _, _, H1, rfl, IsRange.new _ _ _ _ _ _ _, I1.kept fun b u e => Heap.get?_push_of_some _ e, q⟩
  · cases r1 with
    | cons r rr =>
      obtain ⟨w1, w2, rfl, ⟨t', rfl⟩, ⟨t'', rfl⟩⟩ := vals2 rr
      obtain ⟨t, rfl⟩ := r
      exact call_range_3 hc.1 ⟨_, i, j, c, _, _, _, H1, rfl, IsRange.new _ _ _ _ _ _ _, I1.kept fun b u e => Heap.get?_push_of_some _ e, q⟩ (.inl (PyProof.noPylong_small hc.2))
def rgVC (a c : Int) (n : Nat) : List V := (List.range n).map fun i => V.int (a + (i : Nat) * c)
theorem vals_rgC {a c : Int} {n : Nat} {acc : Array Value} (h : ItemsOf (fun i v => ∃ t, v = .int (a + i * c) t) acc n) : Vals (rgVC a c n) acc.toList := by
  have e : acc.toList.length = n := by rw [Array.length_toList]; exact h.1
  unfold rgVC
  rw [← e]
  refine vals_of_get acc.toList _ fun j u hj => ?_
  obtain ⟨t, rfl⟩ := h.2 j u (by rw [← hj, Array.getElem?_toList])
  exact ⟨t, rfl⟩
def tLstRgC (te : L2.St → Hp → (Int → Int → Int → Hp → Prop) → Prop) : TE := fun σ H Q => te σ H fun a b c H1 => ∃ n, RgC a b c n ∧ n ≤ 16777216 ∧ ∀ q, H1 q = none → Q (.ref q) (L2.upd H1 q (.lst (rgVC a c n)))
theorem pe_listRgC {X : Cx} {e : Expr} {te : L2.St → Hp → (Int → Int → Int → Hp → Prop) → Prop} {p pos : Pos} (hc : X.calm = true) (hg : Gl X "list") (hm : X.mg "list" = none) (he : PRgC X e te) (na : starEach [e] X.env = (false, eval e X.env) :: starEach [] X.env := by rfl) : PE X (.Call (.Name "list" p) [e] [] pos) (tLstRgC te) := by
  refine ⟨fun pins s σ H Q I h => ?_⟩
  refine Call_ (ld_blt I hg hm boot_list (PyProof.Rows.callWith_type1 (args_cons (thn (he pins s σ H _ I h) fun x s1 ⟨r, a, b, c, t, u, v, H1, ex, hr, I1, ok, q⟩ => args_nil ?_) na) na))
  subst ex
  obtain ⟨⟨b1, b2, b3, b4⟩, b5, q⟩ := q
  refine call_list_range (n := ok) (I1.ok.hd hc) hr b3 b4 (by omega) fun h' tk acc c' hk e' hi => ?_
  refine ⟨.ref s1.heap.objs.size, L2.upd H1 s1.heap.objs.size (.lst (rgVC a c ok)), I1.laid hk (Nat.le_refl _) (show ObjOk X.prog X.w _ _ _ (.lst (rgVC a c ok)) from ⟨?_, acc.toList, c', vals_rgC hi, ?_⟩), rfl, q _ (I1.hok.fresh (Nat.le_refl _))⟩
  · unfold rgVC; rw [List.length_map, List.length_range, sizeLine_eq]; omega
  · rw [Array.toArray_toList]; exact e'
def wLRg (md : Md) (a : DA) : DE := fun ρ M Q => a ρ M fun ds M1 => match ds with
  | [.int j] => (Rg j ∧ Sz j.toNat) ∧ wNew md (rngD 0 1 j.toNat) M1 Q
  | [.int i, .int j] => (Rg i ∧ Rg j ∧ Sz (j - i).toNat) ∧ wNew md (rngD i 1 (j - i).toNat) M1 Q
  | [.int i, .int j, .int c] => (Rg i ∧ Rg j ∧ Stp c ∧ Sz (rngN i j c)) ∧ wNew md (rngD i c (rngN i j c)) M1 Q
  | _ => False
theorem rng_rp {F : Hp} {lo c : Int} {n : Nat} : RpL F (rngD lo c n) (rgVC lo c n) := by
  have h : ∀ l : List Nat, RpL F (l.map fun i => D.int (lo + (i : Nat) * c)) (l.map fun i => V.int (lo + (i : Nat) * c)) := by
    intro l
    induction l with
    | nil => rfl
    | cons a r ih => exact ⟨_, _, rfl, rfl, ih⟩
  exact h _
theorem rgN1 (i j : Int) : rngN i j 1 = (j - i).toNat := by
  unfold rngN Builtin.Range.rangeSize
  rw [if_pos (by decide)]
  split
  · simp
  · omega
theorem tr_lrg {md : Md} {t : TA} {a : DA} (h : TrA t a) : Tr (tLstRgC (tRgA t)) (wLRg md a) := by
  intro ρ M σ H F Q Qv er m q f
  refine h ρ M σ H F _ _ er m q fun ds vs M1 H1 F1 m1 e1 r1 q1 => ?_
  have one : Stp 1 := ⟨by decide, by decide⟩
  split at q1
  · obtain ⟨v, rfl, h1⟩ := rp1 r1
    cases h1
    refine .inl ⟨_, rfl, _, ⟨?_, q1.1.2, new_lst m1 rng_rp q1.2 (f.ext e1)⟩⟩
    have := rgC_of (i := 0) (by constructor <;> decide) q1.1.1 one
    rw [rgN1, Int.sub_zero] at this; exact this
  · obtain ⟨v, w, rfl, h1, h2⟩ := rp2 r1
    cases h1; cases h2
    refine .inr (.inl ⟨_, _, rfl, _, ⟨?_, q1.1.2.2, new_lst m1 rng_rp q1.2 (f.ext e1)⟩⟩)
    have := rgC_of q1.1.1 q1.1.2.1 one
    rw [rgN1] at this; exact this
  · obtain ⟨v, r, rfl, h1, w, r2, rfl, h2, u, r3, rfl, h3, h4⟩ := r1
    cases h1; cases h2; cases h3; cases h4
    exact .inr (.inr ⟨_, _, _, rfl, q1.1.2.2.1, _, rgC_of q1.1.1 q1.1.2.1 q1.1.2.2.1, q1.1.2.2.2, new_lst m1 rng_rp q1.2 (f.ext e1)⟩)
  · exact q1.elim

/-! ### methods of lists -/
/-- a method: on what it is called, with what -/
abbrev DM := D → List D → Mp → DK → Prop
def MethT (r : V → List V → Hp → VK → Prop) (w : DM) : Prop := ∀ (M : Mp) (H F : Hp) (d : D) (v : V) (ds : List D) (vs : List V) (Q : DK) (Qv : VK), Mem M H F → Rp F d v → RpL F ds vs → w d ds M Q → Fin Q Qv M H F → r v vs H Qv
/-- it is a list, as the text's form has it -/
def isL (M : Mp) (d : D) : Bool := match nrm M d with
  | .lst _ => true
  | _ => false
theorem isL_ty {K : PySem.W.Frag} {M : Mp} {H F : Hp} (m : Mem M H F) {d : D} {v : V} (r : Rp F d v) (h : isL M d = true) : tyV K "list" v H := by
  have vw := m.view r
  unfold isL at h
  split at h
  · rename_i xs e
    rw [e] at vw
    obtain ⟨a, vs, rfl, ha, _⟩ := vw
    exact .inl ⟨rfl, vs, .of ha⟩
  · cases h
def wBM (w : DM) (o : DE) (a : DA) : DE := fun ρ M Q => o ρ M fun x M1 => isL M1 x = true ∧ a ρ M1 fun ds M2 => w x ds M2 Q
theorem tr_bm {K : PySem.W.Frag} {r : V → List V → Hp → VK → Prop} {w : DM} {to : TE} {t : TA} {o : DE} {a : DA} (hm : MethT r w) (ho : Tr to o) (ha : TrA t a) : Tr (tBM K "list" r to t) (wBM w o a) := by
  intro ρ M σ H F Q Qv er m q f
  refine ho ρ M σ H F _ _ er m q fun d v M1 H1 F1 m1 e1 r1 q1 => ⟨isL_ty m1 r1 q1.1, ?_⟩
  refine ha ρ M1 σ H1 F1 _ _ (er.mono e1.fs) m1 q1.2 fun ds vs M2 H2 F2 m2 e2 r2 q2 => ?_
  exact hm M2 H2 F2 d v ds vs Q Qv m2 (Rp.mono e2.fs _ _ r1) r2 q2 (f.ext (e1.trans e2))
def wBM0 (w : DM) (o : DE) : DE := fun ρ M Q => o ρ M fun x M1 => isL M1 x = true ∧ w x [] M1 Q
theorem tr_bm0 {K : PySem.W.Frag} {r : V → List V → Hp → VK → Prop} {w : DM} {to : TE} {o : DE} (hm : MethT r w) (ho : Tr to o) : Tr (tBM0 K "list" r to) (wBM0 w o) := by
  intro ρ M σ H F Q Qv er m q f
  refine ho ρ M σ H F _ _ er m q fun d v M1 H1 F1 m1 e1 r1 q1 => ⟨isL_ty m1 r1 q1.1, ?_⟩
  exact hm M1 H1 F1 d v [] [] Q Qv m1 r1 rfl q1.2 (f.ext e1)
/-- a mutable list's change: what it gives, what it is then -/
def mChg (g : List D → List D → Option (D × List D)) : DM := fun x ds M Q => match x with
  | .ref a => match M a with
    | some (.lst xs) => match g xs ds with
      | some (y, xs') => Q y (M.set a (.lst xs'))
      | none => False
    | _ => False
  | _ => False
theorem mChg_ok {g : List D → List D → Option (D × List D)} {r : V → List V → Hp → VK → Prop}
    (h : ∀ (F H : Hp) (a : Addr) (xs ds : List D) (ws vs : List V) (y : D) (xs' : List D) (Qv : VK), RpL F xs ws → RpL F ds vs → g xs ds = some (y, xs') → H a = some (.lst ws) → (∀ z ws', Rp F y z → RpL F xs' ws' → Qv z (L2.upd H a (.lst ws'))) → r (.ref a) vs H Qv) : MethT r (mChg g) := by
  intro M H F d v ds vs Q Qv m r1 r2 q f
  unfold mChg at q
  split at q
  · rename_i a
    have r1 : v = .ref a := r1
    subst r1
    split at q
    · rename_i xs e
      obtain ⟨_, o, ho, ws, rfl, rr⟩ := m.mem a _ e
      split at q
      · rename_i y xs' eg
        refine h F H a xs ds ws vs y xs' Qv rr r2 eg ho fun z ws' rz rws => ?_
        obtain ⟨m', e'⟩ := m.chg e (o := .lst ws') (q := .lst xs') ⟨_, rfl, rws⟩
        exact f y z _ _ _ m' e' rz q
      · exact q.elim
    · exact q.elim
  · exact q.elim
def gAppend : List D → List D → Option (D × List D) := fun xs ds => match ds with
  | [x] => if xs.length < 16777216 then some (.non, xs ++ [x]) else none
  | _ => none
theorem mt_appendD : MethT rAppend (mChg gAppend) := mChg_ok fun F H a xs ds ws vs y xs' Qv r1 r2 e ha f => by
  unfold gAppend at e
  split at e
  · split at e
    · rename_i hl
      simp only [Option.some.injEq, Prod.mk.injEq] at e
      obtain ⟨rfl, rfl⟩ := e
      obtain ⟨v, rfl, h1⟩ := rp1 r2
      exact ⟨a, ws, v, rfl, rfl, ha, by rw [r1.length, sizeLine_eq]; exact hl, f .non _ rfl (r1.append (RpL.one h1))⟩
    · cases e
  · cases e
def gInsert : List D → List D → Option (D × List D) := fun xs ds => match ds with
  | [.int i, x] => if xs.length < 16777216 ∧ 0 ≤ i ∧ i < 2 ^ 63 then some (.non, xs.take i.toNat ++ [x] ++ xs.drop i.toNat) else none
  | _ => none
def rInsert : V → List V → Hp → VK → Prop := fun x vs H Q => ∃ (l : Addr) (xs : List V) (i : Int) (y : V), x = .ref l ∧ vs = [.int i, y] ∧ H l = some (.lst xs) ∧ xs.length < sizeLine ∧ 0 ≤ i ∧ i < 2 ^ 63 ∧ Q .non (L2.upd H l (.lst (xs.take i.toNat ++ [y] ++ xs.drop i.toNat)))
theorem mt_insertR {X : Cx} : MtR X "list.insert" rInsert := mt_insert
theorem mt_insertD : MethT rInsert (mChg gInsert) := mChg_ok fun F H a xs ds ws vs y xs' Qv r1 r2 e ha f => by
  unfold gInsert at e
  split at e
  · split at e
    · rename_i hl
      simp only [Option.some.injEq, Prod.mk.injEq] at e
      obtain ⟨rfl, rfl⟩ := e
      obtain ⟨v, w, rfl, h1, h2⟩ := rp2 r2
      cases h1
      exact ⟨a, ws, _, w, rfl, rfl, ha, by rw [r1.length, sizeLine_eq]; exact hl.1, hl.2.1, hl.2.2, f .non _ rfl (((r1.take _).append (RpL.one h2)).append (r1.drop _))⟩
    · cases e
  · cases e
def gPop : List D → List D → Option (D × List D) := fun xs ds => match ds with
  | [] => (xs[xs.length - 1]?).map fun x => (x, xs.dropLast)
  | _ => none
theorem mt_popD : MethT rPop (mChg gPop) := mChg_ok fun F H a xs ds ws vs y xs' Qv r1 r2 e ha f => by
  unfold gPop at e
  split at e
  · obtain ⟨x, ex, e⟩ := Option.map_eq_some_iff.mp e
    cases e
    cases r2
    obtain ⟨v, ev, rv⟩ := r1.get ex
    exact ⟨a, ws, v, rfl, rfl, ha, by rw [r1.length]; exact ev, f v _ rv r1.dropLast⟩
  · cases e

/-! ### dicts with plain keys -/
def keyD : D → Option Key
  | .int i => some (.inl i)
  | .str x => some (.inr x)
  | _ => none
theorem keyD_rp {F : Hp} {d : D} {v : V} {k : Key} (r : Rp F d v) (h : keyD d = some k) : v = kV k := by
  cases d with
  | int i => simp only [keyD, Option.some.injEq] at h; subst h; exact r
  | str i => simp only [keyD, Option.some.injEq] at h; subst h; exact r
  | _ => simp [keyD] at h
/-- what a dict holds at a key -/
def look : List Key → List D → Key → Option D
  | k :: ks, x :: xs, y => if k = y then some x else look ks xs y
  | _, _, _ => none
theorem look_rp {F : Hp} {y : Key} : ∀ {ks : List Key} {xs : List D} {kvs : List (Key × V)}, kvs.map (·.1) = ks → RpL F xs (kvs.map (·.2)) →
    (∀ d, look ks xs y = some d → ∃ v, valV kvs y = some v ∧ Rp F d v) ∧ (look ks xs y = none → valV kvs y = none)
  | ks, xs, [], h1, h2 => by
    cases h1
    cases xs with
    | nil => exact ⟨fun d h => by simp [look] at h, fun _ => rfl⟩
    | cons x xs => obtain ⟨v, r, e, _⟩ := h2; cases e
  | ks, xs, (k, u) :: kvs, h1, h2 => by
    subst h1
    cases xs with
    | nil => cases h2
    | cons x xs =>
      obtain ⟨v, r, e, ra, rb⟩ := h2
      simp only [List.map_cons, List.cons.injEq] at e
      obtain ⟨rfl, rfl⟩ := e
      obtain ⟨i1, i2⟩ := look_rp (F := F) (y := y) (ks := kvs.map (·.1)) rfl rb
      simp only [List.map_cons, look, valV, List.find?_cons]
      by_cases hk : k = y
      · subst hk
        simp only [if_pos, decide_true]
        refine ⟨fun d h => ?_, fun h => by cases h⟩
        cases h
        exact ⟨u, rfl, ra⟩
      · simp only [if_neg hk, decide_eq_false hk]
        exact ⟨i1, i2⟩
/-- d[k] -/
def wDGet (o i : DE) : DE := fun ρ M Q => o ρ M fun x M1 => i ρ M1 fun y M2 => match nrm M2 x, keyD y with
  | .dct ks xs, some k => match look ks xs k with
    | some d => Q d M2
    | none => False
  | _, _ => False
theorem tr_dget {td ty : TE} {o i : DE} (ho : Tr td o) (hi : Tr ty i) : Tr (tDGet td ty) (wDGet o i) := by
  intro ρ M σ H F Q Qv er m q f
  refine ho ρ M σ H F _ _ er m q fun x v M1 H1 F1 m1 e1 r1 q1 => ?_
  refine hi ρ M1 σ H1 F1 _ _ (er.mono e1.fs) m1 q1 fun y w M2 H2 F2 m2 e2 r2 q2 => ?_
  have vw := m2.view (Rp.mono e2.fs _ _ r1)
  split at q2
  · rename_i ks xs k ex ek
    rw [ex] at vw
    obtain ⟨a, kvs, rfl, ha, hk, ra⟩ := vw
    have ew := keyD_rp r2 ek
    subst ew
    split at q2
    · rename_i d ed
      obtain ⟨u, eu, ru⟩ := (look_rp (y := k) hk ra).1 d ed
      exact ⟨a, u, rfl, by rw [← eu]; exact .k ha, f _ _ _ _ _ m2 (e1.trans e2) ru q2⟩
    · exact q2.elim
  · exact q2.elim
/-- k in d, k in list or tuple -/
def wDIn (neg : Bool) (i o : DE) : DE := fun ρ M Q => i ρ M fun y M1 => o ρ M1 fun x M2 => match nrm M2 x, keyD y with
  | .dct ks xs, some k => Q (.bl (if neg then !(look ks xs k).isSome else (look ks xs k).isSome)) M2
  | _, _ => False
theorem look_some {F : Hp} {y : Key} {ks : List Key} {xs : List D} {kvs : List (Key × V)} (h1 : kvs.map (·.1) = ks) (h2 : RpL F xs (kvs.map (·.2))) : (valV kvs y).isSome = (look ks xs y).isSome := by
  obtain ⟨i1, i2⟩ := look_rp (y := y) h1 h2
  cases e : look ks xs y with
  | none => rw [i2 e]; rfl
  | some d => obtain ⟨v, e1, _⟩ := i1 d e; rw [e1]; rfl
theorem tr_din {ty td : TE} {i o : DE} (hi : Tr ty i) (ho : Tr td o) : Tr (tDIn ty td) (wDIn false i o) := by
  intro ρ M σ H F Q Qv er m q f
  refine hi ρ M σ H F _ _ er m q fun y w M1 H1 F1 m1 e1 r1 q1 => ?_
  refine ho ρ M1 σ H1 F1 _ _ (er.mono e1.fs) m1 q1 fun x v M2 H2 F2 m2 e2 r2 q2 => ?_
  have vw := m2.view r2
  split at q2
  · rename_i ks xs k ex ek
    rw [ex] at vw
    obtain ⟨a, kvs, rfl, ha, hk, ra⟩ := vw
    have ew := keyD_rp (Rp.mono e2.fs _ _ r1) ek
    subst ew
    refine ⟨a, _, rfl, .k ha, f (.bl _) _ _ _ _ m2 (e1.trans e2) ?_ q2⟩
    show V.bl _ = V.bl _
    rw [look_some hk ra]; rfl
  · exact q2.elim
theorem tr_dnotin {ty td : TE} {i o : DE} (hi : Tr ty i) (ho : Tr td o) : Tr (tDNotIn ty td) (wDIn true i o) := by
  intro ρ M σ H F Q Qv er m q f
  refine hi ρ M σ H F _ _ er m q fun y w M1 H1 F1 m1 e1 r1 q1 => ?_
  refine ho ρ M1 σ H1 F1 _ _ (er.mono e1.fs) m1 q1 fun x v M2 H2 F2 m2 e2 r2 q2 => ?_
  have vw := m2.view r2
  split at q2
  · rename_i ks xs k ex ek
    rw [ex] at vw
    obtain ⟨a, kvs, rfl, ha, hk, ra⟩ := vw
    have ew := keyD_rp (Rp.mono e2.fs _ _ r1) ek
    subst ew
    refine ⟨a, _, rfl, .k ha, f (.bl _) _ _ _ _ m2 (e1.trans e2) ?_ q2⟩
    show V.bl _ = V.bl _
    rw [look_some hk ra]; rfl
  · exact q2.elim
/-- {} -/
def wDNew : DE := fun _ M Q => ∀ p, M p = none → Q (.ref p) (M.set p (.dK [] []))
theorem tr_dnew : Tr tDNewK wDNew := by
  intro ρ M σ H F Q Qv er m q f p hp
  obtain ⟨m', e'⟩ := m.mut hp (o := .dK []) (q := .dK [] []) ⟨[], rfl, rfl, rfl⟩
  exact f (.ref p) _ _ _ _ m' e' rfl (q p (m.fresh hp).2)
/-- a key's value is put -/
def putKs (ks : List Key) (k : Key) : List Key := if (ks.any fun j => decide (j = k)) = true then ks else ks ++ [k]
def putXs (ks : List Key) (xs : List D) (k : Key) (d : D) : List D := if (ks.any fun j => decide (j = k)) = true then List.zipWith (fun j x => if j = k then d else x) ks xs else xs ++ [d]
theorem put_map {F : Hp} {k : Key} {d : D} {v : V} (r : Rp F d v) : ∀ {kvs : List (Key × V)} {xs : List D}, RpL F xs (kvs.map (·.2)) →
    (kvs.map (fun kv => if kv.1 = k then (kv.1, v) else kv)).map (·.1) = kvs.map (·.1) ∧ RpL F (List.zipWith (fun j x => if j = k then d else x) (kvs.map (·.1)) xs) ((kvs.map (fun kv => if kv.1 = k then (kv.1, v) else kv)).map (·.2))
  | [], xs, h => by cases xs <;> exact ⟨rfl, rfl⟩
  | (j, u) :: kvs, [], h => by cases h
  | (j, u) :: kvs, x :: xs, h => by
    obtain ⟨v', r', e, ra, rb⟩ := h
    simp only [List.map_cons, List.cons.injEq] at e
    obtain ⟨rfl, rfl⟩ := e
    obtain ⟨i1, i2⟩ := put_map r (kvs := kvs) (xs := xs) rb
    simp only [List.map_cons, List.zipWith_cons_cons]
    by_cases hj : j = k
    · simp only [if_pos hj]
      exact ⟨by rw [i1], v, _, rfl, r, i2⟩
    · simp only [if_neg hj]
      exact ⟨by rw [i1], u, _, rfl, ra, i2⟩
theorem put_rp {F : Hp} {k : Key} {d : D} {v : V} {ks : List Key} {xs : List D} {kvs : List (Key × V)} (h1 : kvs.map (·.1) = ks) (h2 : RpL F xs (kvs.map (·.2))) (r : Rp F d v) :
    (putK kvs k v).map (·.1) = putKs ks k ∧ RpL F (putXs ks xs k d) ((putK kvs k v).map (·.2)) := by
  subst h1
  unfold putK putKs putXs
  have e : ((kvs.map (·.1)).any fun j => decide (j = k)) = (kvs.any fun kv => decide (kv.1 = k)) := by
    rw [List.any_map]; rfl
  rw [e]
  split
  · exact put_map r h2
  · refine ⟨by simp, ?_⟩
    rw [List.map_append]
    exact h2.append (RpL.one r)
def sDPutD (o i e : DE) : DS := fun Dd ρ M => e ρ M fun d M1 => o ρ M1 fun x M2 => i ρ M2 fun y M3 => match x with
  | .ref a => match M3 a, keyD y with
    | some (.dK ks xs), some k => ks.length < 16777216 ∧ Dd.nx ρ (M3.set a (.dK (putKs ks k) (putXs ks xs k d)))
    | _, _ => False
  | _ => False
theorem ts_dput {td ty tv : TE} {o i e : DE} (ho : Tr td o) (hi : Tr ty i) (he : Tr tv e) : TrS (sDPut td ty tv) (sDPutD o i e) := by
  intro ρ M σ H F Dd De er m q r
  refine he ρ M σ H F _ _ er m q fun d v M1 H1 F1 m1 e1 r1 q1 => ?_
  refine ho ρ M1 σ H1 F1 _ _ (er.mono e1.fs) m1 q1 fun x u M2 H2 F2 m2 e2 r2 q2 => ?_
  refine hi ρ M2 σ H2 F2 _ _ (er.mono (e1.fs.trans e2.fs)) m2 q2 fun y w M3 H3 F3 m3 e3 r3 q3 => ?_
  split at q3
  · rename_i a
    split at q3
    · rename_i ks xs k ea ek
      obtain ⟨_, o, ho, kvs, rfl, hk, rr⟩ := m3.mem a _ ea
      have r2 : u = .ref a := r2
      subst r2
      have ew := keyD_rp r3 ek
      subst ew
      have rv := Rp.mono (e2.fs.trans e3.fs) _ _ r1
      obtain ⟨p1, p2⟩ := put_rp (k := k) hk rr rv
      obtain ⟨m', e'⟩ := m3.chg ea (o := .dK (putK kvs k v)) (q := .dK (putKs ks k) (putXs ks xs k d)) ⟨_, rfl, p1, p2⟩
      have hl : kvs.length < sizeLine := by rw [sizeLine_eq, ← List.length_map (f := (·.1)) (as := kvs), hk]; exact q3.1
      have ee := e1.trans (e2.trans (e3.trans e'))
      exact ⟨a, _, rfl, .k ho hl, r.nx _ _ _ _ _ (er.mono ee.fs) m' ee q3.2⟩
    · exact q3.elim
  · exact q3.elim
/-- x in a list (deep), in a tuple of flat things -/
def flatD : D → Bool
  | .non => true
  | .bl _ => true
  | .int _ => true
  | .str _ => true
  | _ => false
theorem flat_v {F : Hp} {d : D} {v : V} (r : Rp F d v) (h : flatD d = true) : flatV v = true ∧ PyData.canLay0 (toPD d) = true ∨ flatV v = true := by
  cases d <;> first | (cases r; exact .inr rfl) | cases h
theorem flat_eq {F : Hp} {d e : D} {v w : V} (r : Rp F d v) (r' : Rp F e w) (h : flatD d = true) (h' : flatD e = true) : eqV v w = deq d e := by
  cases d <;> first | cases h | skip
  all_goals (cases r; cases e <;> first | cases h' | skip)
  all_goals (cases r'; simp [eqV, deq, toPD, PyData.eqv])
theorem flat_any {F : Hp} {d : D} {v : V} (r : Rp F d v) (h : flatD d = true) : ∀ {xs : List D} {vs : List V}, RpL F xs vs → xs.all flatD = true → vs.all flatV = true ∧ inV v vs = xs.any fun z => deq z d
  | [], _, e, _ => by cases e; exact ⟨rfl, rfl⟩
  | x :: xs, _, ⟨u, us, e, r1, r2⟩, ha => by
    subst e
    simp only [List.all_cons, Bool.and_eq_true] at ha
    obtain ⟨i1, i2⟩ := flat_any r h r2 ha.2
    refine ⟨?_, ?_⟩
    · rw [List.all_cons, i1, Bool.and_true]
      rcases flat_v r1 ha.1 with z | z
      · exact z.1
      · exact z
    · unfold inV at i2 ⊢
      rw [List.any_cons, List.any_cons, i2, flat_eq r1 r ha.1 h]
def nIn (neg : Bool) : DO := fun x y M Q => match y with
  | .lst ys => (pdOk x = true ∧ pdOk (.lst ys) = true) ∧ Q (.bl (if neg then !(ys.any fun z => deq z x) else ys.any fun z => deq z x)) M
  | .tup ys => (flatD x = true ∧ ys.all flatD = true) ∧ Q (.bl (if neg then !(ys.any fun z => deq z x) else ys.any fun z => deq z x)) M
  | _ => False
def wIn (neg : Bool) : DO := fun x y M Q => nIn neg (nrm M x) (nrm M y) M Q
def rInA (K : PySem.W.Frag) : R2 := fun x y H Q => rInD K x y H Q ∨ rIn K false x y H Q
def rNotInA (K : PySem.W.Frag) : R2 := fun x y H Q => rNotInD K x y H Q ∨ rIn K true x y H Q
theorem op_inA {X : Cx} (hu : X.A.units + 65 < cLine) : OpR X (compareOp .In) (rInA X.K) := (op_inD hu).or op_in_seq
theorem op_notInA {X : Cx} (hu : X.A.units + 65 < cLine) : OpR X (compareOp .NotIn) (rNotInA X.K) := (op_notInD hu).or op_notIn_seq
theorem toPDs_any {d : D} : ∀ {ys : List D}, ((toPDs ys).any fun z => PyData.eqv z (toPD d)) = ys.any fun z => deq z d
  | [] => rfl
  | y :: ys => by simp only [toPDs, List.any_cons, toPDs_any, deq]
theorem vw_flat {H F : Hp} {d : D} {v : V} (r : Vw H F d v) (h : flatD d = true) : Rp F d v := by
  cases d <;> first | exact r | cases h
theorem ot_in {K : PySem.W.Frag} : OpT (rInA K) (wIn false) := OpT.byView (fun _ _ _ _ => rfl) fun M H F n1 n2 v1 v2 Q Qv m r1 r2 q f => by
  unfold nIn at q
  split at q
  · rename_i ys
    refine .inl ⟨_, _, vw_dp m.same r1 q.1.1, vw_dp m.same r2 q.1.2, q.1.1, q.1.2, f.here (d := .bl _) m ?_ q.2⟩
    show V.bl _ = V.bl _
    rw [toPDs_any]; rfl
  · rename_i ys
    obtain ⟨a, vs, rfl, ha, ra⟩ := r2
    have rd := vw_flat r1 q.1.1
    obtain ⟨h1, h2⟩ := flat_any rd q.1.1 ra q.1.2
    refine .inr ⟨a, vs, rfl, .inr (.of ha), ?_, h1, f.here (d := .bl _) m ?_ q.2⟩
    · rcases flat_v rd q.1.1 with z | z
      · exact z.1
      · exact z
    · show V.bl _ = V.bl _
      rw [h2]
  · exact q.elim
theorem ot_notin {K : PySem.W.Frag} : OpT (rNotInA K) (wIn true) := OpT.byView (fun _ _ _ _ => rfl) fun M H F n1 n2 v1 v2 Q Qv m r1 r2 q f => by
  unfold nIn at q
  split at q
  · rename_i ys
    refine .inl ⟨_, _, vw_dp m.same r1 q.1.1, vw_dp m.same r2 q.1.2, q.1.1, q.1.2, f.here (d := .bl _) m ?_ q.2⟩
    show V.bl _ = V.bl _
    rw [toPDs_any]; rfl
  · rename_i ys
    obtain ⟨a, vs, rfl, ha, ra⟩ := r2
    have rd := vw_flat r1 q.1.1
    obtain ⟨h1, h2⟩ := flat_any rd q.1.1 ra q.1.2
    refine .inr ⟨a, vs, rfl, .inr (.of ha), ?_, h1, f.here (d := .bl _) m ?_ q.2⟩
    · rcases flat_v rd q.1.1 with z | z
      · exact z.1
      · exact z
    · show V.bl _ = V.bl _
      rw [h2]
  · exact q.elim


/-! ### defs -/
/-- a contract: the arguments, the table, what is wanted -/
abbrev Ct := List D → Mp → DK → Prop
def spD (R : Ct) : Sp := fun vs H Q _ => ∃ ds M F QD, Mem M H F ∧ RpL F ds vs ∧ R ds M QD ∧ Fin QD Q M H F
def startD (n : Nat) (ds : List D) : DEnv := ds.map some ++ List.replicate (n - ds.length) none
theorem env_start {F : Hp} {ds : List D} {vs : List V} {N : List Str} (r : RpL F ds vs) : EnvR F (startD N.length ds) (L2.start N vs) := by
  refine ⟨by simp [startD, L2.start, r.length], fun i d e => ?_⟩
  unfold startD at e
  unfold L2.start
  by_cases hi : i < ds.length
  · rw [List.getElem?_append_left (by simpa using hi), List.getElem?_map] at e
    obtain ⟨d', e1, e2⟩ := Option.map_eq_some_iff.mp e
    cases e2
    obtain ⟨v, e3, rv⟩ := r.get e1
    exact ⟨v, by rw [List.getElem?_append_left (by rw [List.length_map, r.length]; exact hi), List.getElem?_map, e3]; rfl, rv⟩
  · rw [List.getElem?_append_right (by simp; omega), List.getElem?_replicate] at e
    split at e <;> cases e
abbrev FnP (K : PySem.W.Frag) (x : Str) (st : Stmt) (dvs : List V) (f : Addr) (fd : FuncData) : Prop := FunD K x x (defArgs st) (defBody st) (defScope st) dvs [] f fd
/-- what a def promises wherever nothing is being shown (repr must know that) -/
structure FnG (P : Program) (w : World) (K : PySem.W.Frag) (mg : Str → Option Value) (base : Heap) (k : Nat) (f : Addr) (fd : FuncData) (ps : List Str) (sp : Sp) : Prop where
  len : ∀ {vs H Q E}, sp vs H Q E → vs.length = ps.length
  run : ∀ {A : Around} {outer : List Env} {s : Shared} {H : Hp} {as : Args} {us : List Value} {vs : List V} {Q : VK} {E : XK}, Room k A → A.guards = some [] → Env0 P w K mg base A outer s H → BindsTo s fd as (ps.zip us) → Vals vs us → sp vs H Q E →
    codeAny (model P w) A (.call (.ref f) as) (CR CX0 outer P w H s Q E) s
theorem FnG.mono {P : Program} {w : World} {K : PySem.W.Frag} {mg : Str → Option Value} {base : Heap} {j k : Nat} {f : Addr} {fd : FuncData} {ps : List Str} {sp : Sp} (F : FnG P w K mg base j f fd ps sp) (h : j ≤ k) : FnG P w K mg base k f fd ps sp :=
  ⟨F.len, fun hr => F.run (hr.mono h)⟩
section
variable {P : Program} {w : World} {K : PySem.W.Frag} {mg : Str → Option Value} {base : Heap}
/-- a def keeps its contract -/
theorem fnD {x : Str} {st : Stmt} {dvs : List V} {f : Addr} {fd : FuncData} {N ps : List Str} {k : Nat} {R : Ct} (F : FnP K x st dvs f fd) (S : FnScope N ps (defScope st)) (hl : ∀ ds M Q, R ds M Q → ds.length = ps.length)
    (hb : ∀ (cdv : Value) (A : Around) (outer : List Env) (s : Shared) (H : Hp) (E : XK), Room k (A.deeper (envOfC x (defScope st) s.heap.objs.size f cdv)) → A.guards = some [] →
      ∃ t w', PSs (cxOf CX0 P w K mg base N x (defScope st) f cdv A outer s H E).nox (defBody st) t ∧ TrS t w' ∧ ∀ ds M Q, R ds M Q → w' { nx := fun _ M' => Q .non M', rt := Q } (startD N.length ds) M) :
    FnG P w K mg base (k + 1) f fd ps (spD R) := by
  obtain ⟨clsV, dctA, dflV, kwV, docV, modV, annA, cdv, ctV, slots, rfl, found, isCode, -, -⟩ := F.ex
  have hlen : ∀ {vs : List V} {H : Hp} {Q : VK} {E : XK}, spD R vs H Q E → vs.length = ps.length := fun ⟨ds, M, F', QD, m, r, q, fin⟩ => by
    rw [r.length]; exact hl ds M QD q
  refine ⟨hlen, ?_⟩
  intro A outer s H as us vs Q E room quiet e0 bound r sp
  have e1 : ∀ b o, base.get? b = some o → s.heap.get? b = some o := fun b o e => (e0.bs b o e).1
  have inK : K.In s.heap := e0.mod.kin.keeps e1
  refine codeAny_call_function room.depth (inK _ _ found) rfl S.co S.gen rfl (PySem.W.codeRec_of inK isCode) (bound _ _ _ _ ?_)
  refine wpAny_newFunctionEnv_cells S.kind (fun y hy => ?_) fun env he s1 laid => ?_
  · rcases S.par y.1 (List.of_mem_zip (a := y.1) (b := y.2) hy).1 with q | q
    · exact Or.inl q
    · exact Or.inr ⟨q, PySem.W.cellsFrom_some _ _ _ (Or.inl q)⟩
  subst he
  refine ⟨(e0.mod.nolimit.keeps e1).keeps laid.toInCall.keep, codeAny_func ?_⟩
  have inv := inv_start (CX := CX0) (K := K) (E := E) S room.hd e0 (hlen sp) r laid
  obtain ⟨t, w', h1, h2, h3⟩ := hb cdv A outer s H E (room.deeper _) quiet
  obtain ⟨ds, M, F', QD, m, rr, q, fin⟩ := sp
  have go := h2 _ M _ H F' { nx := fun _ M' => QD .non M', rt := QD } { nx := fun _ H' => Q .non H', rt := Q } (env_start rr) m (h3 ds M QD q)
    ⟨fun ρ' M' σ' H' F2 er' m' e' q' => fin .non .non M' H' F2 m' e' rfl q', fun d v M' H' F2 m' e' r' q' => fin d v M' H' F2 m' e' r' q', fun _ _ _ _ _ _ _ _ q' => q', fun _ _ _ _ _ _ _ _ q' => q'⟩
  refine wpAny_mono ((PSs.nox h1).run [] s1 _ H _ inv go) (fun fl s' ends => ?_) fun _ _ ends => ends
  match fl, ends with
  | .ret _, ⟨v, _, H', J, rv, q⟩ => exact ⟨v, H', J.os, J.bare, J.base, J.hok, rv, q⟩
  | .next, ⟨_, H', J, q⟩ => exact ⟨V.non, H', J.os, J.bare, J.base, J.hok, rfl, q⟩
  | .brk, ⟨_, _, _, q⟩ => exact q.elim
  | .cont, ⟨_, _, _, q⟩ => exact q.elim
end
section
variable {X : Cx} {k : Nat} {f : Addr} {fd : FuncData} {ps : List Str} {sp : Sp}
/-- the callee runs -/
theorem goG {pins : List (Addr × Obj)} {σ : L2.St} {H : Hp} {s : Shared} {Q : VK} {us bs : List Value} {kw : List (Str × Value)} {vs : List V} (F : FnG X.prog X.w X.K X.mg X.base k f fd ps sp) (hr : Room k X.A) (quiet : X.A.guards = some [])
    (inv : Inv X pins σ H s) (bound : BindsTo s fd ⟨us, kw⟩ (ps.zip bs)) (r : Vals vs bs) (h : sp vs H Q E0) : wpAny (model X.prog X.w) X.A (call (.ref f) us kw) (EP X pins σ Q) X.xe s := by
  refine wpAny_call (codeAny_mono (F.run hr quiet inv.env0 bound r h) fun res s' out => ?_)
  match res, out with
  | .error e, out => exact False.elim out
  | .ok (.ret _), out => exact inv.after out
  | .ok .next, out => exact False.elim out
  | .ok .brk, out => exact False.elim out
  | .ok .cont, out => exact False.elim out
variable {x : Str} {p pos : Pos} {e : Expr} {es : List Expr} {t tk : TA} {dvs : List V} {ds : List Value} {ks : List Str} {kws : List Keyword} {g : List Value → List Value → List Value} {gV : List V → List V → List V}
/-- f(..) -/
theorem pe_callG (F : FnG X.prog X.w X.K X.mg X.base k f fd ps sp) (hr : Room k X.A) (quiet : X.A.guards = some []) (glob : Gl X x) (here : X.mg x = some (.ref f)) (kept : PySem.W.keepIn X.K (.ref f) = true) (hb : Binds X.K fd ps ds) (dv : Vals dvs ds)
    (args : PA X (e :: es) t) (notDebug : (x == ("__debug__" : Str)) = false := by decide) (first : starEach (e :: es) X.env = (false, eval e X.env) :: starEach es X.env := by rfl) (plain : (backTo pos (starEach es X.env)).any (·.1) = false := by rfl) :
    PE X (.Call (.Name x p) (e :: es) [] pos) (tCall sp dvs E0 t) := ⟨fun pins s σ H Q inv h => by
  refine wpAny_Call_Name_kw (ld_glob inv glob here ?_ notDebug)
  refine PySem.W.callWith_K (h₀ := X.base) inv.ok.mod.kin kept (thn (args.run pos pins s σ H _ inv h) fun us s1 ⟨vs, H1, inv1, r, q⟩ => ⟨inv1.kIn, ?_⟩) first plain
  have rr := r.append dv
  exact goG F hr quiet inv1 (hb s1 us inv1.kIn (by rw [← rr.length]; exact F.len q)) rr q⟩
theorem pe_callG0 (F : FnG X.prog X.w X.K X.mg X.base k f fd ps sp) (hr : Room k X.A) (quiet : X.A.guards = some []) (glob : Gl X x) (here : X.mg x = some (.ref f)) (kept : PySem.W.keepIn X.K (.ref f) = true) (hb : Binds X.K fd ps ds) (dv : Vals dvs ds)
    (notDebug : (x == ("__debug__" : Str)) = false := by decide) : PE X (.Call (.Name x p) [] [] pos) (tCall sp dvs E0 tNil) := ⟨fun pins s σ H Q inv h => by
  refine wpAny_Call_Name_kw (ld_glob inv glob here ?_ notDebug)
  have rr : Vals ([] ++ dvs) ([] ++ ds) := dv
  exact PySem.W.callWith_K0 inv.kIn kept (goG F hr quiet inv (hb s [] inv.kIn (by rw [← rr.length]; exact F.len h)) rr h)⟩
/-- f(.., k = v, ..) -/
theorem pe_callGK (F : FnG X.prog X.w X.K X.mg X.base k f fd ps sp) (hr : Room k X.A) (quiet : X.A.guards = some []) (glob : Gl X x) (here : X.mg x = some (.ref f)) (kept : PySem.W.keepIn X.K (.ref f) = true) (hb : KBinds X.K fd ps ks g gV)
    (args : PA X (e :: es) t) (named : PK X kws tk) (every : (backToKw pos (keywordEach kws X.env)).all (·.1.isSome) = true := by rfl) (names : (backToKw pos (keywordEach kws X.env)).filterMap (·.1) = ks := by rfl)
    (notDebug : (x == ("__debug__" : Str)) = false := by decide) (first : starEach (e :: es) X.env = (false, eval e X.env) :: starEach es X.env := by rfl)
    (plain : ((backTo pos (starEach (e :: es) X.env)).any (·.1) || (backToKw pos (keywordEach kws X.env)).any (·.1.isNone)) = false := by rfl) : PE X (.Call (.Name x p) (e :: es) kws pos) (tCallK sp gV E0 t tk) := ⟨fun pins s σ H Q inv h => by
  refine wpAny_Call_Name_kw (ld_glob inv glob here ?_ notDebug)
  refine PySem.W.callWith_KW (h₀ := X.base) inv.ok.mod.kin kept every (thn (args.run pos pins s σ H _ inv h) fun us s1 ⟨vs, H1, inv1, r, q⟩ => ?_) plain first
  refine thn (named.run pos pins s1 σ H1 _ inv1 q) fun ws s2 ⟨zs, H2, inv2, rz, q2⟩ => ⟨inv2.kIn, ?_⟩
  rw [names]
  have rr := hb.rel r rz
  exact goG F hr quiet inv2 (hb.to s2 us ws inv2.kIn (by rw [← rr.length]; exact F.len q2)) rr q2⟩
theorem pe_callGK0 (F : FnG X.prog X.w X.K X.mg X.base k f fd ps sp) (hr : Room k X.A) (quiet : X.A.guards = some []) (glob : Gl X x) (here : X.mg x = some (.ref f)) (kept : PySem.W.keepIn X.K (.ref f) = true) (hb : KBinds X.K fd ps ks g gV)
    (named : PK X kws tk) (every : (backToKw pos (keywordEach kws X.env)).all (·.1.isSome) = true := by rfl) (names : (backToKw pos (keywordEach kws X.env)).filterMap (·.1) = ks := by rfl)
    (notDebug : (x == ("__debug__" : Str)) = false := by decide)
    (plain : ((backTo pos (starEach [] X.env)).any (·.1) || (backToKw pos (keywordEach kws X.env)).any (·.1.isNone)) = false := by rfl) : PE X (.Call (.Name x p) [] kws pos) (tCallK sp gV E0 tNil tk) := ⟨fun pins s σ H Q inv h => by
  refine wpAny_Call_Name_kw (ld_glob inv glob here ?_ notDebug)
  refine PySem.W.callWith_KW0 (h₀ := X.base) inv.ok.mod.kin kept every (thn (named.run pos pins s σ H _ inv h) fun ws s2 ⟨zs, H2, inv2, rz, q2⟩ => ⟨inv2.kIn, ?_⟩) plain
  rw [names]
  have rr := hb.rel (vs := []) (us := []) .nil rz
  exact goG F hr quiet inv2 (hb.to s2 [] ws inv2.kIn (by rw [← rr.length]; exact F.len q2)) rr q2⟩
end
/-! ### a law's end -/
section
variable {P : Program} {w : World} {K : PySem.W.Frag} {mg mb : Str → Option Value} {k : Nat} {fa a : Addr} {fd : FuncData} {x : Str} {sp : Sp} {s : Shared} {vs : List Value} {ns : List Int}
abbrev TopEnd (s : Shared) : Result → Shared → Prop := fun r s' => r = .ok (.ret (.bool true)) ∧ OldK s.heap s'.heap ∧ s'.os = s.os ∧ AllBare s'.gens
/-- the law's def is called over an abstract heap that holds the script at most -/
theorem top_over {H : Hp} (inK : K.In s.heap) (glob : s.heap.Ns mainGlobals mg) (blt : s.heap.Ns builtinsNs mb) (booted : ∀ y : Str, y ≠ "__name__" → mb y = bootBuiltins y) (nolim : s.heap.NoLimit) (nogen : s.gens = #[])
    (scr : s.heap.get? a = some { cls := .type "list", data := .seq vs.toArray }) (room : Room k callerA) (F : ∀ base : Heap, K.In base → base.Ns mainGlobals mg → FnG P w K mg base k fa fd [x] sp)
    (bound : ∀ (s : Shared) (u : Value), BindsTo s fd ⟨[u], []⟩ [(x, u)]) (ask : sp [.ref a] H (fun v _ => v = .bl true) E0) (held : HOk P w H s.heap) (only : Only H) (alone : ∀ b u, H b = some u → b = a ∧ K.lookup a = none) :
    codeAny (model P w) callerA (.call (.ref fa) ⟨[.ref a], []⟩) (TopEnd s) s := by
  have noDict : ∀ {b : Addr} {o : Obj} {es : Array DictEntry} {ep : Nat}, s.heap.get? b = some o → o.data = .dict es ep → H b = none := by
    intro b o es ep hb hd
    match q : H b with
    | none => rfl
    | some u =>
      exfalso
      have e := (alone b u q).1
      subst e
      have eo := Option.some.inj (scr.symm.trans hb)
      subst eo
      cases hd
  have ns' : ∀ {b : Addr} {m : Str → Option Value}, s.heap.Ns b m → (hidT s.heap H).Ns b m := by
    rintro b m ⟨o, es, ep, hb, hd, r⟩
    exact ⟨o, es, ep, hidT_get hb (noDict hb hd), hd, r⟩
  have inB : K.In (hidT s.heap H) := by
    intro b o hb
    refine hidT_get (inK b o hb) ?_
    match q : H b with
    | none => rfl
    | some u =>
      exfalso
      obtain ⟨e, z⟩ := alone b u q
      subst e
      rw [hb] at z
      cases z
  obtain ⟨mc, lim1, lim2⟩ := nolim
  have env : Env0 P w K mg (hidT s.heap H) callerA [] s H :=
    ⟨rfl, ⟨inB, ns' glob, ⟨mb, ns' blt, booted⟩, ⟨mc, ns' lim1, lim2⟩⟩, fun _ _ => of_hidT, Nat.le_of_eq (hidT_size _ _), trivial, (fun b z => by cases (show b ∈ ([] : List Addr) from z)), held, .of_eq nogen⟩
  refine codeAny_mono ((F _ inB (ns' glob)).run (us := [.ref a]) (vs := [.ref a]) room rfl env (bound s _) (.cons rfl .nil) ask) fun r s' out => ?_
  match r, out with
  | .error _, out => exact False.elim out
  | .ok .next, out => exact False.elim out
  | .ok .brk, out => exact False.elim out
  | .ok .cont, out => exact False.elim out
  | .ok (.ret u), ⟨v, H', os, bare, un, held', rel, q⟩ =>
    have q : v = .bl true := q
    subst q
    have eu : u = Value.bool true := rel
    subst eu
    refine ⟨rfl, OldK.of_keep fun b o hb => ?_, os, bare⟩
    rcases only b with z | ⟨ob, xs, z⟩
    · exact un.keep b o hb z (fun y => by cases (show b ∈ ([] : List Addr) from y)) (fun y => by cases y)
    · have e1 := (held b _ z).1
      have e2 := (held' b _ (un.frzs b ob _ z)).1
      rw [← Option.some.inj (e1.symm.trans hb)]
      exact e2
theorem top_call (inK : K.In s.heap) (glob : s.heap.Ns mainGlobals mg) (blt : s.heap.Ns builtinsNs mb) (booted : ∀ y : Str, y ≠ "__name__" → mb y = bootBuiltins y) (nolim : s.heap.NoLimit) (nogen : s.gens = #[])
    (scr : s.heap.get? a = some { cls := .type "list", data := .seq vs.toArray }) (numbers : IntsAre vs ns) (few : ns.length ≤ sizeLine) (room : Room k callerA) (F : ∀ base : Heap, K.In base → base.Ns mainGlobals mg → FnG P w K mg base k fa fd [x] sp)
    (bound : ∀ (s : Shared) (u : Value), BindsTo s fd ⟨[u], []⟩ [(x, u)]) (ask : ∀ H : Hp, SqL K H a (ns.map V.int) → sp [.ref a] H (fun v _ => v = .bl true) E0) :
    codeAny (model P w) callerA (.call (.ref fa) ⟨[.ref a], []⟩) (TopEnd s) s := by
  have rel := vals_ints numbers
  have size := numbers.length
  match known : K.lookup a with
  | some o =>
    have eo := Option.some.inj ((inK a o known).symm.trans scr)
    subst eo
    refine top_over (H := fun _ => none) inK glob blt booted nolim nogen scr room F bound (ask _ (Or.inr ⟨_, vs.toArray, _, known, rfl, rfl, rfl, by simpa [size] using few, by simpa using rel⟩)) ?_ (fun _ => Or.inl rfl) ?_
    · intro b u z; cases z
    · intro b u z; cases z
  | none =>
    let o : Obj := { cls := .type "list", data := .seq vs.toArray }
    let H : Hp := fun b => if b = a then some (.frz o (.lst (ns.map V.int))) else none
    have here : H a = some (.frz o (.lst (ns.map V.int))) := if_pos rfl
    have there : ∀ {b u}, H b = some u → b = a := by
      intro b u z
      by_cases e : b = a
      · exact e
      · have : H b = none := if_neg e
        rw [this] at z; cases z
    refine top_over (H := H) inK glob blt booted nolim nogen scr room F bound (ask H (Or.inl (Or.inr ⟨o, here⟩))) ?_ ?_ fun b u z => ⟨there z, known⟩
    · intro b u z
      have e := there z
      subst e
      rw [here] at z
      cases z
      exact ⟨scr, by rw [List.length_map]; exact few, vs, _, rel, scr⟩
    · intro b
      by_cases e : b = a
      · subst e; exact Or.inr ⟨_, _, here⟩
      · exact Or.inl (if_neg e)
end
/-- .. as a head wants it -/
theorem walkG {l : PySem.W.OpenLaw} {n k : Nat} {q : Program} {loose : List Str} {XP : (Str → Option Value) → Heap → Prop} {YP : World → Heap → Prop} {d : DefRec} {x : Str} (most : l.most = some n) (few : n ≤ sizeLine) (noDfl : d.params.defaults = []) (room : Room k callerA)
    (F : ∀ (w : World) (mg : Str → Option Value) (fa : Addr) (h : Heap), YP w h → h.Ns mainGlobals mg → mg d.name = some (.ref fa) → ∃ (K : PySem.W.Frag) (fd : FuncData) (sp : Sp), K.In h ∧ (∀ (s : Shared) (u : Value), BindsTo s fd ⟨[u], []⟩ [(x, u)]) ∧
      (∀ (H : Hp) (a : Addr) (ns : List Int), ns.length ≤ n → SqL K H a (ns.map V.int) → sp [.ref a] H (fun v _ => v = .bl true) E0) ∧ ∀ base : Heap, K.In base → base.Ns mainGlobals mg → FnG l.prog w K mg base k fa fd [x] sp) :
    PySem.W.WalkO q loose XP YP l.row.toRowW d [] (fun f vs => PySem.call f vs) := by
  refine Att.attach_call most noDfl ?_
  intro w s₀ s₁ mg mb fa o pm cd doc a vs ns ground says _ _ _ named scr numbers len nogen
  obtain ⟨K, fd, sp, inK, bound, ask, made⟩ := F w mg fa _ says ground.T.g named
  exact top_call inK ground.T.g ground.T.b ground.T.builtins ground.T.nolimit nogen scr numbers (Nat.le_trans len few) room made bound fun H hS => ask H a ns len hS
/-- plain defaults -/
inductive FlatL : List D → List V → Prop
  | nil : FlatL [] []
  | cons {d : D} {v : V} {ds : List D} {vs : List V} (h : ∀ F, Rp F d v) (t : FlatL ds vs) : FlatL (d :: ds) (v :: vs)
theorem FlatL.rp {F : Hp} : ∀ {ds : List D} {vs : List V}, FlatL ds vs → RpL F ds vs
  | _, _, .nil => rfl
  | _, _, .cons h t => ⟨_, _, rfl, h F, t.rp⟩
/-- a call -/
def wCall (R : Ct) (dds : List D) (a : DA) : DE := fun ρ M Q => a ρ M fun ds M1 => R (ds ++ dds) M1 Q
theorem tr_call {R : Ct} {dds : List D} {dvs : List V} {t : TA} {a : DA} (ha : TrA t a) (hd : FlatL dds dvs := by exact .nil) : Tr (tCall (spD R) dvs E0 t) (wCall R dds a) := by
  intro ρ M σ H F Q Qv er m q f
  refine ha ρ M σ H F _ _ er m q fun ds vs M1 H1 F1 m1 e1 r1 q1 => ?_
  exact ⟨ds ++ dds, M1, F1, Q, m1, r1.append hd.rp, q1, f.ext e1⟩
/-- .. with keywords: g puts them in order -/
def wCallK (R : Ct) (g : List D → List D → List D) (a b : DA) : DE := fun ρ M Q => a ρ M fun ds M1 => b ρ M1 fun es M2 => R (g ds es) M2 Q
theorem tr_callK {R : Ct} {g : List D → List D → List D} {gV : List V → List V → List V} {t tk : TA} {a b : DA} (hg : ∀ F ds es vs ws, RpL F ds vs → RpL F es ws → RpL F (g ds es) (gV vs ws)) (ha : TrA t a) (hb : TrA tk b) : Tr (tCallK (spD R) gV E0 t tk) (wCallK R g a b) := by
  intro ρ M σ H F Q Qv er m q f
  refine ha ρ M σ H F _ _ er m q fun ds vs M1 H1 F1 m1 e1 r1 q1 => ?_
  refine hb ρ M1 σ H1 F1 _ _ (er.mono e1.fs) m1 q1 fun es ws M2 H2 F2 m2 e2 r2 q2 => ?_
  exact ⟨_, M2, F2, Q, m2, hg F2 ds es vs ws (RpL.mono e2.fs _ _ r1) r2, q2, f.ext (e1.trans e2)⟩

/-- a, b, c = x, y, z -/
def sPar3 (i j l : Nat) (a : DA) : DS := fun Dd ρ M => a ρ M fun ds M1 => match ds with
  | [x, y, z] => Dd.nx (((ρ.set i (some x)).set j (some y)).set l (some z)) M1
  | _ => False
theorem ts_par3 {i j l : Nat} {t : TA} {a : DA} (h : TrA t a) : TrS (tPar3 i j l t) (sPar3 i j l a) := by
  intro ρ M σ H F Dd De er m q r
  refine h ρ M σ H F _ _ er m q fun ds vs M1 H1 F1 m1 e1 r1 q1 => ?_
  split at q1
  · obtain ⟨v, vr, rfl, h1, w, wr, rfl, h2, u, ur, rfl, h3, h4⟩ := r1
    cases h4
    exact ⟨v, w, u, rfl, r.nx _ _ _ _ _ ((((er.mono e1.fs).set i h1).set j h2).set l h3) m1 e1 q1⟩
  · exact q1.elim
/-- xs[::-1] -/
def wRev (md : Md) (a : DE) : DE := fun ρ M Q => a ρ M fun x M1 => match nrm M1 x with
  | .lst xs => wNew md xs.reverse M1 Q
  | _ => False
theorem tr_rev {K : PySem.W.Frag} {md : Md} {t : TE} {a : DE} (h : Tr t a) : Tr (tRevL K t) (wRev md a) := by
  intro ρ M σ H F Q Qv er m q f
  refine h ρ M σ H F _ _ er m q fun d1 v1 M1 H1 F1 m1 e1 r1 q1 => ?_
  have vw := m1.view r1
  split at q1
  · rename_i xs e
    rw [e] at vw
    obtain ⟨a, vs, rfl, ha, ra⟩ := vw
    exact ⟨a, vs, rfl, .of ha, new_lst m1 ra.reverse q1 (f.ext e1)⟩
  · exact q1.elim
/-- is, is not of bools -/
def wIsB (neg : Bool) : DO := fun x y M Q => match x, y with
  | .bl a, .bl b => Q (.bl (if neg then !decide (a = b) else decide (a = b))) M
  | _, _ => False
theorem ot_isB : OpT rIsB (wIsB false) := by
  intro M H F d1 d2 v1 v2 Q Qv m r1 r2 q f
  unfold wIsB at q
  split at q
  · cases r1; cases r2
    exact ⟨_, _, rfl, rfl, f.here (d := .bl _) m rfl q⟩
  · exact q.elim
theorem ot_notB : OpT rNotB (wIsB true) := by
  intro M H F d1 d2 v1 v2 Q Qv m r1 r2 q f
  unfold wIsB at q
  split at q
  · cases r1; cases r2
    exact ⟨_, _, rfl, rfl, f.here (d := .bl _) m rfl q⟩
  · exact q.elim
/-- *xs in a display or a call -/
def aStar (a : DE) (r : DA) : DA := fun ρ M Q => a ρ M fun x M1 => match nrm M1 x with
  | .lst xs => r ρ M1 fun ys M2 => Q (xs ++ ys) M2
  | .tup xs => r ρ M1 fun ys M2 => Q (xs ++ ys) M2
  | _ => False
theorem ta_star {K : PySem.W.Frag} {te : TE} {t : TA} {a : DE} {r : DA} (ha : Tr te a) (hr : TrA t r) : TrA (StX.tStar K te t) (aStar a r) := by
  intro ρ M σ H F Q Qv er m q f
  refine ha ρ M σ H F _ _ er m q fun d1 v1 M1 H1 F1 m1 e1 r1 q1 => ?_
  have vw := m1.view r1
  split at q1
  · rename_i xs e
    rw [e] at vw
    obtain ⟨a, vs, rfl, ha, ra⟩ := vw
    refine ⟨a, vs, rfl, .inr (.of ha), hr ρ M1 σ H1 F1 _ _ (er.mono e1.fs) m1 q1 fun ds ws M2 H2 F2 m2 e2 r2 q2 => ?_⟩
    exact f (xs ++ ds) _ _ _ _ m2 (e1.trans e2) ((RpL.mono e2.fs _ _ ra).append r2) q2
  · rename_i xs e
    rw [e] at vw
    obtain ⟨a, vs, rfl, ha, ra⟩ := vw
    refine ⟨a, vs, rfl, .inl (.of ha), hr ρ M1 σ H1 F1 _ _ (er.mono e1.fs) m1 q1 fun ds ws M2 H2 F2 m2 e2 r2 q2 => ?_⟩
    exact f (xs ++ ds) _ _ _ _ m2 (e1.trans e2) ((RpL.mono e2.fs _ _ ra).append r2) q2
  · exact q1.elim
/-! ### what is known of a def -/
structure Kn (P : Program) (w : World) (K : PySem.W.Frag) (mg : Str → Option Value) (base : Heap) (x : Str) (ps : List Str) (R : Ct) (k : Nat) (dvs : List V) (ds : List Value) (f : Addr) (fd : FuncData) : Prop where
  ok : FnG P w K mg base k f fd ps (spD R)
  m : mg x = some (.ref f)
  kp : PySem.W.keepIn K (.ref f) = true
  b : Binds K fd ps ds
  dv : Vals dvs ds
/-- keyword calls: n by position, m by name; idx: who comes where -/
def pick {α : Type} (n m : Nat) (idx : List Nat) (us ws : List α) : List α := if us.length = n ∧ ws.length = m then idx.filterMap fun i => (us ++ ws)[i]? else []
theorem pick_vals {n m : Nat} {vs zs : List V} {us ws : List Value} (r : Vals vs us) (r' : Vals zs ws) : ∀ idx, Vals (pick n m idx vs zs) (pick n m idx us ws) := by
  intro idx
  unfold pick
  rw [r.length, r'.length]
  split
  · have rr := r.append r'
    induction idx with
    | nil => exact .nil
    | cons i idx ih =>
      simp only [List.filterMap_cons]
      cases e : (vs ++ zs)[i]? with
      | none => rw [rr.none_of e]; exact ih
      | some x => obtain ⟨u, e1, r1⟩ := rr.get e; rw [e1]; exact .cons r1 ih
  · exact .nil
theorem pick_rp {F : Hp} {n m : Nat} {vs zs : List V} {us ws : List D} (r : RpL F us vs) (r' : RpL F ws zs) : ∀ idx, RpL F (pick n m idx us ws) (pick n m idx vs zs) := by
  intro idx
  unfold pick
  rw [r.length, r'.length]
  split
  · have rr := r.append r'
    induction idx with
    | nil => rfl
    | cons i idx ih =>
      simp only [List.filterMap_cons]
      cases e : (us ++ ws)[i]? with
      | none =>
        have : (vs ++ zs)[i]? = none := by
          rw [List.getElem?_eq_none_iff] at e ⊢
          rw [rr.length]; exact e
        rw [this]; exact ih
      | some x => obtain ⟨u, e1, r1⟩ := rr.get e; rw [e1]; exact ⟨u, _, rfl, r1, ih⟩
  · rfl
theorem kb_of {K : PySem.W.Frag} {x : Str} {st : Stmt} {f : Addr} {fd : FuncData} {ps ks : List Str} (n m : Nat) (idx : List Nat) (F : FnP K x st [] f fd) (hp : ps ≠ [])
    (h : ∀ (kV doc pm : Value) (an : Option Addr) (cdv ct : Value) (us ws : List Value), us.length = n → ws.length = m → bindArgs (PySem.W.fnOf x x (defArgs st) (defBody st) (defScope st) .none kV doc pm an cdv ct) ⟨us, ks.zip ws⟩ = pure (ps.zip (pick n m idx us ws))) :
    KBinds K fd ps ks (pick n m idx) (pick n m idx) := by
  obtain ⟨oc, od, dV, kV, doc, pm, an, cdv, ct, osl, rfl, lk, hcd, hD, hK⟩ := F.ex
  rcases hD with ⟨_, rfl⟩ | ⟨e, _⟩
  · refine ⟨fun s us ws X hl => ?_, fun r r' => pick_vals r r' _⟩
    by_cases c : us.length = n ∧ ws.length = m
    · exact .of_eq (h kV doc pm an cdv ct us ws c.1 c.2)
    · exfalso
      unfold pick at hl
      rw [if_neg c] at hl
      exact hp (List.length_eq_zero_iff.mp hl.symm)
  · exact absurd rfl e
theorem tr_callP {R : Ct} {n m : Nat} {idx : List Nat} {t tk : TA} {a b : DA} (ha : TrA t a) (hb : TrA tk b) : Tr (tCallK (spD R) (pick n m idx) E0 t tk) (wCallK R (pick n m idx) a b) :=
  tr_callK (fun _ _ _ _ _ r r' => pick_rp r r' idx) ha hb
theorem room66 {k : Nat} {A : Around} (r : Room k A) : A.units + 66 < cLine := by have := r.un; omega
theorem room65 {k : Nat} {A : Around} (r : Room k A) : A.units + 65 < cLine := by have := r.un; omega
section
variable {M : Mp}
theorem nrm_non : nrm M .non = .non := rfl
theorem nrm_bl {b : Bool} : nrm M (.bl b) = .bl b := rfl
theorem nrm_int {i : Int} : nrm M (.int i) = .int i := rfl
theorem nrm_str {x : Str} : nrm M (.str x) = .str x := rfl
theorem nrm_ty {n : String} : nrm M (.ty n) = .ty n := rfl
theorem nrm_lst {xs : List D} : nrm M (.lst xs) = .lst xs := rfl
theorem nrm_tupC {xs : List D} : nrm M (.tup xs) = .tup xs := rfl
theorem nrm_dct {ks : List Key} {xs : List D} : nrm M (.dct ks xs) = .dct ks xs := rfl
theorem nrm_scr {K : PySem.W.Frag} {xs : List D} : nrm M (.scr K xs) = .scr K xs := rfl
theorem nrm_refL {a : Addr} {xs : List D} (h : M a = some (.lst xs)) : nrm M (.ref a) = .lst xs := by show nrmA M a = _; unfold nrmA; rw [h]
theorem nrm_refD {a : Addr} {ks : List Key} {xs : List D} (h : M a = some (.dK ks xs)) : nrm M (.ref a) = .dct ks xs := by show nrmA M a = _; unfold nrmA; rw [h]
theorem tyN_non : tyN .non = some "NoneType" := rfl
theorem tyN_bl {b : Bool} : tyN (.bl b) = some "bool" := rfl
theorem tyN_int {b : Int} : tyN (.int b) = some "int" := rfl
theorem tyN_str {b : Str} : tyN (.str b) = some "str" := rfl
theorem tyN_lst {b : List D} : tyN (.lst b) = some "list" := rfl
theorem tyN_tup {b : List D} : tyN (.tup b) = some "tuple" := rfl
theorem tyN_dct {k : List Key} {b : List D} : tyN (.dct k b) = some "dict" := rfl
end
/-- kinds that isinstance is asked of -/
theorem nrm_ne {M : Mp} {x : D} {p : Addr} {m : MO} (h : x ≠ .ref p) : nrm (M.set p m) x = nrm M x := by
  cases x with
  | ref a =>
    have : a ≠ p := fun e => h (by rw [e])
    show nrmA (M.set p m) a = nrmA M a
    unfold nrmA
    rw [Mp.set_ne this]
  | _ => rfl
theorem isL_lst {M : Mp} {a : Addr} {xs : List D} (h : M a = some (.lst xs)) : isL M (.ref a) = true := by unfold isL; rw [nrm_refL h]
/-! ### comprehensions that leave the table as it is -/
theorem lc_fm {md : Md} {di : DI} {g : DG} {tt : DT} {te : DE} {vs : List Nat} {ρ : DEnv} {M : Mp} {Q : DK} {xs : List D} {P : Mp → Prop} (p : D → Bool) (f : D → D) (hi : ∀ R, R xs P M → di ρ M R) (hP : P M) (hz : Sz xs.length)
    (hs : ∀ x ∈ xs, ∀ (C1 : DK) (C0 : Mp → Prop), (p x = true → C1 (f x) M) → (p x = false → C0 M) → g x (wipeD ρ vs) M fun ρ2 M2 => tt ρ2 M2 fun b M3 => if b = true then te ρ2 M3 C1 else C0 M3)
    (hq : wNew md ((xs.filter p).map f) M Q) : wLc md di g tt te vs ρ M Q := by
  refine hi _ ⟨hz, fun i acc M' => acc = ((xs.take i).filter p).map f ∧ M' = M, ⟨rfl, rfl⟩, fun i acc M' _ h => h.2 ▸ hP, fun i x acc M' hx h => ?_, fun acc M' h => ?_⟩
  · obtain ⟨rfl, rfl⟩ := h
    have et : xs.take (i + 1) = xs.take i ++ [x] := by rw [List.take_add_one, hx]; rfl
    refine hs x (List.mem_of_getElem? hx) _ _ (fun hp => ⟨?_, rfl⟩) (fun hp => ⟨?_, rfl⟩)
    · rw [et, List.filter_append, List.map_append]; simp [hp]
    · rw [et, List.filter_append, List.map_append]; simp [hp]
  · obtain ⟨rfl, rfl⟩ := h
    rw [List.take_length]; exact hq
theorem lc_map {md : Md} {di : DI} {g : DG} {te : DE} {vs : List Nat} {ρ : DEnv} {M : Mp} {Q : DK} {xs : List D} {P : Mp → Prop} (f : D → D) (hi : ∀ R, R xs P M → di ρ M R) (hP : P M) (hz : Sz xs.length)
    (hs : ∀ x ∈ xs, ∀ (C : DK), C (f x) M → g x (wipeD ρ vs) M fun ρ2 M2 => te ρ2 M2 C)
    (hq : wNew md (xs.map f) M Q) : wLc md di g tYesD te vs ρ M Q := by
  refine lc_fm (fun _ => true) f hi hP hz (fun x hx C1 C0 h1 _ => hs x hx C1 (h1 rfl)) ?_
  rw [List.filter_eq_self.mpr (by simp)]; exact hq
/-- .. of ints, by ints -/
theorem lc_ints {md : Md} {di : DI} {g : DG} {te : DE} {vs : List Nat} {ρ : DEnv} {M : Mp} {Q : DK} {ns : List Int} {P : Mp → Prop} (f : Int → Int) (hi : ∀ R, R (ns.map D.int) P M → di ρ M R) (hP : P M) (hz : Sz ns.length)
    (hs : ∀ n ∈ ns, ∀ (C : DK), C (.int (f n)) M → g (.int n) (wipeD ρ vs) M fun ρ2 M2 => te ρ2 M2 C)
    (hq : wNew md ((ns.map f).map D.int) M Q) : wLc md di g tYesD te vs ρ M Q := by
  refine lc_map (fun d => match d with | .int n => .int (f n) | d => d) hi hP (by simpa using hz) (fun x hx C h => ?_) ?_
  · obtain ⟨n, hn, rfl⟩ := List.mem_map.mp hx
    exact hs n hn C h
  · have e : (ns.map D.int).map (fun d => match d with | .int n => D.int (f n) | d => d) = (ns.map f).map D.int := by
      rw [List.map_map, List.map_map]; rfl
    rw [e]; exact hq
/-- lo, lo + c, .. as ints -/
def rngI (lo c : Int) (n : Nat) : List Int := (List.range n).map fun i => lo + (i : Nat) * c
theorem rngD_ints {lo c : Int} {n : Nat} : rngD lo c n = (rngI lo c n).map D.int := by simp [rngD, rngI]
theorem rngI_length {lo c : Int} {n : Nat} : (rngI lo c n).length = n := by simp [rngI]
theorem drop_cons_of {ns : List Int} {i : Nat} {k : Int} (h : ns[i]? = some k) : ns.drop i = k :: ns.drop (i + 1) := by
  obtain ⟨h1, h2⟩ := List.getElem?_eq_some_iff.mp h
  rw [List.drop_eq_getElem_cons h1, h2]
theorem mem_rngI {n : Nat} {x : Int} : x ∈ rngI 0 1 n ↔ 0 ≤ x ∧ x < n := by
  simp only [rngI, List.mem_map, List.mem_range]
  constructor
  · rintro ⟨i, h, rfl⟩; omega
  · rintro ⟨h0, h1⟩; exact ⟨x.toNat, by omega, by omega⟩
theorem rngI_sorted {n : Nat} : (rngI 0 1 n).Pairwise (· ≤ ·) := by
  unfold rngI
  rw [List.pairwise_map]
  exact List.pairwise_le_range.imp fun h => by omega
theorem rngI_nodup {n : Nat} : (rngI 0 1 n).Nodup := by
  unfold rngI
  rw [List.nodup_iff_pairwise_ne, List.pairwise_map]
  exact List.nodup_range.imp fun h e => h (by omega)
/-! ### == of lists of ints -/
theorem toPDs_ints : ∀ ns : List Int, toPDs (ns.map D.int) = ns.map PyData.int
  | [] => rfl
  | n :: ns => by simp [toPDs, toPD, toPDs_ints ns]
theorem deq_ints {a b : List Int} : deq (.lst (a.map D.int)) (.lst (b.map D.int)) = decide (a = b) := by
  simp only [deq, toPD, toPDs_ints, PyData.eqv]
  induction a generalizing b with
  | nil => cases b <;> simp [PyData.eqvAll]
  | cons x xs ih =>
    cases b with
    | nil => simp [PyData.eqvAll]
    | cons y ys =>
      simp only [List.map_cons, PyData.eqvAll, PyData.eqv, ih]
      rw [Bool.eq_iff_iff]; simp
theorem canLay_ints : ∀ ns : List Int, PyData.canLayAll0 (ns.map PyData.int) = true
  | [] => rfl
  | n :: ns => by simp [PyData.canLayAll0, PyData.canLay0, canLay_ints ns]
theorem depth_ints : ∀ ns : List Int, PyData.depthAll (ns.map PyData.int) ≤ 1
  | [] => by simp [PyData.depthAll]
  | n :: ns => by have := depth_ints ns; simp only [List.map_cons, PyData.depthAll, PyData.depth]; omega
theorem pdOk_ints {a : List Int} : pdOk (.lst (a.map D.int)) = true := by
  simp only [pdOk, toPD, toPDs_ints, SeqAt.shaped, PyData.canLay0, canLay_ints, Bool.true_and, PyData.depth, decide_eq_true_eq]
  have := depth_ints a
  omega

/-! ### the table read as plain data, for an expression that gives a flat value -/
mutual
inductive Rs (M : Mp) : D → D → Prop
  | same (d : D) : Rs M d d
  | ref {a : Addr} {xs ys : List D} (h : M a = some (.lst xs)) (r : RsL M xs ys) : Rs M (.ref a) (.lst ys)
  | refD {a : Addr} {ks : List Key} {xs ys : List D} (h : M a = some (.dK ks xs)) (r : RsL M xs ys) : Rs M (.ref a) (.dct ks ys)
  | lst {xs ys : List D} (r : RsL M xs ys) : Rs M (.lst xs) (.lst ys)
  | tup {xs ys : List D} (r : RsL M xs ys) : Rs M (.tup xs) (.tup ys)
inductive RsL (M : Mp) : List D → List D → Prop
  | same (xs : List D) : RsL M xs xs
  | cons {x y : D} {xs ys : List D} (h : Rs M x y) (r : RsL M xs ys) : RsL M (x :: xs) (y :: ys)
end
mutual
theorem Rs.rp {M : Mp} {H F : Hp} (m : Mem M H F) : ∀ {d d' : D} {v : V}, Rs M d d' → Rp F d v → Rp H d' v
  | _, _, _, .same d, r => Rp.mono m.same d _ r
  | _, _, v, .ref (a := a) h rl, r => by
    have r : v = .ref a := r
    subst r
    obtain ⟨_, o, ho, vs, rfl, rr⟩ := m.mem a _ h
    exact ⟨a, vs, rfl, ho, RsL.rp m rl rr⟩
  | _, _, v, .refD (a := a) h rl, r => by
    have r : v = .ref a := r
    subst r
    obtain ⟨_, o, ho, kvs, rfl, hk, rr⟩ := m.mem a _ h
    exact ⟨a, kvs, rfl, ho, hk, RsL.rp m rl rr⟩
  | _, _, _, .lst rl, ⟨a, vs, e, f, r⟩ => ⟨a, vs, e, m.same _ _ f, RsL.rp m rl r⟩
  | _, _, _, .tup rl, ⟨a, vs, e, f, r⟩ => ⟨a, vs, e, m.same _ _ f, RsL.rp m rl r⟩
theorem RsL.rp {M : Mp} {H F : Hp} (m : Mem M H F) : ∀ {d d' : List D} {v : List V}, RsL M d d' → RpL F d v → RpL H d' v
  | _, _, _, .same d, r => RpL.mono m.same d _ r
  | _, _, _, .cons h rl, ⟨v, r, e, h1, h2⟩ => ⟨v, r, e, Rs.rp m h h1, RsL.rp m rl h2⟩
end
inductive RsE (M : Mp) : DEnv → DEnv → Prop
  | same (ρ : DEnv) : RsE M ρ ρ
  | cons {x y : D} {ρ ρ' : DEnv} (h : Rs M x y) (r : RsE M ρ ρ') : RsE M (some x :: ρ) (some y :: ρ')
  | skip {x : Option D} {ρ ρ' : DEnv} (r : RsE M ρ ρ') : RsE M (x :: ρ) (x :: ρ')
theorem RsE.env {M : Mp} {H F : Hp} (m : Mem M H F) : ∀ {ρ ρ' : DEnv} {σ : L2.St}, RsE M ρ ρ' → EnvR F ρ σ → EnvR H ρ' σ
  | _, _, _, .same ρ, r => r.mono m.same
  | _, _, σ, .cons (x := x) (y := y) (ρ := ρ) (ρ' := ρ') h rl, r => by
    have hl : σ.length = ρ.length + 1 := by simpa using r.len
    obtain ⟨v, e1, r1⟩ := r.at_ 0 x rfl
    cases σ with
    | nil => simp at e1
    | cons s σ =>
      have tl : EnvR F ρ σ := ⟨by simpa using hl, fun i d e => by simpa using r.at_ (i + 1) d (by simpa using e)⟩
      have ih := RsE.env m rl tl
      refine ⟨by have := ih.len; simp [this], fun i d e => ?_⟩
      cases i with
      | zero =>
        simp only [List.getElem?_cons_zero, Option.some.injEq] at e e1
        subst e
        exact ⟨v, by simpa using e1, Rs.rp m h r1⟩
      | succ i => simpa using ih.at_ i d (by simpa using e)
  | _, _, σ, .skip (x := x) (ρ := ρ) (ρ' := ρ') rl, r => by
    have hl : σ.length = ρ.length + 1 := by simpa using r.len
    cases σ with
    | nil => simp at hl
    | cons s σ =>
      have tl : EnvR F ρ σ := ⟨by simpa using hl, fun i d e => by simpa using r.at_ (i + 1) d (by simpa using e)⟩
      have ih := RsE.env m rl tl
      refine ⟨by have := ih.len; simp [this], fun i d e => ?_⟩
      cases i with
      | zero =>
        obtain ⟨v, e1, r1⟩ := r.at_ 0 d e
        exact ⟨v, e1, Rp.mono m.same _ _ r1⟩
      | succ i => simpa using ih.at_ i d (by simpa using e)
def M0 : Mp := fun _ => none
theorem Mem.all (H : Hp) : Mem M0 H H := ⟨.refl H, fun _ _ e => nomatch e⟩
theorem Ext.back {M M2 : Mp} {H F H2 F2 : Hp} (m : Mem M H F) (e : Ext M0 H H M2 H2 F2) : Mem M H2 F ∧ Ext M H F M H2 F :=
  ⟨⟨fun b o h => e.keep b o (m.same b o h) rfl, fun a q h => let ⟨h1, o, h2, h3⟩ := m.mem a q h; ⟨h1, o, e.keep a o h2 rfl, h3⟩⟩, ⟨.refl _, fun a o h _ => e.keep a o h rfl, fun _ h => .inl h, fun _ h => .inl h⟩⟩
def wSnap (w : DE) : DE := fun ρ M Q => ∃ ρ', RsE M ρ ρ' ∧ w ρ' M0 fun d _ => flatD d = true ∧ Q d M
theorem tr_snap {t : TE} {w : DE} (h : Tr t w) : Tr t (wSnap w) := by
  intro ρ M σ H F Q Qv er m q f
  obtain ⟨ρ', rs, q⟩ := q
  refine h ρ' M0 σ H H _ _ (rs.env m er) (Mem.all H) q fun d v M' H' F' m' e' r' q' => ?_
  obtain ⟨mb, eb⟩ := e'.back m
  refine f d v M H' F mb eb ?_ q'.2
  cases d <;> first | exact r' | cases q'.1
def tSnap (w : DT) : DT := fun ρ M Q => ∃ ρ', RsE M ρ ρ' ∧ w ρ' M0 fun d _ => Q d M
theorem tt_snap {t : TT} {w : DT} (h : TrT t w) : TrT t (tSnap w) := by
  intro ρ M σ H F Q Qv er m q f
  obtain ⟨ρ', rs, q⟩ := q
  refine h ρ' M0 σ H H _ _ (rs.env m er) (Mem.all H) q fun d M' H' F' m' e' q' => ?_
  obtain ⟨mb, eb⟩ := e'.back m
  exact f d M H' F mb eb q'
section
variable {P : Program} {w : World} {K : PySem.W.Frag} {mg : Str → Option Value} {base : Heap}
/-- a contract that promises nothing -/
theorem fnNever {f : Addr} {fd : FuncData} {ps : List Str} {R : Ct} {k : Nat} (h : ∀ ds M Q, ¬ R ds M Q) : FnG P w K mg base k f fd ps (spD R) :=
  ⟨fun ⟨ds, M, _, QD, _, _, r, _⟩ => (h ds M QD r).elim, fun _ _ _ _ _ ⟨ds, M, _, QD, _, _, r, _⟩ => (h ds M QD r).elim⟩
end
/-! ### plain data for comparing -/
theorem pdOk_bl (b : Bool) : pdOk (.bl b) = true := by simp [pdOk, toPD, SeqAt.shaped, PyData.canLay0, PyData.depth]
theorem pdOk_non : pdOk .non = true := by simp [pdOk, toPD, SeqAt.shaped, PyData.canLay0, PyData.depth]
theorem deq_bl (a b : Bool) : deq (.bl a) (.bl b) = (a == b) := by simp [deq, toPD, PyData.eqv]
theorem deq_refl {d : D} (h : pdOk d = true) : deq d d = true := SeqAt.eqv_refl _ (SeqAt.canLay_of_shaped h)
mutual
/-- data of at most that depth, no list too long -/
def okD : Nat → D → Bool
  | n + 1, .lst xs => decide (xs.length ≤ 16777216) && okDs n xs
  | n + 1, .tup xs => decide (xs.length ≤ 16777216) && okDs n xs
  | _ + 1, .int _ => true
  | _ + 1, .bl _ => true
  | _ + 1, .non => true
  | _ + 1, .str x => PyData.canLay0 (.str x)
  | _, _ => false
def okDs : Nat → List D → Bool
  | _, [] => true
  | n, x :: xs => okD n x && okDs n xs
end
theorem okDs_mem {n : Nat} : ∀ {xs : List D}, okDs n xs = true → ∀ x ∈ xs, okD n x = true
  | [], _, x, h => nomatch h
  | y :: ys, h, x, hx => by
    simp only [okDs, Bool.and_eq_true] at h
    rcases List.mem_cons.mp hx with rfl | hx
    · exact h.1
    · exact okDs_mem h.2 x hx
theorem okDs_all {n : Nat} : ∀ {xs : List D}, (∀ x ∈ xs, okD n x = true) → okDs n xs = true
  | [], _ => by simp [okDs]
  | y :: ys, h => by
    simp only [okDs, Bool.and_eq_true]
    exact ⟨h y (by simp), okDs_all fun x hx => h x (by simp [hx])⟩
theorem okD_ints {n : Nat} {ns : List Int} (h : ns.length ≤ 16777216) : okD (n + 2) (.lst (ns.map D.int)) = true := by
  simp only [okD, List.length_map, Bool.and_eq_true, decide_eq_true_iff]
  refine ⟨h, okDs_all fun x hx => ?_⟩
  obtain ⟨i, _, rfl⟩ := List.mem_map.mp hx
  simp [okD]
/-! ### forgetting entries of the table -/
def MLe (M' M : Mp) : Prop := ∀ a m, M' a = some m → M a = some m
def wFgt (w : DE) : DE := fun ρ M Q => w ρ M fun d M1 => ∃ M2, MLe M2 M1 ∧ Q d M2
theorem Mem.less {M M' : Mp} {H F : Hp} (m : Mem M H F) (l : MLe M' M) : Mem M' H F ∧ Ext M H F M' H F :=
  ⟨⟨m.same, fun a q e => m.mem a q (l a q e)⟩, ⟨.refl _, fun a o h _ => h, fun a h => by
    cases e : M' a with
    | none => exact absurd e h
    | some q => exact .inl (by rw [l a q e]; exact fun z => nomatch z), fun a h => .inl h⟩⟩
theorem tr_fgt {t : TE} {w : DE} (h : Tr t w) : Tr t (wFgt w) := by
  intro ρ M σ H F Q Qv er m q f
  refine h ρ M σ H F _ _ er m q fun d v M' H' F' m' e' r' q' => ?_
  obtain ⟨M2, l, q2⟩ := q'
  obtain ⟨m2, e2⟩ := m'.less l
  exact f d v M2 H' F' m2 (e'.trans e2) r' q2
theorem MLe.refl (M : Mp) : MLe M M := fun _ _ h => h
theorem MLe.set {M : Mp} {p : Addr} {m : MO} (h : M p = none) : MLe M (M.set p m) := fun a q e => by
  rw [Mp.set_ne (fun z => by subst z; rw [h] at e; cases e)]; exact e
theorem MLe.trans {M1 M2 M3 : Mp} (a : MLe M1 M2) (b : MLe M2 M3) : MLe M1 M3 := fun p q e => b p q (a p q e)
theorem MLe.set2 {M M' : Mp} {p : Addr} {m : MO} (h : MLe M M') : MLe (M.set p m) (M'.set p m) := fun a q e => by
  by_cases ha : a = p
  · subst ha; rw [Mp.set_same] at e ⊢; exact e
  · rw [Mp.set_ne ha] at e ⊢; exact h a q e
/-- the elder of two new ones is forgotten -/
theorem MLe.swap {M : Mp} {p r : Addr} {m m' : MO} (h : M p = none) : MLe (M.set r m') ((M.set p m).set r m') := MLe.set2 (MLe.set h)
theorem nrm_setL {M : Mp} {p : Addr} {xs : List D} : nrm (M.set p (.lst xs)) (.ref p) = .lst xs := nrm_refL Mp.set_same
/-! ### comprehensions of ints with a test; ranges -/
theorem lc_intsF {md : Md} {di : DI} {g : DG} {tt : DT} {te : DE} {vs : List Nat} {ρ : DEnv} {M : Mp} {Q : DK} {ns : List Int} {P : Mp → Prop} (p : Int → Bool) (f : Int → Int) (hi : ∀ R, R (ns.map D.int) P M → di ρ M R) (hP : P M) (hz : Sz ns.length)
    (hs : ∀ n ∈ ns, ∀ (C1 : DK) (C0 : Mp → Prop), (p n = true → C1 (.int (f n)) M) → (p n = false → C0 M) → g (.int n) (wipeD ρ vs) M fun ρ2 M2 => tt ρ2 M2 fun b M3 => if b = true then te ρ2 M3 C1 else C0 M3)
    (hq : wNew md (((ns.filter p).map f).map D.int) M Q) : wLc md di g tt te vs ρ M Q := by
  refine lc_fm (fun d => match d with | .int n => p n | _ => false) (fun d => match d with | .int n => .int (f n) | d => d) hi hP (by simpa using hz) (fun x hx C1 C0 h1 h0 => ?_) ?_
  · obtain ⟨n, hn, rfl⟩ := List.mem_map.mp hx
    exact hs n hn C1 C0 h1 h0
  · have e : ((ns.map D.int).filter (fun d => match d with | .int n => p n | _ => false)).map (fun d => match d with | .int n => D.int (f n) | d => d) = ((ns.filter p).map f).map D.int := by
      rw [List.filter_map, List.map_map, List.map_map]; rfl
    rw [e]; exact hq
/-- a comprehension over things that look like data -/
theorem lc_gen {α : Type} {md : Md} {di : DI} {g : DG} {tt : DT} {te : DE} {vs : List Nat} {ρ : DEnv} {M : Mp} {Q : DK} {P : Mp → Prop} (l : List α) (G : α → D) (p : α → Bool) (f : α → D) (hi : ∀ R, R (l.map G) P M → di ρ M R) (hP : P M) (hz : Sz l.length)
    (hs : ∀ x ∈ l, ∀ (C1 : DK) (C0 : Mp → Prop), (p x = true → C1 (f x) M) → (p x = false → C0 M) → g (G x) (wipeD ρ vs) M fun ρ2 M2 => tt ρ2 M2 fun b M3 => if b = true then te ρ2 M3 C1 else C0 M3)
    (hq : wNew md ((l.filter p).map f) M Q) : wLc md di g tt te vs ρ M Q := by
  refine hi _ ⟨by simpa using hz, fun i acc M' => acc = ((l.take i).filter p).map f ∧ M' = M, ⟨rfl, rfl⟩, fun i acc M' _ h => h.2 ▸ hP, fun i d acc M' hd h => ?_, fun acc M' h => ?_⟩
  · obtain ⟨rfl, rfl⟩ := h
    rw [List.getElem?_map] at hd
    obtain ⟨x, hx, rfl⟩ := Option.map_eq_some_iff.mp hd
    have et : l.take (i + 1) = l.take i ++ [x] := by rw [List.take_add_one, hx]; rfl
    refine hs x (List.mem_of_getElem? hx) _ _ (fun hp => ⟨?_, rfl⟩) (fun hp => ⟨?_, rfl⟩)
    · rw [et, List.filter_append, List.map_append]; simp [hp]
    · rw [et, List.filter_append, List.map_append]; simp [hp]
  · obtain ⟨rfl, rfl⟩ := h
    rw [List.length_map, List.take_length]; exact hq
/-- .. whose walk is found already -/
theorem comp_gen {α : Type} {md : Md} {g : DG} {tt : DT} {te : DE} {vs : List Nat} {ρ : DEnv} {M : Mp} {Q : DK} {P : Mp → Prop} {xs : List D} (l : List α) (G : α → D) (p : α → Bool) (f : α → D) (hx : xs = l.map G) (hP : P M) (hz : Sz l.length)
    (hs : ∀ x ∈ l, ∀ (C1 : DK) (C0 : Mp → Prop), (p x = true → C1 (f x) M) → (p x = false → C0 M) → g (G x) (wipeD ρ vs) M fun ρ2 M2 => tt ρ2 M2 fun b M3 => if b = true then te ρ2 M3 C1 else C0 M3)
    (hq : wNew md ((l.filter p).map f) M Q) : Sz xs.length ∧ ∃ W : Nat → List D → Mp → Prop, W 0 [] M ∧ (∀ i acc M, i ≤ xs.length → W i acc M → P M) ∧
      (∀ i x acc M, xs[i]? = some x → W i acc M → g x (wipeD ρ vs) M fun ρ2 M2 => tt ρ2 M2 fun b M3 => if b = true then te ρ2 M3 fun y M4 => W (i + 1) (acc ++ [y]) M4 else W (i + 1) acc M3) ∧ ∀ acc M, W xs.length acc M → wNew md acc M Q := by
  subst hx
  exact lc_gen (di := fun _ M Q => Q (l.map G) P M) l G p f (fun R h => h) hP hz hs hq
theorem enumD_rng {ns : List Int} : enumD (ns.map D.int) = (rngI 0 1 ns.length).map fun i => .tup [.int i, .int (ns.getD i.toNat 0)] := by
  apply List.ext_getElem?
  intro i
  by_cases h : i < ns.length
  · rw [enumD_get (d := .int ns[i]) (by rw [List.getElem?_map, List.getElem?_eq_getElem h]; rfl)]
    have e : (rngI 0 1 ns.length)[i]? = some (i : Int) := by
      unfold rngI
      rw [List.getElem?_map, List.getElem?_range h]
      simp
    rw [List.getElem?_map, e]
    simp [List.getD_eq_getElem?_getD, List.getElem?_eq_getElem h]
  · rw [List.getElem?_eq_none (by rw [enumD_length, List.length_map]; omega), List.getElem?_eq_none (by rw [List.length_map, rngI_length]; omega)]
/-- a comprehension over ints, by what holds after so many -/
theorem wLc_ints {md : Md} {di : DI} {g : DG} {tt : DT} {te : DE} {vs : List Nat} {ρ : DEnv} {M : Mp} {Q : DK} {ns : List Int} {P : Mp → Prop} (W : Nat → List D → Mp → Prop) (hi : ∀ R, R (ns.map D.int) P M → di ρ M R) (hz : Sz ns.length) (h0 : W 0 [] M) (hP : ∀ i acc M', i ≤ ns.length → W i acc M' → P M')
    (hs : ∀ i n acc M', ns[i]? = some n → W i acc M' → g (.int n) (wipeD ρ vs) M' fun ρ2 M2 => tt ρ2 M2 fun b M3 => if b = true then te ρ2 M3 fun y M4 => W (i + 1) (acc ++ [y]) M4 else W (i + 1) acc M3)
    (hq : ∀ acc M', W ns.length acc M' → wNew md acc M' Q) : wLc md di g tt te vs ρ M Q := by
  refine hi _ ⟨by simpa using hz, W, h0, fun i acc M' hl h => hP i acc M' (by simpa using hl) h, fun i x acc M' hx h => ?_, fun acc M' h => hq acc M' (by simpa using h)⟩
  rw [List.getElem?_map] at hx
  obtain ⟨n, hn, rfl⟩ := Option.map_eq_some_iff.mp hx
  exact hs i n acc M' hn h
/-- a comprehension that takes none, for what its test does -/
theorem lc_skip {md : Md} {di : DI} {g : DG} {tt : DT} {te : DE} {vs : List Nat} {ρ : DEnv} {M : Mp} {Q : DK} {ns : List Int} {P : Mp → Prop} (W : Nat → Mp → Prop) (hi : ∀ R, R (ns.map D.int) P M → di ρ M R) (hz : Sz ns.length) (h0 : W 0 M) (hP : ∀ i M', i ≤ ns.length → W i M' → P M')
    (hs : ∀ i n M', ns[i]? = some n → W i M' → ∀ (C1 : DK) (C0 : Mp → Prop), (∀ M2, W (i + 1) M2 → C0 M2) → g (.int n) (wipeD ρ vs) M' fun ρ2 M2 => tt ρ2 M2 fun b M3 => if b = true then te ρ2 M3 C1 else C0 M3)
    (hq : ∀ M', W ns.length M' → wNew md [] M' Q) : wLc md di g tt te vs ρ M Q := by
  refine hi _ ⟨by simpa using hz, fun i acc M' => acc = [] ∧ W i M', ⟨rfl, h0⟩, fun i acc M' hl h => hP i M' (by simpa using hl) h.2, fun i x acc M' hx h => ?_, fun acc M' h => ?_⟩
  · obtain ⟨rfl, h⟩ := h
    rw [List.getElem?_map] at hx
    obtain ⟨n, hn, rfl⟩ := Option.map_eq_some_iff.mp hx
    exact hs i n M' hn h _ _ fun M2 h2 => ⟨rfl, h2⟩
  · obtain ⟨rfl, h⟩ := h
    exact hq M' (by simpa using h)
theorem rngN_neg {i j c : Int} (hc : c < 0) (h : j ≤ i) : rngN i j c ≤ (i - j).toNat := by
  unfold rngN Builtin.Range.rangeSize
  rw [if_neg (by omega)]
  split
  · have : (i - j - 1) / -c ≤ i - j - 1 := ediv_le_self' (by omega) (by omega)
    omega
  · omega
theorem rngN_pos {i j c : Int} (hc : 0 < c) (h : i ≤ j) : rngN i j c ≤ (j - i).toNat := by
  unfold rngN Builtin.Range.rangeSize
  rw [if_pos (by omega)]
  split
  · have : (j - i - 1) / c ≤ j - i - 1 := ediv_le_self' (by omega) (by omega)
    omega
  · omega
theorem filter_len {α : Type} (p : α → Bool) (l : List α) : (l.filter p).length ≤ l.length := List.length_filter_le p l
/-- a loop over ints, by what holds after so many -/
theorem for_ints {di : DI} {g : DG} {tb : DS} {Dd : DEnds} {ρ : DEnv} {M : Mp} {ns : List Int} {P : Mp → Prop} (W : Nat → DEnv → Mp → Prop) (hi : ∀ R, R (ns.map D.int) P M → di ρ M R) (h0 : W 0 ρ M) (hP : ∀ i ρ M, i ≤ ns.length → W i ρ M → P M)
    (hs : ∀ i n ρ M, ns[i]? = some n → W i ρ M → g (.int n) ρ M fun ρ1 M1 => tb { Dd with nx := W (i + 1), ct := W (i + 1), bk := Dd.nx } ρ1 M1) (he : ∀ ρ M, W ns.length ρ M → Dd.nx ρ M) : sFor di g tb Dd ρ M := by
  refine hi _ ⟨W, h0, fun i ρ M hi w => hP i ρ M (by simpa using hi) w, fun i x ρ M hx w => ?_, fun ρ M w => he ρ M (by simpa using w)⟩
  rw [List.getElem?_map] at hx
  obtain ⟨n, hn, rfl⟩ := Option.map_eq_some_iff.mp hx
  exact hs i n ρ M hn w
theorem for_of {di : DI} {g : DG} {tb : DS} {Dd : DEnds} {ρ : DEnv} {M : Mp} {xs : List D} {P : Mp → Prop} (W : Nat → DEnv → Mp → Prop) (hi : ∀ R, R xs P M → di ρ M R) (h0 : W 0 ρ M) (hP : ∀ i ρ M, i ≤ xs.length → W i ρ M → P M)
    (hs : ∀ i x ρ M, xs[i]? = some x → W i ρ M → g x ρ M fun ρ1 M1 => tb { Dd with nx := W (i + 1), ct := W (i + 1), bk := Dd.nx } ρ1 M1) (he : ∀ ρ M, W xs.length ρ M → Dd.nx ρ M) : sFor di g tb Dd ρ M := hi _ ⟨W, h0, hP, hs, he⟩
theorem rngI_get {lo c : Int} {n i : Nat} {x : Int} (h : (rngI lo c n)[i]? = some x) : i < n ∧ x = lo + (i : Nat) * c := by
  unfold rngI at h
  rw [List.getElem?_map] at h
  obtain ⟨j, hj, rfl⟩ := Option.map_eq_some_iff.mp h
  obtain ⟨h1, h2⟩ := List.getElem?_eq_some_iff.mp hj
  simp only [List.getElem_range] at h2
  subst h2
  exact ⟨by simpa using h1, rfl⟩
theorem MLe.put {M M' : Mp} {p : Addr} {m : MO} (l : MLe M M') (h : M p = none) : MLe M (M'.set p m) := fun a q e => by
  rw [Mp.set_ne (fun z => by subst z; rw [h] at e; cases e)]; exact l a q e
theorem MLe.del {M M' : Mp} {p : Addr} (l : MLe M M') (h : M p = none) : MLe M (M'.del p) := fun a q e => by
  rw [Mp.del_ne (fun z => by subst z; rw [h] at e; cases e)]; exact l a q e
theorem MLe.none {M M' : Mp} {p : Addr} (l : MLe M M') (h : M' p = none) : M p = none := by
  cases e : M p with
  | none => rfl
  | some q => rw [l p q e] at h; cases h
theorem Mp.swap {M : Mp} {p q : Addr} {a b : MO} (h : p ≠ q) : (M.set p a).set q b = (M.set q b).set p a := by
  funext x
  by_cases h1 : x = p
  · subst h1; rw [Mp.set_ne h, Mp.set_same, Mp.set_same]
  · rw [Mp.set_ne (M := M.set q b) h1]
    by_cases h2 : x = q
    · subst h2; rw [Mp.set_same, Mp.set_same]
    · rw [Mp.set_ne h2, Mp.set_ne h1, Mp.set_ne h2]
theorem Mp.set_in {M : Mp} {p q : Addr} {a b c : MO} (h : p ≠ q) : ((M.set p a).set q b).set p c = (M.set p c).set q b := by
  rw [Mp.swap h, Mp.set_set, Mp.swap h.symm]
theorem Mp.ne {M : Mp} {p q : Addr} {m : MO} (h : M p = none) (h' : M q = some m) : q ≠ p := fun z => by subst z; rw [h] at h'; cases h'
/-! ### lists -/
theorem nodup_sub {α : Type} [DecidableEq α] : ∀ {l m : List α}, l.Nodup → (∀ x ∈ l, x ∈ m) → l.length ≤ m.length
  | [], _, _, _ => Nat.zero_le _
  | x :: l, m, h, s => by
    have h1 := List.nodup_cons.mp h
    have hx := s x (by simp)
    have ih := nodup_sub (l := l) (m := m.erase x) h1.2 fun y hy => by
      have hne : y ≠ x := fun e => h1.1 (e ▸ hy)
      exact (List.mem_erase_of_ne hne).mpr (s y (by simp [hy]))
    rw [List.length_erase_of_mem hx] at ih
    have : 0 < m.length := List.length_pos_of_mem hx
    simp only [List.length_cons]
    omega
theorem nodup_below {n : Nat} {l : List Int} (h : l.Nodup) (b : ∀ x ∈ l, 0 ≤ x ∧ x < n) : l.length ≤ n := by
  have := nodup_sub (m := rngI 0 1 n) h fun x hx => mem_rngI.mpr (b x hx)
  rwa [rngI_length] at this
/-! ### dicts of ints -/
theorem look_isSome {k : Int} : ∀ {ks : List Int} {xs : List D}, xs.length = ks.length → (look (ks.map Sum.inl) xs (.inl k)).isSome = decide (k ∈ ks)
  | [], xs, h => by cases xs <;> simp [look]
  | j :: ks, [], h => by simp at h
  | j :: ks, x :: xs, h => by
    simp only [List.map_cons, look, List.mem_cons]
    by_cases e : j = k
    · subst e; simp
    · have : ¬ (Sum.inl j : Key) = .inl k := fun z => e (Sum.inl.inj z)
      rw [if_neg this, look_isSome (by simpa using h)]
      have e' : ¬ k = j := fun z => e z.symm
      simp [e']
theorem putKs_new {k : Int} {ks : List Int} (h : k ∉ ks) : putKs (ks.map Sum.inl) (.inl k) = (ks ++ [k]).map Sum.inl := by
  unfold putKs
  rw [if_neg]
  · simp
  · simp only [List.any_map, List.any_eq_true, not_exists, not_and]
    intro x hx
    simp only [Function.comp, decide_eq_true_eq]
    intro e; exact h (Sum.inl.inj e ▸ hx)
theorem putXs_new {k : Int} {ks : List Int} {xs : List D} {d : D} (h : k ∉ ks) : putXs (ks.map Sum.inl) xs (.inl k) d = xs ++ [d] := by
  unfold putXs
  rw [if_neg]
  simp only [List.any_map, List.any_eq_true, not_exists, not_and]
  intro x hx
  simp only [Function.comp, decide_eq_true_eq]
  intro e; exact h (Sum.inl.inj e ▸ hx)
theorem atI_int {ns : List Int} {i : Int} (h0 : 0 ≤ i) (h1 : i < ns.length) : atI (ns.map D.int) i = some (.int (ns.getD i.toNat 0)) := by
  unfold atI ixN
  rw [List.length_map, if_pos h0, if_pos h1]
  simp only [Option.bind_some]
  rw [List.getElem?_map, List.getD_eq_getElem?_getD, List.getElem?_eq_getElem (by omega)]
  rfl
theorem atI_last {ns : List Int} (h : 0 < ns.length) : atI (ns.map D.int) (-1) = some (.int (ns.getD (ns.length - 1) 0)) := by
  unfold atI ixN
  rw [List.length_map, if_neg (by omega), if_pos (by omega)]
  simp only [Option.bind_some]
  rw [List.getElem?_map, List.getD_eq_getElem?_getD, show (-1 + (ns.length : Int)).toNat = ns.length - 1 by omega, List.getElem?_eq_getElem (by omega)]
  rfl
theorem gAppend_ok {xs : List D} {x : D} (h : xs.length < 16777216) : gAppend xs [x] = some (.non, xs ++ [x]) := if_pos h
theorem gInsert_ok {xs : List D} {x : D} {i : Int} (h : xs.length < 16777216) (h0 : 0 ≤ i) (h1 : i < 2 ^ 63) : gInsert xs [.int i, x] = some (.non, xs.take i.toNat ++ [x] ++ xs.drop i.toNat) := if_pos ⟨h, h0, h1⟩
theorem asg_step {e : DE} {i : Nat} {rest : DS} {Dd : DEnds} {ρ : DEnv} {M M' : Mp} (v : D) (h : ∀ Q : DK, Q v M' → e ρ M Q) (k : rest Dd (ρ.set i (some v)) M') : sSeq (sAsg e (dName i)) rest Dd ρ M := h _ k
theorem seq_mid {a b : DS} {Dd : DEnds} {ρ : DEnv} {M : Mp} (W : DEnv → Mp → Prop) (key : ∀ nx : DEnv → Mp → Prop, (∀ ρ' M', W ρ' M' → nx ρ' M') → a { Dd with nx := nx } ρ M) (k : ∀ ρ' M', W ρ' M' → b Dd ρ' M') : sSeq a b Dd ρ M := key _ k
theorem frz_new {M : Mp} {p : Addr} {xs : List D} {C : DK} (h : M p = none) (c : C (.lst xs) M) : wFrzK C (.ref p) (M.set p (.lst xs)) := by
  simp only [wFrzK, Mp.set_same, Mp.set_del h]
  exact c
theorem keyD_int {i : Int} : keyD (.int i) = some (.inl i) := rfl
theorem keyD_str {i : Str} : keyD (.str i) = some (.inr i) := rfl
theorem pdOk_nil : pdOk (.lst []) = true := pdOk_ints (a := [])
theorem deq_nil {a : List Int} : deq (.lst (a.map D.int)) (.lst []) = decide (a = []) := deq_ints (b := [])
section
variable {α : Type} {x y z u : α} {xs : List α} {n : Nat}
theorem atI0 : atI (x :: xs) 0 = some x := atI_nat (j := 0) rfl
theorem atI1 : atI (x :: y :: xs) 1 = some y := atI_nat (j := 1) rfl
theorem atI2 : atI (x :: y :: z :: xs) 2 = some z := atI_nat (j := 2) rfl
theorem atI3 : atI (x :: y :: z :: u :: xs) 3 = some u := atI_nat (j := 3) rfl
theorem ixN0 : ixN (n + 1) 0 = some 0 := by unfold ixN; rw [if_pos (by omega), if_pos (by omega)]; rfl
theorem ixN1 : ixN (n + 2) 1 = some 1 := by unfold ixN; rw [if_pos (by omega), if_pos (by omega)]; rfl
theorem ixN2 : ixN (n + 3) 2 = some 2 := by unfold ixN; rw [if_pos (by omega), if_pos (by omega)]; rfl
theorem ixN3 : ixN (n + 4) 3 = some 3 := by unfold ixN; rw [if_pos (by omega), if_pos (by omega)]; rfl
end

def wholeD : D → Bool
  | .int _ => true
  | _ => false
def countD (l : Int) : D → Bool
  | .int i => decide (max l 0 ≤ i)
  | _ => false
/-- a list is a move of n cards -/
def isMoveD (n : Int) (xs : List D) : Bool := match intsD xs with
  | some ns => ns.isPerm (rngI 0 1 n.toNat) && decide (0 ≤ n)
  | none => false
theorem sorted_same {a b : List Int} (h : a.Perm b) (ha : a.Pairwise (· ≤ ·)) (hb : b.Pairwise (· ≤ ·)) : a = b :=
  h.eq_of_pairwise (fun x y _ _ h1 h2 => Int.le_antisymm h1 h2) ha hb
theorem counts_ints {l : Int} : ∀ {xs : List D}, xs.all (countD l) = true → ∃ ns : List Int, xs = ns.map D.int ∧ ∀ n ∈ ns, max l 0 ≤ n
  | [], _ => ⟨[], rfl, by simp⟩
  | x :: xs, h => by
    simp only [List.all_cons, Bool.and_eq_true] at h
    obtain ⟨ns, rfl, h2⟩ := counts_ints h.2
    cases x with
    | int i =>
      refine ⟨i :: ns, rfl, fun n hn => ?_⟩
      rcases List.mem_cons.mp hn with rfl | hn
      · exact of_decide_eq_true h.1
      · exact h2 n hn
    | _ => simp [countD] at h
/-- a purse: what is left of a great number, a seed, turns (at most B), a place -/
def PurseOk (B : Int) (xs : List D) : Prop := ∃ a b c e : Int, xs = [.int a, .int b, .int c, .int e] ∧ 0 ≤ a ∧ (0 ≤ b ∧ b < 2147483629) ∧ (0 ≤ c ∧ c ≤ B) ∧ (0 ≤ e ∧ e < 1000)
theorem PurseOk.mono {B C : Int} {xs : List D} (h : PurseOk B xs) (l : B ≤ C) : PurseOk C xs := by
  obtain ⟨a, b, c, e, h1, h2, h3, h4, h5⟩ := h
  exact ⟨a, b, c, e, h1, h2, h3, by omega, h5⟩
theorem cut_ints (ns : List Int) (a b : Option Int) : cutD (ns.map D.int) a b = (cutD ns a b).map D.int := by
  unfold cutD
  rw [List.length_map, List.map_take, List.map_drop]
theorem cut_mid {α : Type} {xs : List α} (h : 1 < xs.length) : (cutD xs (some 1) (some (-1))).length = xs.length - 2 := by
  have e1 : HT.sIx xs.length 0 (some 1) = 1 := by rw [show (some 1 : Option Int) = some ((1 : Nat) : Int) from rfl, HT.sIx_nat]; omega
  have e2 : HT.sIx xs.length xs.length (some (-1)) = xs.length - 1 := by show (if (-1 : Int) < 0 then ((-1 : Int) + (xs.length : Int)).toNat else min (-1 : Int).toNat xs.length) = _; rw [if_pos (by omega)]; omega
  unfold cutD
  rw [e1, e2, List.length_take, List.length_drop]
  omega
theorem okD_L {n : Nat} {xs : List D} (h : xs.length ≤ 16777216) (h2 : okDs n xs = true) : okD (n + 1) (.lst xs) = true := by
  simp only [okD, Bool.and_eq_true, decide_eq_true_iff]; exact ⟨h, h2⟩
theorem okD_T {n : Nat} {xs : List D} (h : xs.length ≤ 16777216) (h2 : okDs n xs = true) : okD (n + 1) (.tup xs) = true := by
  simp only [okD, Bool.and_eq_true, decide_eq_true_iff]; exact ⟨h, h2⟩
theorem okDs_nil {n : Nat} : okDs n [] = true := by simp [okDs]
theorem okDs_cons {n : Nat} {x : D} {xs : List D} (h : okD n x = true) (h2 : okDs n xs = true) : okDs n (x :: xs) = true := by
  simp only [okDs, Bool.and_eq_true]; exact ⟨h, h2⟩
/-- a law over its script -/
theorem law_end {K : PySem.W.Frag} {H : Hp} {a : Addr} {ns : List Int} {R : Ct} {E : XK} (hS : SqL K H a (ns.map V.int)) (hR : ∀ Q : DK, (∀ M', Q (.bl true) M') → R [.scr K (ns.map .int)] M0 Q) : spD R [.ref a] H (fun v _ => v = .bl true) E := by
  refine ⟨[.scr K (ns.map .int)], M0, H, fun d _ => d = .bl true, Mem.all H, ⟨_, _, rfl, ⟨a, _, rfl, hS, RpL.of_ints⟩, rfl⟩, hR _ (fun _ => rfl), ?_⟩
  intro d v M' H' F' m e r q
  subst q
  exact r
theorem tyN_ints {ms : List Int} : ∀ x ∈ ms.map D.int, (tyN x).isSome = true := by
  intro x hx
  obtain ⟨i, _, rfl⟩ := List.mem_map.mp hx
  rfl
theorem isMoveD_perm {ns : List Int} (h : ns.Perm (rngI 0 1 ns.length)) : isMoveD ns.length (ns.map .int) = true := by
  unfold isMoveD
  rw [ints_map]
  simp only [Bool.and_eq_true, List.isPerm_iff, decide_eq_true_iff]
  exact ⟨by simpa using h, by omega⟩
theorem zip_self (xs : List D) : zipD xs xs = xs.map fun x => .tup [x, x] := by
  induction xs with
  | nil => rfl
  | cons x xs ih => simpa [zipD] using ih
theorem bools_trues : ∀ xs : List D, bools (xs.map fun _ => .bl true) = some (xs.map fun _ => true)
  | [] => rfl
  | x :: xs => by simp [bools, bools_trues xs]
theorem pdOk_str {n : Nat} {x : Str} (h : okD (n + 1) (.str x) = true) : pdOk (.str x) = true := by
  have h : PyData.canLay0 (.str x) = true := h
  simp [pdOk, toPD, SeqAt.shaped, h, PyData.depth]
/-- a pack: unlike cards -/
def PackOk (ns : List Int) : Prop := (∀ n ∈ ns, 0 ≤ n) ∧ ns.Nodup ∧ ns.length ≤ 4000
def movedI (ns ms : List Int) : List Int := ms.map fun m => ns.getD m.toNat 0
theorem movedI_length {ns ms : List Int} : (movedI ns ms).length = ms.length := List.length_map ..
theorem cut_take {α : Type} {xs : List α} {b : Int} (h : 0 ≤ b) : cutD xs none (some b) = xs.take b.toNat := by
  obtain ⟨k, rfl⟩ := Int.eq_ofNat_of_zero_le h
  unfold cutD
  rw [HT.sIx_none, HT.sIx_nat]
  simp only [Nat.sub_zero, List.drop_zero]
  show xs.take (min k xs.length) = xs.take k
  rw [Nat.min_comm, ← List.take_take]
  exact List.take_of_length_le (by rw [List.length_take]; omega)
theorem cut_drop {α : Type} {xs : List α} {b : Int} (h : 0 ≤ b) : cutD xs (some b) none = xs.drop b.toNat := by
  obtain ⟨k, rfl⟩ := Int.eq_ofNat_of_zero_le h
  unfold cutD
  rw [HT.sIx_none, HT.sIx_nat]
  show (xs.drop (min k xs.length)).take (xs.length - min k xs.length) = xs.drop k
  rw [List.take_of_length_le (by rw [List.length_drop]; omega)]
  by_cases c : k ≤ xs.length
  · rw [Nat.min_eq_left c]
  · rw [Nat.min_eq_right (by omega), List.drop_length, List.drop_of_length_le (by omega)]
theorem rngI_getD {lo : Int} {n i : Nat} (h : i < n) : (rngI lo 1 n).getD i 0 = lo + i := by
  unfold rngI
  rw [List.getD_eq_getElem?_getD, List.getElem?_map, List.getElem?_range h]
  simp
theorem movedI_append {ns a b : List Int} : movedI ns (a ++ b) = movedI ns a ++ movedI ns b := List.map_append ..
theorem movedI_reverse {ns a : List Int} : movedI ns a.reverse = (movedI ns a).reverse := List.map_reverse ..
/-- places one after another -/
theorem movedI_rng {ns : List Int} {a k : Nat} (h : a + k ≤ ns.length) : movedI ns (rngI a 1 k) = (ns.drop a).take k := by
  apply List.ext_getElem
  · rw [movedI_length, rngI_length, List.length_take, List.length_drop]; omega
  · intro i h1 h2
    rw [movedI_length, rngI_length] at h1
    simp only [movedI, rngI, List.getElem_map, List.getElem_range, List.getElem_take, List.getElem_drop]
    rw [show ((a : Int) + (i : Nat) * 1).toNat = a + i by omega, List.getD_eq_getElem?_getD, List.getElem?_eq_getElem (by omega)]
    rfl
theorem cutI_def {n a : Nat} (h : a ≤ n) : rngI a 1 ((n : Int) - a).toNat ++ rngI 0 1 (a : Int).toNat = rngI a 1 (n - a) ++ rngI ((0 : Nat) : Int) 1 a := by
  rw [show ((n : Int) - a).toNat = n - a by omega]; rfl
theorem moved_cut {ns : List Int} {a : Nat} (h : a ≤ ns.length) : movedI ns (rngI a 1 ((ns.length : Int) - a).toNat ++ rngI 0 1 (a : Int).toNat) = ns.drop a ++ ns.take a := by
  rw [cutI_def h, movedI_append, movedI_rng (by omega), movedI_rng (by omega), List.drop_zero, List.take_of_length_le (by rw [List.length_drop]; omega)]
theorem moved_about {ns : List Int} {a : Nat} (h : a ≤ ns.length) : movedI ns ((rngI 0 1 (a : Int).toNat).reverse ++ rngI a 1 ((ns.length : Int) - a).toNat) = (ns.take a).reverse ++ ns.drop a := by
  rw [movedI_append, movedI_reverse, show ((ns.length : Int) - a).toNat = ns.length - a by omega, show rngI 0 1 (a : Int).toNat = rngI ((0 : Nat) : Int) 1 a from rfl, movedI_rng (by omega), movedI_rng (by omega), List.drop_zero, List.take_of_length_le (l := ns.drop a) (by rw [List.length_drop]; omega)]
theorem moved_rest {ns : List Int} {p : Int → Bool} {is : List Int} : movedI ns (is.filter p) = (is.filter p).map fun m => ns.getD m.toNat 0 := rfl
theorem any_int {zs : List Int} {e : Int} : (zs.map D.int).any (fun z => deq z (.int e)) = decide (e ∈ zs) := by
  rw [Bool.eq_iff_iff, List.any_map, List.any_eq_true, decide_eq_true_iff]
  constructor
  · rintro ⟨x, hx, h⟩
    have h : deq (.int x) (.int e) = true := h
    rw [deq_int, decide_eq_true_iff] at h
    exact h ▸ hx
  · intro h
    refine ⟨e, h, ?_⟩
    show deq (.int e) (.int e) = true
    rw [deq_int, decide_eq_true_iff]
theorem drop_facts {ps : List Addr} {i : Nat} {p : Addr} (hp : ps[i]? = some p) (hnd : ps.Nodup) : p ∈ ps.drop i ∧ ∀ r ∈ ps.drop (i + 1), r ∈ ps.drop i ∧ r ≠ p := by
  obtain ⟨h1, h2⟩ := List.getElem?_eq_some_iff.mp hp
  have hnd' := (List.drop_sublist i ps).nodup hnd
  rw [List.drop_eq_getElem_cons h1, h2] at hnd' ⊢
  refine ⟨by simp, fun r hr => ⟨List.mem_cons_of_mem _ hr, ?_⟩⟩
  rintro rfl
  exact (List.nodup_cons.mp hnd').1 hr
theorem flat_one {α : Type} (x : α) : ∀ n, (List.replicate n [x]).flatten = List.replicate n x
  | 0 => rfl
  | n + 1 => by rw [List.replicate_succ, List.flatten_cons, flat_one x n]; rfl
theorem zipD_ints {ns xs : List Int} : zipD (ns.map D.int) (xs.map D.int) = (ns.zip xs).map fun p => .tup [.int p.1, .int p.2] := by
  unfold zipD
  rw [List.zip_map, List.map_map]; rfl
theorem exists_max : ∀ {cs : List Int}, cs ≠ [] → ∃ k, k ∈ cs ∧ ∀ y ∈ cs, y ≤ k
  | [], h => absurd rfl h
  | [c], _ => ⟨c, by simp, by simp⟩
  | c :: d :: cs, _ => by
    obtain ⟨k, hk, hm⟩ := exists_max (cs := d :: cs) (by simp)
    by_cases h : c ≤ k
    · exact ⟨k, by simp only [List.mem_cons] at hk ⊢; exact .inr hk, fun y hy => by rcases List.mem_cons.mp hy with rfl | hy; exact h; exact hm y hy⟩
    · exact ⟨c, by simp, fun y hy => by rcases List.mem_cons.mp hy with rfl | hy; omega; have := hm y hy; omega⟩
theorem sum_le_of {cs : List Int} {k : Int} (h : ∀ y ∈ cs, y ≤ k) (hk : k ≤ 0) : cs.sum ≤ 0 := by
  induction cs with
  | nil => simp
  | cons c cs ih =>
    rw [List.sum_cons]
    have := h c (by simp)
    have := ih fun y hy => h y (by simp [hy])
    omega
theorem sum_range_one {n : Nat} {k : Int} (h0 : 0 ≤ k) (h1 : k < n) : ((List.range n).map fun b : Nat => if k = (b : Int) then (1 : Int) else 0).sum = 1 := by
  have key : ∀ m : Nat, ((List.range m).map fun b : Nat => if k = (b : Int) then (1 : Int) else 0).sum = if k < m then 1 else 0 := by
    intro m
    induction m with
    | zero => rw [if_neg (by omega)]; rfl
    | succ m ih =>
      rw [List.range_succ, List.map_append, List.sum_append, ih]
      simp only [List.map_cons, List.map_nil, List.sum_cons, List.sum_nil]
      by_cases c : k = m
      · rw [if_neg (by omega), if_pos c, if_pos (by omega)]; rfl
      · by_cases d : k < m
        · rw [if_pos d, if_neg c, if_pos (by omega)]; rfl
        · rw [if_neg d, if_neg c, if_neg (by omega)]; rfl
  rw [key, if_pos h1]
theorem sum_map_add {α : Type} (l : List α) (f g : α → Int) : (l.map fun x => f x + g x).sum = (l.map f).sum + (l.map g).sum := by
  induction l with
  | nil => rfl
  | cons x l ih => simp only [List.map_cons, List.sum_cons, ih]; omega
def lcut (ns : List Int) (k : Nat) : List Int := ns.drop k ++ ns.take k
theorem lcut_length {ns : List Int} {k : Nat} : (lcut ns k).length = ns.length := by
  unfold lcut
  rw [List.length_append, List.length_drop, List.length_take]; omega
theorem lcut_perm {ns : List Int} {k : Nat} : (lcut ns k).Perm ns := by
  unfold lcut
  refine List.perm_append_comm.trans ?_
  rw [List.take_append_drop]
theorem lcut_get {l : List Int} {i b : Nat} (hi : i < l.length) (hb : b ≤ l.length) : (lcut l b)[i]? = l[(i + b) % l.length]? := by
  unfold lcut
  by_cases h : i < l.length - b
  · rw [List.getElem?_append_left (by rw [List.length_drop]; omega), List.getElem?_drop, Nat.mod_eq_of_lt (by omega), Nat.add_comm]
  · rw [List.getElem?_append_right (by rw [List.length_drop]; omega), List.length_drop, List.getElem?_take, if_pos (by omega), Nat.mod_eq_sub_mod (by omega), Nat.mod_eq_of_lt (by omega)]
    congr 1
    omega
theorem lcut_lcut {l : List Int} {a u : Nat} (ha : a ≤ l.length) (hu : u < l.length) : lcut (lcut l a) u = lcut l ((a + u) % l.length) := by
  have h0 : 0 < l.length := by omega
  apply List.ext_getElem?
  intro i
  by_cases hi : i < l.length
  · rw [lcut_get (by rw [lcut_length]; exact hi) (by rw [lcut_length]; omega), lcut_length, lcut_get (Nat.mod_lt _ h0) ha, lcut_get hi (Nat.le_of_lt (Nat.mod_lt _ h0)), Nat.mod_add_mod, Nat.add_mod_mod]
    congr 2
    omega
  · rw [List.getElem?_eq_none (by rw [lcut_length, lcut_length]; omega), List.getElem?_eq_none (by rw [lcut_length]; omega)]
theorem lcut_out {l : List Int} {b : Nat} (hb : b < l.length) : lcut l b = l.getD b 0 :: lcut (l.take b ++ l.drop (b + 1)) b := by
  have h1 : (l.take b).length = b := by rw [List.length_take]; omega
  have e1 : (l.take b ++ l.drop (b + 1)).drop b = l.drop (b + 1) := by rw [List.drop_append_of_le_length (by omega), List.drop_of_length_le (by omega), List.nil_append]
  have e2 : (l.take b ++ l.drop (b + 1)).take b = l.take b := by rw [List.take_append_of_le_length (by omega), List.take_of_length_le (by omega)]
  unfold lcut
  rw [e1, e2, List.drop_eq_getElem_cons hb, List.getD_eq_getElem?_getD, List.getElem?_eq_getElem hb]
  rfl
theorem sz0 : Sz 0 := by unfold Sz; omega
theorem bits_le {m : Int} (h0 : 0 < m) (h1 : m < 2 ^ 83) : Builtin.Int.intBits m ≤ 83 := PyProof.Rows.intBits_le (show m.natAbs < 2 ^ 83 by omega)
theorem log_le {m : Int} (h0 : 0 < m) (h1 : m < 2 ^ 83) : m.natAbs.log2 < 9000 := by
  have : m.natAbs.log2 < 83 := (Nat.log2_lt (by omega)).mpr (by omega)
  omega

/-! ### len(set(xs)): unlike ints -/
def wLenSet (a : DE) : DE := fun ρ M Q => a ρ M fun x M1 => match nrm M1 x with
  | .lst xs => match intsD xs with
    | some ns => (ns.Nodup ∧ ns.length ≤ 4000) ∧ Q (.int ns.length) M1
    | none => False
  | _ => False
theorem tr_lenSet {K : PySem.W.Frag} {t : TE} {a : DE} (h : Tr t a) : Tr (RZ.tLenSetI K t) (wLenSet a) := by
  intro ρ M σ H F Q Qv er m q f
  refine h ρ M σ H F _ _ er m q fun d1 v1 M1 H1 F1 m1 e1 r1 q1 => ?_
  have vw := m1.view r1
  split at q1
  · rename_i xs e
    rw [e] at vw
    obtain ⟨a, ws, rfl, ha, ra⟩ := vw
    split at q1
    · rename_i bs eb
      have e2 := ints_eq eb
      subst e2
      rw [ra.ints] at ha
      exact ⟨a, bs, rfl, .of ha, q1.1.1, q1.1.2, f (.int _) _ _ _ _ m1 e1 rfl q1.2⟩
    · exact q1.elim
  · exact q1.elim
/-! ### repr -/
/-- data that can be shown -/
def repOk (d : D) : Bool := pdOk d && ((toPD d).showable && decide ((toPD d).shown.length ≤ sizeLine))
def isRefV : V → Bool
  | .ref _ => true
  | _ => false
def rReprD (K : PySem.W.Frag) : List V → Hp → VK → Prop := fun xs H Q => ∃ (a : Addr) (d : PyData), xs = [.ref a] ∧ Dp K H (.ref a) d ∧ SeqAt.shaped d = true ∧ d.showable = true ∧ d.shown.length ≤ sizeLine ∧ Q (.str d.shown) H
theorem call_reprD {X : Cx} (hu : X.A.units + 66 < cLine) (hg : X.A.guards = some []) : CallR X (.builtin "repr") (rReprD X.K) := by
  intro pins s σ H xs us Q I r h
  obtain ⟨a, d, rfl, hd, hs, h1, h2, q⟩ := h
  obtain ⟨u, rfl, rv⟩ := vals1 r
  cases rv
  obtain ⟨as, rd⟩ := Dp.reads I d _ _ hd rfl
  have hc := SeqAt.canLay_of_shaped hs
  have hdp : d.depth ≤ 64 := by
    have : (d.canLay0 && decide (d.depth ≤ 64)) = true := hs
    rw [Bool.and_eq_true, decide_eq_true_iff] at this
    exact this.2
  exact repr_of_reads' rd h1 (PyData.noDict_hsm (PyData.hasDict_of_canLay d hc)) hg (by omega) (fun _ _ e => e) (fun h' u tk k => ⟨.str d.shown, H, I.kept (h' := h') (t' := tk) k, ⟨_, rfl⟩, q⟩) h2
def cRepr : DC := fun ds M Q => match ds with
  | [x] => match nrm M x with
    | .lst xs => repOk (.lst xs) = true ∧ Q (.str (toPD (.lst xs)).shown) M
    | .tup xs => repOk (.tup xs) = true ∧ Q (.str (toPD (.tup xs)).shown) M
    | _ => False
  | _ => False
theorem ct_repr {K : PySem.W.Frag} : CallT (rReprD K) cRepr := by
  intro M H F ds vs Q Qv m r q f
  unfold cRepr at q
  split at q
  · obtain ⟨v, rfl, h1⟩ := rp1 r
    have vw := m.view h1
    split at q
    · rename_i x xs e
      rw [e] at vw
      have q1 := q.1
      unfold repOk at q1
      rw [Bool.and_eq_true, Bool.and_eq_true, decide_eq_true_iff] at q1
      have hd := vw_dp (K := K) m.same vw q1.1
      obtain ⟨a, ws, rfl, ha, ra⟩ := vw
      exact ⟨a, _, rfl, hd, q1.1, q1.2.1, q1.2.2, f.here (d := .str _) m rfl q.2⟩
    · rename_i x xs e
      rw [e] at vw
      have q1 := q.1
      unfold repOk at q1
      rw [Bool.and_eq_true, Bool.and_eq_true, decide_eq_true_iff] at q1
      have hd := vw_dp (K := K) m.same vw q1.1
      obtain ⟨a, ws, rfl, ha, ra⟩ := vw
      exact ⟨a, _, rfl, hd, q1.1, q1.2.1, q1.2.2, f.here (d := .str _) m rfl q.2⟩
    · exact q.elim
  · exact q.elim
/-! ### what a value is stays, when others change -/
def isRefD : D → Bool
  | .ref _ => true
  | _ => false
theorem nrm_set {M : Mp} {x : D} {d : D} {p : Addr} {m : MO} (h : nrm M x = d) (hd : isRefD d = false) (hp : M p = none) : nrm (M.set p m) x = d := by
  cases x with
  | ref a =>
    have : a ≠ p := by
      intro e
      subst e
      have h' : nrmA M a = d := h
      unfold nrmA at h'
      rw [hp] at h'
      subst h'
      cases hd
    show nrmA (M.set p m) a = d
    have h' : nrmA M a = d := h
    unfold nrmA at h' ⊢
    rw [Mp.set_ne this]
    exact h'
  | _ => exact h
/-! ### xs[::e], e being -1 -/
def tRevE (K : PySem.W.Frag) (te ts : TE) : TE := fun σ H Q => te σ H fun x H1 => tPart ts σ H1 fun o H2 => ∃ (a : Addr) (xs : List V), x = .ref a ∧ o = some (-1) ∧ SqL K H2 a xs ∧ ∀ p, H2 p = none → Q (.ref p) (L2.upd H2 p (.lst xs.reverse))
theorem pe_revE {X : Cx} {e st : Expr} {te ts : TE} {p3 pos : Pos} (he : PE X e te) (hs : PE X st ts) : PE X (.Subscript e (.Slice none none (some st) p3) pos) (tRevE X.K te ts) := ⟨fun pins s σ H Q inv h => by
  refine Subscript_ (thn (he.run pins s σ H _ inv h) fun v s1 ⟨x, H1, inv1, r1, q1⟩ => ?_)
  refine wpAny_Slice (thn (po_none.run pins s1 σ H1 (fun o H2 => o = none ∧ H2 = H1) inv1 ⟨rfl, rfl⟩) fun vl s2 ⟨l, H2, inv2, pl, el, e2⟩ => ?_)
  subst el e2
  refine thn (po_none.run pins s2 σ H2 (fun o H3 => o = none ∧ H3 = H2) inv2 ⟨rfl, rfl⟩) fun vu s3 ⟨u, H3, inv3, pu, eu, e3⟩ => ?_
  subst eu e3
  refine thn ((po_some hs).run pins s3 σ H3 _ inv3 q1) fun vs s4 ⟨o, H4, inv4, ps, a, xs, ex, eo, hx, q⟩ => ?_
  subst ex eo
  cases r1
  have inv5 : Inv X pins σ H4 { s4 with heap := s4.heap.push { cls := .type "slice", data := .fields #[vl, vu, vs] } } := inv4.kept (t' := s4.toks) fun _ _ old => Heap.get?_push_of_some _ old
  obtain ⟨its, rv, plain, size⟩ := inv5.list hx
  have same := rv.length
  show wpAny (model X.prog X.w) X.A (subscriptTail e (.Slice none none (some st) p3) (.ref a) (.ref s4.heap.objs.size)) (EP X pins σ Q) X.xe { s4 with heap := s4.heap.push { cls := .type "slice", data := .fields #[vl, vu, vs] } }
  refine tail_any (ops := [.ref a, .ref s4.heap.objs.size]) plain.isList.typeIs (PySem.slot_list_getitem.lookup) ?_ (by with_unfolding_all rfl)
  refine wpAny_getItem_list_slice plain.isList (Heap.IsSliceOf.new _ vl vu vs) pl pu ps (by decide) ?_ (by rw [List.size_toArray]; omega)
  rw [PySem.W.krv_pick]
  exact ⟨.ref _, _, inv5.laid (t' := s4.toks) (o := .lst xs.reverse) (fun _ _ old => Heap.get?_push_of_some _ old) (Nat.le_refl _) ⟨by rw [List.length_reverse]; exact size, _, 0, rv.reverse, Heap.get?_push_size _ rfl⟩, rfl, q _ (inv5.hok.fresh (Nat.le_refl _))⟩⟩
def wRevE (md : Md) (a b : DE) : DE := fun ρ M Q => a ρ M fun x M1 => b ρ M1 fun y M2 => y = .int (-1) ∧ match nrm M2 x with
  | .lst xs => wNew md xs.reverse M2 Q
  | _ => False
theorem tr_revE {K : PySem.W.Frag} {md : Md} {t u : TE} {a b : DE} (h : Tr t a) (h' : Tr u b) : Tr (tRevE K t u) (wRevE md a b) := by
  intro ρ M σ H F Q Qv er m q f
  refine h ρ M σ H F _ _ er m q fun d1 v1 M1 H1 F1 m1 e1 r1 q1 => ?_
  refine h' ρ M1 σ H1 F1 _ _ (er.mono e1.fs) m1 q1 fun d2 v2 M2 H2 F2 m2 e2 r2 q2 => ?_
  obtain ⟨rfl, q2⟩ := q2
  have vw := m2.view (Rp.mono e2.fs _ _ r1)
  split at q2
  · rename_i xs e
    rw [e] at vw
    obtain ⟨a, vs, rfl, ha, ra⟩ := vw
    cases r2
    exact ⟨-1, rfl, a, vs, rfl, rfl, .of ha, new_lst m2 ra.reverse q2 (f.ext (e1.trans e2))⟩
  · exact q2.elim
/-! ### xs.index(x): the first place of an equal one -/
def mIndex : DM := fun x ds M Q => match nrm M x, ds with
  | .lst xs, [y] => match intsD xs, nrm M y with
    | some ns, .int k => k ∈ ns ∧ Q (.int (ns.idxOf k : Nat)) M
    | _, _ => False
  | _, _ => False
theorem toPDs_get {ns : List Int} {j : Nat} : (toPDs (ns.map D.int))[j]? = (ns[j]?).map PyData.int := by rw [toPDs_ints, List.getElem?_map]
theorem mt_indexI {K : PySem.W.Frag} : MethT (rIndexD K) mIndex := by
  intro M H F d v ds vs Q Qv m r1 r2 q f
  unfold mIndex at q
  have vw := m.view r1
  split at q
  · rename_i xs y e
    rw [e] at vw
    split at q
    · rename_i ns k en ek
      obtain ⟨hk, q⟩ := q
      have e2 := ints_eq en
      subst e2
      obtain ⟨w, rfl, h1⟩ := rp1 r2
      have vy := m.view h1
      rw [ek] at vy
      have hp := pdOk_ints (a := ns)
      have hd := vw_dp (K := K) m.same vw hp
      have hy := vw_dp (K := K) m.same vy (pdOk_int k)
      obtain ⟨a, us, rfl, ha, ra⟩ := vw
      have hlt := List.idxOf_lt_length_of_mem hk
      refine ⟨a, w, .int k, toPDs (ns.map D.int), ns.idxOf k, .int k, rfl, rfl, hd, hy, hp, pdOk_int k, ?_, ?_, fun j z hj hz => ?_, f.here (d := .int _) m rfl q⟩
      · rw [toPDs_get, List.getElem?_eq_getElem hlt, List.getElem_idxOf hlt]; rfl
      · simp [PyData.eqv]
      · rw [toPDs_get] at hz
        obtain ⟨i, hi, rfl⟩ := Option.map_eq_some_iff.mp hz
        have hne : i ≠ k := by
          rintro rfl
          have hn := List.not_of_lt_findIdx (p := (· == i)) (show j < ns.findIdx (· == i) from hj)
          obtain ⟨h1, h2⟩ := List.getElem?_eq_some_iff.mp hi
          rw [h2] at hn
          simp at hn
        simp [PyData.eqv, hne]
    · exact q.elim
  · exact q.elim

/-! ### sorted(d), d a dict with keys of ints -/
section
variable {prog : Program} {w : World} {A : Around} {E : Value → Shared → Prop} {s : Shared} {T : String} {r d : Addr} {n : Nat} {P : Nat → Value → Prop} {OK : Heap → Prop}
theorem collect_src {Q : List Value → Shared → Prop} (K : PySem.W.KdlSrc prog w T r d n P OK) (hh : A.handled = none) (hok : OK s.heap) (hn : n ≤ sizeLine)
    (hQ : ∀ (h' : Heap) (tk : Nat) (acc : Array Value), (∀ b o, s.heap.get? b = some o → h'.get? b = some o) → ItemsOf P acc n → s.heap.objs.size ≤ h'.objs.size → Q acc.toList { s with heap := h', toks := tk }) :
    wpAny (model prog w) A (collect (.ref r)) Q E s := by
  have there := K.there _ hok
  unfold collect
  refine wpAny_bind (wpAny_runValue (codeAny_builtin PySem.F.entry_proto_collect ?_))
  rw [Around.under_plainId PySem.F.plain_proto_collect _]
  show wpAny _ A.in1 (newList [] >>= fun l => again (.builtin "list.__iadd__" ⟨[l, .ref r], []⟩)) _ _ s
  refine wpAny_bind (wpAny_newObj_type ?_)
  refine wpAny_pure ⟨plainId_quiet PySem.F.plain_list_iadd _, codeAny_builtin PySem.F.entry_list_iadd ?_⟩
  rw [Around.under_plainId PySem.F.plain_list_iadd _]
  show wpAny _ A.in1 (Builtin.List.listExtendWith (.ref s.heap.objs.size) (.ref r) (.ref s.heap.objs.size)) _ _ _
  have new : (s.heap.push { cls := .type "list", data := .seq ([] : List Value).toArray }).get? s.heap.objs.size = some { cls := .type "list", data := .seq #[] 0 } := Heap.get?_push_size _ rfl
  refine wpAny_mono (PySem.W.kdl_extend (A := A) (R := fun rr s' => rr = .ok (.ret (.ref s.heap.objs.size)) ∧ ∃ (h' : Heap) (tk : Nat) (acc : Array Value) (c' : Nat), s' = { s with heap := h', toks := tk } ∧
      (∀ b o, s.heap.get? b = some o → h'.get? b = some o) ∧ h'.get? s.heap.objs.size = some { cls := .type "list", dict := none, data := .seq acc c', slots := #[] } ∧ ItemsOf P acc n)
    (s := { s with heap := s.heap.push { cls := .type "list", data := .seq ([] : List Value).toArray } }) K hh (K.keep _ _ hok fun b _ o e => Heap.get?_push_of_some _ e) _ (Nat.ne_of_gt there.1) (Nat.ne_of_gt there.2) _ 0 new
    (fun h' tk acc c' hk e hi => ⟨rfl, h', tk, acc, c', rfl, fun b o q => hk b o (Nat.ne_of_lt (Heap.lt_size q)) (Heap.get?_push_of_some _ q), e, hi⟩) hn) (fun fin s' h => ?_) (fun e s' h => ?_)
  · cases fin with
    | done f =>
      obtain ⟨e, h', tk, acc, c', rfl, hk, found, hi⟩ := h
      cases e
      show wpAny _ A (load s.heap.objs.size >>= _) _ _ _
      exact wpAny_bind (wpAny_load found (wpAny_pure (hQ h' tk acc hk hi (Nat.le_of_lt (Heap.lt_size found)))))
    | again c' =>
      refine ⟨h.1, codeAny_mono h.2 fun rr s'' hr' => ?_⟩
      obtain ⟨rfl, h', tk, acc, c', rfl, hk, found, hi⟩ := hr'
      show wpAny _ A (load s.heap.objs.size >>= _) _ _ _
      exact wpAny_bind (wpAny_load found (wpAny_pure (hQ h' tk acc hk hi (Nat.le_of_lt (Heap.lt_size found)))))
  · exact absurd h.1 (by simp)
theorem sorted_src {Q : Value → Shared → Prop} (K : PySem.W.KdlSrc prog w T r d n P OK) (hh : A.handled = none) (hok : OK s.heap) (hn : n ≤ sizeLine)
    (numbers : ∀ acc : Array Value, ItemsOf P acc n → ∃ ns : List Int, IntsAre acc.toList ns)
    (hQ : ∀ (h' : Heap) (tk : Nat) (p : Addr) (out : Array Value) (c : Nat) (acc : Array Value) (ns ns' : List Int), ItemsOf P acc n → IntsAre acc.toList ns → IntsAre out.toList ns' → ns'.Perm ns → ns'.Pairwise (· ≤ ·) → (∀ b o, s.heap.get? b = some o → h'.get? b = some o) →
      s.heap.objs.size ≤ p → h'.get? p = some (seqObj "list" out c) → Q (.ref p) { s with heap := h', toks := tk }) :
    wpAny (model prog w) A (call (.builtin "sorted") [.ref r]) Q E s := by
  refine Calls.call_function_entry kind_sorted plain_sorted entry_sorted (args_sorted1 _) ?_
  unfold Builtin.«sorted»
  refine wpAny_bind (m := checkCount "sorted" 1 1 _) (wpAny_pure ?_)
  refine wpAny_bind (collect_src (A := A.in1) K hh hok hn fun h1 tk acc keep items le => ?_)
  obtain ⟨ns, hns⟩ := numbers acc items
  have size : acc.toList.length ≤ sizeLine := by rw [Array.length_toList, items.1]; exact hn
  refine wpAny_bind (wpAny_newList ?_ size)
  have here : (h1.push (seqObj "list" acc.toList.toArray 0)).get? h1.objs.size = some (seqObj "list" acc.toList.toArray 0) := Heap.get?_push_size _ rfl
  refine wpAny_bind (wpAny_holding (wpAny_call_entry slot_list_sort ⟨_, here, rfl⟩ entry_list_sort (SrtO.list_sort_ord SrtO.swo_int here size (fun h2 => SrtO.ints_sortable hns h2) fun out a1 a2 => ⟨_, rfl, ?_⟩) (args_list_sort _)))
  obtain ⟨k1, k2, k3⟩ := SrtO.ints_out hns a1 a2
  obtain ⟨c, hc⟩ := sortedHeap_at (vs := acc.toList) (out := out.toArray) here
  refine wpAny_pure ⟨_, rfl, hQ _ tk h1.objs.size out.toArray c acc ns _ items hns k1 k2 k3 (fun b o q => ?_) le hc⟩
  have q1 := keep b o q
  have lt := Heap.lt_size q1
  show (sortedHeap (h1.push (seqObj "list" acc.toList.toArray 0)) h1.objs.size acc.toList out.toArray).get? b = some o
  rw [sortedHeap_old (Nat.ne_of_lt lt) (by rw [size_push']; exact Nat.lt_succ_of_lt lt)]
  exact Heap.get?_push_of_some _ q1
end
theorem intsAre_uniq : ∀ {vs : List Value} {a b : List Int}, IntsAre vs a → IntsAre vs b → a = b
  | _, _, _, .nil, .nil => rfl
  | _, _, _, .cons _ _ h, .cons _ _ h' => by rw [intsAre_uniq h h']
def rSortedD : List V → Hp → VK → Prop := fun xs H Q => ∃ (p : Addr) (kvs : List (Key × V)) (ns : List Int), xs = [.ref p] ∧ H p = some (.dK kvs) ∧ kvs.map (·.1) = ns.map Sum.inl ∧
  ∀ (ns' : List Int) (q : Addr), ns'.Perm ns → ns'.Pairwise (· ≤ ·) → H q = none → Q (.ref q) (L2.upd H q (.lst (ns'.map V.int)))
theorem call_sortedD {X : Cx} (hc : X.calm = true) : CallR X (.builtin "sorted") rSortedD := by
  intro pins s σ H xs us Q I r h
  obtain ⟨p, kvs, ns, e, hk, hn, q⟩ := h
  subst e
  obtain ⟨u, eu, rx⟩ := vals1 r
  subst eu
  obtain rfl : u = Value.ref p := rx
  obtain ⟨z, lo, vs, rk, hd⟩ := (show ObjOk X.prog X.w H s.heap p (.dK kvs) from I.hok p _ hk)
  obtain ⟨ep, hat⟩ := hd.dictAt
  have hl : kvs.length = vs.length := Paired.length rk
  have hln : ns.length = vs.length := by
    have e := congrArg List.length hn
    rw [List.length_map, List.length_map] at e
    omega
  have hv : ∀ acc : Array Value, ItemsOf (fun i v => ∃ k x, vs[i]? = some (k, x) ∧ (mixKind X.prog X.w).is k v = true) acc vs.length → Vals (ns.map V.int) acc.toList := by
    intro acc it
    refine vals_of_at ((List.length_map _).trans (hln.trans (it.1.symm.trans Array.length_toList.symm))) fun j x w h1 h2 => ?_
    obtain ⟨k, y, hky, hi⟩ := it.2 j w (by rw [← Array.getElem?_toList]; exact h2)
    have e1 : (kvs.map (·.1))[j]? = some k := by
      rw [KV.keys rk, List.getElem?_map, hky] <;> rfl
    rw [hn, List.getElem?_map] at e1
    rw [List.getElem?_map] at h1
    obtain ⟨n, en, e2⟩ := Option.map_eq_some_iff.mp e1
    rw [en] at h1
    cases h1
    subst e2
    exact keyIs_rel (k := .inl n) hi
  refine sorted_src (PySem.W.kdl_dict (knd := mixKind X.prog X.w) (kvs := vs) (ep := ep) lo) (I.ok.hd hc) hat (by rw [← hl]; exact z) (fun acc it => ⟨ns, (hv acc it).ints⟩) fun h' tk q' out c acc ns0 ns' it ia io perm pw keep le hp => ?_
  have e0 : ns0 = ns := intsAre_uniq ia (hv acc it).ints
  subst e0
  have hlen : (ns'.map V.int).length ≤ sizeLine := by rw [List.length_map, perm.length_eq, hln, ← hl]; exact z
  exact ⟨.ref q', L2.upd H q' (.lst (ns'.map V.int)), I.laid (t' := tk) keep le ⟨hlen, out.toList, c, vals_of_ints io, by rw [Array.toArray_toList]; exact hp⟩, rfl, q _ _ perm pw (I.hok.fresh le)⟩
def intsK : List Key → Option (List Int)
  | [] => some []
  | .inl i :: r => (intsK r).map (i :: ·)
  | _ => none
theorem intsK_eq : ∀ {ks : List Key} {ns : List Int}, intsK ks = some ns → ks = ns.map Sum.inl
  | [], ns, h => by cases h; rfl
  | .inl i :: r, ns, h => by
    obtain ⟨m, h1, h2⟩ := Option.map_eq_some_iff.mp (show (intsK r).map (i :: ·) = some ns from h)
    subst h2
    rw [intsK_eq h1]; rfl
  | .inr i :: r, ns, h => nomatch h
theorem intsK_map : ∀ ns : List Int, intsK (ns.map Sum.inl) = some ns
  | [] => rfl
  | n :: r => by show (intsK (r.map Sum.inl)).map (n :: ·) = _; rw [intsK_map r]; rfl
/-- sorted(x): ints, or a dict with keys of ints -/
def cSortedA (md : Md) : DC := fun ds M Q => match ds with
  | [x] => match nrm M x with
    | .lst xs => match intsD xs with
      | some ns => ∀ ns' : List Int, ns'.Perm ns → ns'.Pairwise (· ≤ ·) → wNew md (ns'.map D.int) M Q
      | none => False
    | .dct ks _ => match intsK ks with
      | some ns => ∀ ns' : List Int, ns'.Perm ns → ns'.Pairwise (· ≤ ·) → wNew md (ns'.map D.int) M Q
      | none => False
    | _ => False
  | _ => False
theorem ct_sortedA {K : PySem.W.Frag} {md : Md} : CallT (fun xs H Q => rSortedI K xs H Q ∨ rSortedD xs H Q) (cSortedA md) := by
  intro M H F ds vs Q Qv m r q f
  unfold cSortedA at q
  split at q
  · rename_i x
    cases hx : nrm M x with
    | lst xs =>
      simp only [hx] at q
      refine .inl (ct_sorted (md := md) M H F [x] vs Q Qv m r ?_ f)
      show match nrm M x with | .lst xs => _ | _ => _
      rw [hx]; exact q
    | dct ks xs =>
      simp only [hx] at q
      obtain ⟨v, rfl, h1⟩ := rp1 r
      have vw := m.view h1
      rw [hx] at vw
      obtain ⟨a, kvs, rfl, ha, hk, ra⟩ := vw
      split at q
      · rename_i ns en
        exact .inr ⟨a, kvs, ns, rfl, ha, hk.trans (intsK_eq en), fun ns' p h1 h2 hp => new_lst m RpL.of_ints (q ns' h1 h2) f p hp⟩
      · exact q.elim
    | _ => simp only [hx] at q
  · exact q.elim
/-! ### dict(xs), xs a list of pairs -/
def pairD : D → Option (Key × D)
  | .tup [k, x] => (keyD k).map fun k => (k, x)
  | _ => none
def pairsD : List D → Option (List (Key × D))
  | [] => some []
  | x :: r => match pairD x, pairsD r with
    | some p, some ps => some (p :: ps)
    | _, _ => none
/-- the dict of pairs -/
def mrgD (acc : List Key × List D) (ps : List (Key × D)) : List Key × List D := ps.foldl (fun acc p => (putKs acc.1 p.1, putXs acc.1 acc.2 p.1 p.2)) acc
def wNewD : Md → List Key → List D → Mp → DK → Prop
  | .frz, ks, xs, M, Q => Q (.dct ks xs) M
  | .own, ks, xs, M, Q => ∀ p, M p = none → Q (.ref p) (M.set p (.dK ks xs))
theorem new_dct {md : Md} {ks : List Key} {xs : List D} {kvs : List (Key × V)} {Q : DK} {Qv : VK} {M : Mp} {H F : Hp} (m : Mem M H F) (hk : kvs.map (·.1) = ks) (r : RpL F xs (kvs.map (·.2))) (h : wNewD md ks xs M Q) (f : Fin Q Qv M H F) : ∀ p, H p = none → Qv (.ref p) (L2.upd H p (.dK kvs)) := by
  intro p hp
  cases md with
  | frz =>
    obtain ⟨m', e'⟩ := m.frz hp (.dK kvs)
    exact f (.dct ks xs) _ _ _ _ m' e' ⟨p, kvs, rfl, upd_same, hk, RpL.mono e'.fs _ _ r⟩ h
  | own =>
    obtain ⟨m', e'⟩ := m.mut hp (o := .dK kvs) (q := .dK ks xs) ⟨kvs, rfl, hk, r⟩
    exact f (.ref p) _ _ _ _ m' e' rfl (h p (m.fresh hp).2)
def cDictP (md : Md) : DC := fun ds M Q => match ds with
  | [x] => match nrm M x with
    | .lst xs => match pairsD xs with
      | some ps => wNewD md (mrgD ([], []) ps).1 (mrgD ([], []) ps).2 M Q
      | none => False
    | _ => False
  | _ => False
def rDictP (K : PySem.W.Frag) : List V → Hp → VK → Prop := fun xs H Q => ∃ (a : Addr) (ps : List Addr) (kvs : List (Key × V)), xs = [.ref a] ∧ SqL K H a (ps.map V.ref) ∧ Paired (fun p kv => SqT K H p [kV kv.1, kv.2]) ps kvs ∧
    ∀ p, H p = none → Q (.ref p) (L2.upd H p (.dK (mergeK [] kvs)))
theorem call_dictPK {X : Cx} (hc : X.calm = true) : CallR X (.type "dict") (rDictP X.K) := call_dictP hc
theorem pairs_rp {K : PySem.W.Frag} {F H : Hp} (s : Same F H) : ∀ {xs : List D} {vs : List V} {ps : List (Key × D)}, RpL F xs vs → pairsD xs = some ps →
    ∃ (as : List Addr) (kvs : List (Key × V)), vs = as.map V.ref ∧ Paired (fun p kv => SqT K H p [kV kv.1, kv.2]) as kvs ∧ Paired (fun (p : Key × D) (kv : Key × V) => p.1 = kv.1 ∧ Rp F p.2 kv.2) ps kvs
  | [], vs, ps, r, e => by cases r; cases e; exact ⟨[], [], rfl, .nil, .nil⟩
  | x :: xs, vs, ps, ⟨v, r, e, h1, h2⟩, hp => by
    subst e
    unfold pairsD at hp
    split at hp
    · rename_i p ps' e1 e2
      cases hp
      obtain ⟨as, kvs, ea, pa, pb⟩ := pairs_rp s h2 e2
      unfold pairD at e1
      split at e1
      · rename_i k y
        obtain ⟨k', ek, rfl⟩ := Option.map_eq_some_iff.mp e1
        obtain ⟨a, ws, rfl, ha, ra⟩ := h1
        obtain ⟨u1, u2, rfl, r1, r2⟩ := rp2 ra
        have := keyD_rp r1 ek
        subst this
        exact ⟨a :: as, (k', u2) :: kvs, by rw [ea]; rfl, .cons (.of (s _ _ ha)) pa, .cons ⟨rfl, r2⟩ pb⟩
      · cases e1
    · cases hp
theorem mrg_rp {F : Hp} : ∀ {ps : List (Key × D)} {kvs : List (Key × V)} {acc : List Key × List D} {akv : List (Key × V)}, Paired (fun (p : Key × D) (kv : Key × V) => p.1 = kv.1 ∧ Rp F p.2 kv.2) ps kvs →
    akv.map (·.1) = acc.1 → RpL F acc.2 (akv.map (·.2)) → (mergeK akv kvs).map (·.1) = (mrgD acc ps).1 ∧ RpL F (mrgD acc ps).2 ((mergeK akv kvs).map (·.2))
  | _, _, acc, akv, .nil, h1, h2 => ⟨h1, h2⟩
  | _, _, acc, akv, .cons (a := p) (b := kv) h t, h1, h2 => by
    obtain ⟨e, r⟩ := h
    obtain ⟨i1, i2⟩ := put_rp (k := kv.1) h1 h2 r
    refine mrg_rp (acc := (putKs acc.1 p.1, putXs acc.1 acc.2 p.1 p.2)) (akv := putK akv kv.1 kv.2) t ?_ ?_
    · rw [e]; exact i1
    · rw [e]; exact i2
theorem ct_dictP {K : PySem.W.Frag} {md : Md} : CallT (rDictP K) (cDictP md) := by
  intro M H F ds vs Q Qv m r q f
  unfold cDictP at q
  split at q
  · rename_i x
    obtain ⟨v, rfl, h1⟩ := rp1 r
    have vw := m.view h1
    split at q
    · rename_i xs hx
      rw [hx] at vw
      obtain ⟨a, ws, rfl, ha, ra⟩ := vw
      split at q
      · rename_i ps ep
        obtain ⟨as, kvs, ea, pa, pb⟩ := pairs_rp (K := K) m.same ra ep
        subst ea
        obtain ⟨g1, g2⟩ := mrg_rp (acc := ([], [])) (akv := []) pb rfl rfl
        exact ⟨a, as, kvs, rfl, .of ha, pa, new_dct m g1 g2 q f⟩
      · exact q.elim
    · exact q.elim
  · exact q.elim
/-! what comes of pairs with int keys -/
theorem pairsD_map {α : Type} (k : α → Int) (v : α → D) : ∀ l : List α, pairsD (l.map fun a => .tup [.int (k a), v a]) = some (l.map fun a => (Sum.inl (k a), v a))
  | [] => rfl
  | a :: l => by
    show (match pairD (.tup [.int (k a), v a]), pairsD (l.map fun a => .tup [.int (k a), v a]) with | some p, some ps => some (p :: ps) | _, _ => none) = _
    rw [pairsD_map k v l]; rfl
theorem mrg_keys {α : Type} (k : α → Int) (v : α → D) : ∀ (l : List α) (ns : List Int) (xs : List D), ns.Nodup → ∃ ms : List Int, (mrgD (ns.map Sum.inl, xs) (l.map fun a => (Sum.inl (k a), v a))).1 = ms.map Sum.inl ∧ ms.Nodup ∧ (∀ m, m ∈ ms ↔ m ∈ ns ∨ ∃ a ∈ l, k a = m) ∧ ms.length ≤ ns.length + l.length
  | [], ns, xs, h => ⟨ns, rfl, h, by simp, by simp⟩
  | a :: l, ns, xs, h => by
    show ∃ ms : List Int, (mrgD (putKs (ns.map Sum.inl) (.inl (k a)), putXs (ns.map Sum.inl) xs (.inl (k a)) (v a)) (l.map fun a => (Sum.inl (k a), v a))).1 = _ ∧ _
    have e : ∃ ns2 : List Int, putKs (ns.map Sum.inl) (.inl (k a)) = ns2.map Sum.inl ∧ ns2.Nodup ∧ (∀ m, m ∈ ns2 ↔ m ∈ ns ∨ m = k a) ∧ ns2.length ≤ ns.length + 1 := by
      by_cases hm : k a ∈ ns
      · refine ⟨ns, ?_, h, fun m => ⟨.inl, fun z => z.elim id fun z => z ▸ hm⟩, by omega⟩
        unfold putKs
        rw [if_pos]
        rw [List.any_eq_true]
        exact ⟨.inl (k a), List.mem_map_of_mem hm, decide_eq_true rfl⟩
      · refine ⟨ns ++ [k a], putKs_new hm, ?_, fun m => by simp, by simp⟩
        rw [List.nodup_append]
        exact ⟨h, by simp, by rintro x hx y hy rfl; simp at hy; subst hy; exact hm hx⟩
    obtain ⟨ns2, e1, e2, e3, e4⟩ := e
    rw [e1]
    obtain ⟨ms, f1, f2, f3, f4⟩ := mrg_keys k v l ns2 _ e2
    refine ⟨ms, f1, f2, fun m => ?_, by rw [List.length_cons]; omega⟩
    rw [f3, e3]
    constructor
    · rintro ((h | rfl) | ⟨b, hb, rfl⟩)
      · exact .inl h
      · exact .inr ⟨a, List.mem_cons_self, rfl⟩
      · exact .inr ⟨b, List.mem_cons_of_mem _ hb, rfl⟩
    · rintro (h | ⟨b, hb, rfl⟩)
      · exact .inl (.inl h)
      · rcases List.mem_cons.mp hb with rfl | hb
        · exact .inl (.inr rfl)
        · exact .inr ⟨b, hb, rfl⟩
/-! ### what can be shown: small data -/
mutual
def cst : D → Nat
  | .int _ => 41
  | .lst xs => csts xs
  | .tup xs => csts xs
  | _ => 0
def csts : List D → Nat
  | [] => 0
  | x :: xs => cst x + 1 + csts xs
end
mutual
def sml : Nat → D → Bool
  | _, .int i => decide (i.natAbs < 10 ^ 12)
  | _, .bl _ => true
  | _, .non => true
  | n + 1, .lst xs => smls n xs
  | n + 1, .tup xs => smls n xs
  | _, _ => false
def smls : Nat → List D → Bool
  | _, [] => true
  | n, x :: xs => sml n x && smls n xs
end
theorem log2_small {n : Nat} (h : n < 10 ^ 12) : n.log2 < 40 := by
  by_cases h0 : n = 0
  · subst h0; decide
  · rw [Nat.log2_lt h0]
    exact Nat.lt_trans h (by decide)
mutual
theorem sml_ok : ∀ (n : Nat) (d : D), sml n d = true → (toPD d).canLay0 = true ∧ (toPD d).depth ≤ n ∧ (toPD d).showable = true ∧ (toPD d).leavesShort 13 = true ∧ (toPD d).weight ≤ cst d
  | _, .int i, h => by
    have h1 : i.natAbs < 10 ^ 12 := by simpa [sml] using h
    have h2 := log2_small h1
    refine ⟨by simp [toPD, PyData.canLay0], by simp [toPD, PyData.depth], ?_, ?_, ?_⟩
    · simp only [toPD, PyData.showable, decide_eq_true_eq]; omega
    · simp only [toPD, PyData.leavesShort, decide_eq_true_eq]; exact PyData.shown_int_le h1
    · simp only [toPD, PyData.weight, cst]; split <;> omega
  | _, .bl b, _ => ⟨by simp [toPD, PyData.canLay0], by simp [toPD, PyData.depth], by simp [toPD, PyData.showable], by simp [toPD, PyData.leavesShort], by simp [toPD, PyData.weight]⟩
  | _, .non, _ => ⟨by simp [toPD, PyData.canLay0], by simp [toPD, PyData.depth], by simp [toPD, PyData.showable], by simp [toPD, PyData.leavesShort], by simp [toPD, PyData.weight]⟩
  | n + 1, .lst xs, h => by
    obtain ⟨h1, h2, h3, h4, h5⟩ := smls_ok n xs (by simpa [sml] using h)
    exact ⟨by simpa [toPD, PyData.canLay0] using h1, by simp only [toPD, PyData.depth]; omega, by simpa [toPD, PyData.showable] using h3, by simpa [toPD, PyData.leavesShort] using h4, by simpa [toPD, PyData.weight, cst] using h5⟩
  | n + 1, .tup xs, h => by
    obtain ⟨h1, h2, h3, h4, h5⟩ := smls_ok n xs (by simpa [sml] using h)
    exact ⟨by simpa [toPD, PyData.canLay0] using h1, by simp only [toPD, PyData.depth]; omega, by simpa [toPD, PyData.showable] using h3, by simpa [toPD, PyData.leavesShort] using h4, by simpa [toPD, PyData.weight, cst] using h5⟩
  | 0, .lst xs, h => by simp [sml] at h
  | 0, .tup xs, h => by simp [sml] at h
  | _, .str _, h => by simp [sml] at h
  | _, .ref _, h => by simp [sml] at h
  | _, .ty _, h => by simp [sml] at h
  | _, .dct _ _, h => by simp [sml] at h
  | _, .scr _ _, h => by simp [sml] at h
theorem smls_ok : ∀ (n : Nat) (ds : List D), smls n ds = true → PyData.canLayAll0 (toPDs ds) = true ∧ PyData.depthAll (toPDs ds) ≤ n ∧ PyData.showableAll (toPDs ds) = true ∧ PyData.leavesShortAll 13 (toPDs ds) = true ∧ PyData.weightAll (toPDs ds) ≤ csts ds
  | _, [], _ => ⟨by simp [toPDs, PyData.canLayAll0], by simp [toPDs, PyData.depthAll], by simp [toPDs, PyData.showableAll], by simp [toPDs, PyData.leavesShortAll], by simp [toPDs, PyData.weightAll]⟩
  | n, x :: xs, h => by
    have hh : sml n x = true ∧ smls n xs = true := by simpa [smls] using h
    obtain ⟨a1, a2, a3, a4, a5⟩ := sml_ok n x hh.1
    obtain ⟨b1, b2, b3, b4, b5⟩ := smls_ok n xs hh.2
    refine ⟨by simp [toPDs, PyData.canLayAll0, a1, b1], by simp only [toPDs, PyData.depthAll]; omega, by simp [toPDs, PyData.showableAll, a3, b3], by simp [toPDs, PyData.leavesShortAll, a4, b4], by simp only [toPDs, PyData.weightAll, csts]; omega⟩
end
theorem repOk_of {n : Nat} {d : D} (h : sml n d = true) (hn : n ≤ 60) (c : cst d ≤ 1000000) : repOk d = true := by
  obtain ⟨h1, h2, h3, h4, h5⟩ := sml_ok n d h
  unfold repOk pdOk SeqAt.shaped
  simp only [Bool.and_eq_true, decide_eq_true_eq]
  exact ⟨⟨h1, by omega⟩, h3, PyData.shown_fits (B := 13) (by decide) (by decide) h4 (by omega)⟩
theorem csts_ints : ∀ ns : List Int, csts (ns.map .int) = 42 * ns.length
  | [] => rfl
  | n :: r => by simp only [List.map_cons, csts, cst, csts_ints r, List.length_cons]; omega
theorem smls_ints {n : Nat} : ∀ {ns : List Int}, (∀ x ∈ ns, x.natAbs < 10 ^ 12) → smls n (ns.map .int) = true
  | [], _ => rfl
  | x :: r, h => by
    simp only [List.map_cons, smls, sml, Bool.and_eq_true, decide_eq_true_eq]
    exact ⟨h x List.mem_cons_self, smls_ints fun y hy => h y (List.mem_cons_of_mem _ hy)⟩
theorem repOk_ints {ns : List Int} (h : ∀ x ∈ ns, x.natAbs < 10 ^ 12) (l : ns.length ≤ 20000) : repOk (.lst (ns.map .int)) = true :=
  repOk_of (n := 1) (by simp only [sml]; exact smls_ints h) (by decide) (by simp only [cst, csts_ints]; omega)
/-! ### lists in order with the same members are one -/
theorem srt_ext : ∀ {a b : List Int}, a.Pairwise (· < ·) → b.Pairwise (· < ·) → (∀ x, x ∈ a ↔ x ∈ b) → a = b
  | [], [], _, _, _ => rfl
  | [], y :: b, _, _, h => by have := (h y).mpr List.mem_cons_self; simp at this
  | x :: a, [], _, _, h => by have := (h x).mp List.mem_cons_self; simp at this
  | x :: a, y :: b, ha, hb, h => by
    obtain ⟨ha1, ha2⟩ := List.pairwise_cons.mp ha
    obtain ⟨hb1, hb2⟩ := List.pairwise_cons.mp hb
    have e : x = y := by
      rcases List.mem_cons.mp ((h x).mp List.mem_cons_self) with e | e
      · exact e
      · rcases List.mem_cons.mp ((h y).mpr List.mem_cons_self) with e2 | e2
        · exact e2.symm
        · have := ha1 y e2; have := hb1 x e; omega
    subst e
    rw [srt_ext ha2 hb2 fun z => ?_]
    constructor
    · intro hz
      rcases List.mem_cons.mp ((h z).mp (List.mem_cons_of_mem _ hz)) with e | e
      · subst e; have := ha1 z hz; omega
      · exact e
    · intro hz
      rcases List.mem_cons.mp ((h z).mpr (List.mem_cons_of_mem _ hz)) with e | e
      · subst e; have := hb1 z hz; omega
      · exact e
/-- ordered lists of the same things -/
theorem srt_perm : ∀ {a b : List Int}, a.Pairwise (· ≤ ·) → b.Pairwise (· ≤ ·) → a.Perm b → a = b
  | [], b, _, _, h => (h.symm.eq_nil).symm
  | x :: a, [], _, _, h => by have := h.length_eq; simp at this
  | x :: a, y :: b, ha, hb, h => by
    obtain ⟨ha1, ha2⟩ := List.pairwise_cons.mp ha
    obtain ⟨hb1, hb2⟩ := List.pairwise_cons.mp hb
    have e : x = y := by
      have m1 := h.mem_iff.mp (List.mem_cons_self (a := x) (l := a))
      have m2 := h.mem_iff.mpr (List.mem_cons_self (a := y) (l := b))
      rcases List.mem_cons.mp m1 with e | e
      · exact e
      · rcases List.mem_cons.mp m2 with e2 | e2
        · exact e2.symm
        · have := ha1 y e2; have := hb1 x e; omega
    subst e
    rw [srt_perm ha2 hb2 (List.Perm.cons_inv h)]
/-! ### found[place] = card, card by card -/
def putAll (acc : List Int) (ps : List (Int × Int)) : List Int := ps.foldl (fun acc p => acc.set p.2.toNat p.1) acc
theorem putAll_length : ∀ (ps : List (Int × Int)) (acc : List Int), (putAll acc ps).length = acc.length
  | [], _ => rfl
  | p :: ps, acc => by show (putAll (acc.set p.2.toNat p.1) ps).length = _; rw [putAll_length ps, List.length_set]
theorem putAll_snoc {acc : List Int} {ps : List (Int × Int)} {p : Int × Int} : putAll acc (ps ++ [p]) = (putAll acc ps).set p.2.toNat p.1 := by unfold putAll; rw [List.foldl_append]; rfl
theorem putAll_other {k : Nat} : ∀ (ps : List (Int × Int)) (acc : List Int), (∀ p ∈ ps, p.2.toNat ≠ k) → (putAll acc ps)[k]? = acc[k]?
  | [], _, _ => rfl
  | p :: ps, acc, h => by
    show (putAll (acc.set p.2.toNat p.1) ps)[k]? = _
    rw [putAll_other ps _ fun q hq => h q (List.mem_cons_of_mem _ hq), List.getElem?_set_ne (h p List.mem_cons_self)]
theorem putAll_at : ∀ (ns os acc : List Int), ns.length = os.length → os.Nodup → (∀ o ∈ os, 0 ≤ o ∧ o < acc.length) → os.map (fun o => (putAll acc (ns.zip os)).getD o.toNat 0) = ns
  | [], [], _, _, _, _ => rfl
  | n :: ns, o :: os, acc, hl, hn, hb => by
    obtain ⟨h1, h2⟩ := List.nodup_cons.mp hn
    have ho := hb o List.mem_cons_self
    have ih := putAll_at ns os (acc.set o.toNat n) (by simpa using hl) h2 (fun x hx => by rw [List.length_set]; exact hb x (List.mem_cons_of_mem _ hx))
    show (putAll (acc.set o.toNat n) (ns.zip os)).getD o.toNat 0 :: os.map (fun o' => (putAll (acc.set o.toNat n) (ns.zip os)).getD o'.toNat 0) = n :: ns
    rw [ih, List.getD_eq_getElem?_getD, putAll_other _ _ fun p hp => ?_, List.getElem?_set_self (by omega)]
    · rfl
    · have hm := (List.of_mem_zip hp).2
      have := hb p.2 (List.mem_cons_of_mem _ hm)
      intro e
      have e2 : p.2 = o := by omega
      exact h1 (e2 ▸ hm)
theorem map_getD_rng (fs : List Int) : (rngI 0 1 fs.length).map (fun o => fs.getD o.toNat 0) = fs := by
  apply List.ext_getElem?
  intro i
  simp only [rngI, List.map_map, List.getElem?_map]
  by_cases h : i < fs.length
  · rw [List.getElem?_range h, List.getElem?_eq_getElem h]
    simp [h]
  · rw [List.getElem?_eq_none (by simpa using h), List.getElem?_eq_none (by omega)]; rfl
theorem putAll_perm {ns os acc : List Int} (hl : ns.length = acc.length) (hp : os.Perm (rngI 0 1 acc.length)) :
    os.map (fun o => (putAll acc (ns.zip os)).getD o.toNat 0) = ns ∧ (putAll acc (ns.zip os)).Perm ns := by
  have h1 := hp.length_eq
  rw [rngI_length] at h1
  have e := putAll_at ns os acc (by omega) (hp.nodup_iff.mpr rngI_nodup) fun o ho => by
    have := mem_rngI.mp (hp.mem_iff.mp ho); omega
  refine ⟨e, ?_⟩
  have h2 := (hp.map (fun o => (putAll acc (ns.zip os)).getD o.toNat 0))
  rw [e] at h2
  have h3 := map_getD_rng (putAll acc (ns.zip os))
  rw [putAll_length] at h3
  rw [h3] at h2
  exact h2.symm
/-! ### zip(x, y), x and y being lists somewhere -/
def zpP (x y : D) (xs ys : List D) : Mp → Prop := fun M' => match x, y with
  | .lst _, .lst _ => True
  | x, y => nrm M' x = .lst xs ∧ nrm M' y = .lst ys
theorem zpP_of {x y : D} {xs ys : List D} {M : Mp} (hx : nrm M x = .lst xs) (hy : nrm M y = .lst ys) : zpP x y xs ys M := by
  unfold zpP
  split
  · trivial
  · exact ⟨hx, hy⟩
theorem zip_hi {x y : D} {xs ys : List D} {ρ : DEnv} {M : Mp} {R : List D → (Mp → Prop) → Mp → Prop} (hx : nrm M x = .lst xs) (hy : nrm M y = .lst ys) (h : R (zipD xs ys) (zpP x y xs ys) M) : iZp (fun _ M Q => Q [x, y] M) ρ M R := by
  cases x with
  | lst xs' =>
    obtain rfl : xs' = xs := by cases hx; rfl
    cases y with
    | lst ys' =>
      obtain rfl : ys' = ys := by cases hy; rfl
      exact h
    | ref b =>
      have h2 : R (zipD xs' ys) (fun M' => nrm M' (.lst xs') = .lst xs' ∧ nrm M' (.ref b) = .lst ys) M := h
      show match nrm M (.lst xs'), nrm M (.ref b) with | .lst xs, .lst ys => R (zipD xs ys) (fun M' => nrm M' (.lst xs') = .lst xs ∧ nrm M' (.ref b) = .lst ys) M | _, _ => False
      rw [hy]
      exact h2
    | _ => cases hy
  | ref a =>
    have h2 : R (zipD xs ys) (fun M' => nrm M' (.ref a) = .lst xs ∧ nrm M' y = .lst ys) M := h
    show match nrm M (.ref a), nrm M y with | .lst xs, .lst ys => R (zipD xs ys) (fun M' => nrm M' (.ref a) = .lst xs ∧ nrm M' y = .lst ys) M | _, _ => False
    rw [hx, hy]
    exact h2
  | _ => cases hx
/-! ### == of texts -/
def nEqS (neg : Bool) : DO := fun x y M Q => match x, y with
  | .str i, .str j => Q (.bl (if neg then !decide (i = j) else decide (i = j))) M
  | x, y => nEq neg x y M Q
def wEqS (neg : Bool) : DO := fun x y M Q => nEqS neg (nrm M x) (nrm M y) M Q
theorem ot_eqS {K : PySem.W.Frag} : OpT (fun x y H Q => rEqD K x y H Q ∨ rEq x y H Q) (wEqS false) := by
  intro M H F d1 d2 v1 v2 Q Qv m r1 r2 q f
  unfold wEqS nEqS at q
  split at q
  · rename_i i j e1 e2
    have w1 := m.view r1
    have w2 := m.view r2
    rw [e1] at w1
    rw [e2] at w2
    obtain rfl : v1 = V.str i := w1
    obtain rfl : v2 = V.str j := w2
    refine .inr ⟨rfl, f.here (d := .bl _) m ?_ q⟩
    show V.bl _ = V.bl _
    simp
  · exact .inl (ot_eq M H F d1 d2 v1 v2 Q Qv m r1 r2 q f)
theorem ot_neS {K : PySem.W.Frag} : OpT (fun x y H Q => rNeD K x y H Q ∨ rNe x y H Q) (wEqS true) := by
  intro M H F d1 d2 v1 v2 Q Qv m r1 r2 q f
  unfold wEqS nEqS at q
  split at q
  · rename_i i j e1 e2
    have w1 := m.view r1
    have w2 := m.view r2
    rw [e1] at w1
    rw [e2] at w2
    obtain rfl : v1 = V.str i := w1
    obtain rfl : v2 = V.str j := w2
    refine .inr ⟨rfl, f.here (d := .bl _) m ?_ q⟩
    show V.bl _ = V.bl _
    simp
  · exact .inl (ot_ne M H F d1 d2 v1 v2 Q Qv m r1 r2 q f)
/-! ### a value with lists in it is given away: what is not kept is frozen -/
mutual
inductive Fz (M M2 : Mp) : D → D → Prop
  | same (d : D) : Fz M M2 d d
  | ref {a : Addr} {xs ys : List D} (h : M a = some (.lst xs)) (h2 : M2 a = none) (r : FzL M M2 xs ys) : Fz M M2 (.ref a) (.lst ys)
  | lst {xs ys : List D} (r : FzL M M2 xs ys) : Fz M M2 (.lst xs) (.lst ys)
  | tup {xs ys : List D} (r : FzL M M2 xs ys) : Fz M M2 (.tup xs) (.tup ys)
inductive FzL (M M2 : Mp) : List D → List D → Prop
  | same (xs : List D) : FzL M M2 xs xs
  | cons {x y : D} {xs ys : List D} (h : Fz M M2 x y) (r : FzL M M2 xs ys) : FzL M M2 (x :: xs) (y :: ys)
end
/-- what is frozen when the table shrinks -/
noncomputable def frzF (M M2 : Mp) (H F : Hp) : Hp := fun b => open Classical in if M b ≠ none ∧ M2 b = none then H b else F b
theorem frzF_same {M M2 : Mp} {H F : Hp} (m : Mem M H F) : Same F (frzF M M2 H F) := fun b o e => by
  unfold frzF
  rw [if_neg]
  · exact e
  · rintro ⟨h, _⟩
    cases hb : M b with
    | none => exact h hb
    | some q => have := (m.mem b q hb).1; rw [e] at this; cases this
theorem frzF_at {M M2 : Mp} {H F : Hp} {a : Addr} {q : MO} (h : M a = some q) (h2 : M2 a = none) : frzF M M2 H F a = H a := by
  unfold frzF
  have hn : M a ≠ none := by rw [h]; exact fun z => nomatch z
  rw [if_pos ⟨hn, h2⟩]
mutual
theorem Fz.rp {M M2 : Mp} {H F : Hp} (m : Mem M H F) : ∀ {d d' : D} {v : V}, Fz M M2 d d' → Rp F d v → Rp (frzF M M2 H F) d' v
  | _, _, _, .same d, r => Rp.mono (frzF_same m) d _ r
  | _, _, v, .ref (a := a) h h2 rl, r => by
    have r : v = .ref a := r
    subst r
    obtain ⟨_, o, ho, vs, rfl, rr⟩ := m.mem a _ h
    exact ⟨a, vs, rfl, (frzF_at h h2).trans ho, FzL.rp m rl rr⟩
  | _, _, _, .lst rl, ⟨a, vs, e, f, r⟩ => ⟨a, vs, e, frzF_same m _ _ f, FzL.rp m rl r⟩
  | _, _, _, .tup rl, ⟨a, vs, e, f, r⟩ => ⟨a, vs, e, frzF_same m _ _ f, FzL.rp m rl r⟩
theorem FzL.rp {M M2 : Mp} {H F : Hp} (m : Mem M H F) : ∀ {d d' : List D} {v : List V}, FzL M M2 d d' → RpL F d v → RpL (frzF M M2 H F) d' v
  | _, _, _, .same d, r => RpL.mono (frzF_same m) d _ r
  | _, _, _, .cons h rl, ⟨v, r, e, h1, h2⟩ => ⟨v, r, e, Fz.rp m h h1, FzL.rp m rl h2⟩
end
theorem Mem.freezes {M M2 : Mp} {H F : Hp} (m : Mem M H F) (l : MLe M2 M) : Mem M2 H (frzF M M2 H F) ∧ Ext M H F M2 H (frzF M M2 H F) := by
  refine ⟨⟨fun b o e => ?_, fun a q e => ?_⟩, frzF_same m, fun _ _ e _ => e, fun a e => ?_, fun a e => ?_⟩
  · unfold frzF at e
    split at e
    · exact e
    · exact m.same _ _ e
  · obtain ⟨h1, o, h2, h3⟩ := m.mem a q (l a q e)
    refine ⟨?_, o, h2, h3.mono (frzF_same m)⟩
    unfold frzF
    rw [if_neg (by rintro ⟨_, z⟩; rw [e] at z; cases z)]
    exact h1
  · left
    cases h : M2 a with
    | none => exact absurd h e
    | some q => rw [l a q h]; exact fun z => nomatch z
  · unfold frzF at e
    split at e
    · rename_i h; exact .inr (.inl h.1)
    · exact .inl e
def wFrzTK (Q : DK) : DK := fun d M => ∃ d' M2, MLe M2 M ∧ Fz M M2 d d' ∧ Q d' M2
def wFrzT (w : DE) : DE := fun ρ M Q => w ρ M (wFrzTK Q)
theorem tr_frzT {t : TE} {w : DE} (h : Tr t w) : Tr t (wFrzT w) := fun ρ M σ H F Q Qv er m q f => h ρ M σ H F _ _ er m q fun d v M' H' F' m' e r ⟨d', M2, l, z, q⟩ =>
  let ⟨m2, e2⟩ := m'.freezes l
  f _ _ _ _ _ m2 (e.trans e2) (z.rp m' r) q
theorem frzT_two {M : Mp} {p q : Addr} {xs ys : List D} {C : DK} (hp : M p = none) (hq : M q = none) (hpq : p ≠ q) (c : C (.tup [.lst xs, .lst ys]) M) : wFrzTK C (.tup [.ref p, .ref q]) ((M.set p (.lst xs)).set q (.lst ys)) :=
  ⟨_, M, ((MLe.refl M).put hp).put hq, .tup (.cons (.ref (by rw [Mp.set_ne hpq, Mp.set_same]) hp (.same _)) (.cons (.ref Mp.set_same hq (.same _)) (.same _))), c⟩

/-! ### xs.extend(ys), xs.count(k) -/
def mExt : DM := fun x ds M Q => match x, ds with
  | .ref a, [y] => match M a, nrm M y with
    | some (.lst xs), .lst zs => Sz (xs.length + zs.length) ∧ Q .non (M.set a (.lst (xs ++ zs)))
    | _, _ => False
  | _, _ => False
theorem mt_extendR {X : Cx} : MtR X "list.extend" rExtend := mt_extend
theorem mt_extendD : MethT rExtend mExt := by
  intro M H F d v ds vs Q Qv m r1 r2 q f
  unfold mExt at q
  split at q
  · rename_i a y
    have r1 : v = .ref a := r1
    subst r1
    obtain ⟨u, rfl, h1⟩ := rp1 r2
    have vy := m.view h1
    split at q
    · rename_i xs zs e ey
      rw [ey] at vy
      obtain ⟨b, ws, rfl, hb, rb⟩ := vy
      obtain ⟨_, o, ho, vs, rfl, rr⟩ := m.mem a _ e
      obtain ⟨m', e'⟩ := m.chg e (o := .lst (vs ++ ws)) (q := .lst (xs ++ zs)) ⟨_, rfl, rr.append rb⟩
      refine ⟨a, b, vs, ws, rfl, rfl, ho, hb, ?_, f .non _ _ _ _ m' e' rfl q.2⟩
      rw [rr.length, rb.length]; exact q.1.line
    · exact q.elim
  · exact q.elim
def mCnt : DM := fun x ds M Q => match nrm M x, ds with
  | .lst xs, [.int k] => match intsD xs with
    | some ns => Q (.int (ns.count k : Nat)) M
    | none => False
  | _, _ => False
theorem mt_countD {K : PySem.W.Frag} : MethT (rCntI K) mCnt := by
  intro M H F d v ds vs Q Qv m r1 r2 q f
  unfold mCnt at q
  have vw := m.view r1
  split at q
  · rename_i xs k e
    rw [e] at vw
    obtain ⟨a, ws, rfl, ha, ra⟩ := vw
    obtain ⟨u, rfl, h1⟩ := rp1 r2
    cases h1
    split at q
    · rename_i ns en
      have e2 := ints_eq en
      subst e2
      rw [ra.ints] at ha
      exact ⟨a, ns, k, rfl, rfl, .of ha, f.here (d := .int _) m rfl q⟩
    · exact q.elim
  · exact q.elim
/-! ### xs[i] op= e -/
theorem pget_list {X : Cx} : PGet X (rIxL X.K) := by
  intro pins s σ H x y v u Q I rx ry h
  obtain ⟨p, xs, i, z, rfl, rfl, hq, he, q⟩ := h
  cases rx
  obtain ⟨t, rfl⟩ := ry
  obtain ⟨its, r, pl, hz⟩ := I.list hq
  obtain ⟨j, h1, h2, h3, h4, h5⟩ := atI_get he
  obtain ⟨w, ew, rw'⟩ := r.get h2
  have hl := r.length
  have hn := line63
  have fin : EP X pins σ Q w s := ⟨z, H, I, rw', q⟩
  by_cases h0 : 0 ≤ i
  · have hj : i.toNat = j := by
      rw [seqIndex_of h0 h5] at h1
      exact Option.some.inj h1
    exact wpAny_getItem_list pl.isList h0 (by omega) (by rw [hj]; simpa using ew) fin
  · have hj : (i + (its.toArray.size : Int)).toNat = j := by
      rw [seqIndex_neg (by omega) h4] at h1
      rw [List.size_toArray, ← hl]
      exact Option.some.inj h1
    exact wpAny_getItem_list_neg pl.isList (by omega) (by rw [List.size_toArray] <;> omega) (by omega) (by rw [hj]; simpa using ew) fin
def nIxL : DO := fun x y M Q => match nrm M x, y with
  | .lst xs, .int i => match atI xs i with
    | some d => Q d M
    | none => False
  | _, _ => False
def sAugS (o i e : DE) (op : DO) (st : DSet) : DS := fun Dd ρ M => o ρ M fun x M1 => i ρ M1 fun y M2 => nIxL x y M2 fun z M3 => e ρ M3 fun v M4 => op z v M4 fun u M5 => st x y u M5 fun M6 => Dd.nx ρ M6
theorem ts_augS {K : PySem.W.Frag} {to ti te : TE} {o i e : DE} {r : R2} {op : DO} {t : TSet} {st : DSet} (ho : Tr to o) (hi : Tr ti i) (he : Tr te e) (hop : OpT r op) (hs : TrSet t st) : TrS (tAugS to ti te (rIxL K) r t) (sAugS o i e op st) := by
  intro ρ M σ H F Dd De er m q f
  refine ho ρ M σ H F _ _ er m q fun x ov M1 H1 F1 m1 e1 r1 q1 => ?_
  refine hi ρ M1 σ H1 F1 _ _ (er.mono e1.fs) m1 q1 fun y iv M2 H2 F2 m2 e2 r2 q2 => ?_
  have r1' := Rp.mono e2.fs _ _ r1
  have vw := m2.view r1'
  unfold nIxL at q2
  split at q2
  · rename_i xs k ex
    rw [ex] at vw
    obtain ⟨a, vs, rfl, ha, ra⟩ := vw
    have r2' : iv = .int k := r2
    subst r2'
    split at q2
    · rename_i d ed
      obtain ⟨w, ew, rw'⟩ := atI_rp ra ed
      refine ⟨a, vs, k, w, rfl, rfl, .of ha, ew, ?_⟩
      refine he ρ M2 σ H2 F2 _ _ (er.mono (e1.trans e2).fs) m2 q2 fun v4 u4 M4 H4 F4 m4 e4 r4 q4 => ?_
      refine hop M4 H4 F4 d v4 w u4 _ _ m4 (Rp.mono e4.fs _ _ rw') r4 q4 fun v5 u5 M5 H5 F5 m5 e5 r5 q5 => ?_
      refine hs x (.int k) v5 (.ref a) (.int k) u5 M5 H5 F5 _ _ m5 (Rp.mono (e4.trans e5).fs _ _ r1') rfl r5 q5 fun M6 H6 F6 m6 e6 q6 => ?_
      have ee := e1.trans (e2.trans (e4.trans (e5.trans e6)))
      exact f.nx _ _ _ _ _ (er.mono ee.fs) m6 ee q6
    · exact q2.elim
  · exact q2.elim
/-! ### [e for x in a if c for y in b if d] -/
theorem it_gen {J : It} {n : Nat} {G : Hp → Prop} {Y : Nat → Hp → V → Hp → Prop} (w : Walk J n G Y) {H0 : Hp} {Qd : Hp → Prop} {B : (Hp → Prop) → V → Hp → Prop} (Pv : Nat → Hp → Prop) (h0 : Pv 0 H0) (hG : ∀ i H, i ≤ n → Pv i H → G H)
    (hs : ∀ i x H H', i < n → Pv i H → Y i H x H' → B (Pv (i + 1)) x H') (hd : ∀ H, Pv n H → Qd H) :
    ∃ W : Nat → Nat → Hp → Prop, (∃ m, W 0 m H0) ∧ ∀ i m H, W i m H →
      (J.stop i H ∧ Qd H) ∨ (J.go i H ∧ ∃ Nx : Hp → Prop, (∀ H', Nx H' → ∃ m', m' < m ∧ W (i + 1) m' H') ∧ ∀ x H', J.yld i H x H' → B Nx x H') := by
  refine ⟨fun i m H => m = n - i ∧ i ≤ n ∧ Pv i H, ⟨n, by simp, Nat.zero_le _, h0⟩, ?_⟩
  rintro i m H ⟨rfl, hi, p⟩
  have q := hG i H hi p
  by_cases hlt : i < n
  · refine .inr ⟨w.goes i H hlt q, Pv (i + 1), fun H' p' => ⟨n - (i + 1), by omega, rfl, hlt, p'⟩, fun x H' y => hs i x H H' hlt p (w.yields i H x H' hlt q y)⟩
  · have e : i = n := by omega
    subst e
    exact .inl ⟨w.stops H q, hd H p⟩
def wLc2 (md : Md) (wi : DI) (g : DG) (tt : DT) (wi1 : DI) (g1 : DG) (tt1 : DT) (te : DE) (vs vs1 : List Nat) : DE := fun ρ M Q => wi ρ M fun xs P M1 => ∃ W : Nat → List D → Mp → Prop, W 0 [] M1 ∧ (∀ i acc M, i ≤ xs.length → W i acc M → P M) ∧
  (∀ i x acc M, xs[i]? = some x → W i acc M → g x (wipeD ρ vs) M fun ρ2 M2 => tt ρ2 M2 fun b M3 => if b = true then wi1 ρ2 M3 fun ys P1 M4 => ∃ W1 : Nat → List D → Mp → Prop, W1 0 acc M4 ∧ (∀ j acc M, j ≤ ys.length → W1 j acc M → P1 M) ∧
    (∀ j y acc M, ys[j]? = some y → W1 j acc M → g1 y (wipeD ρ2 vs1) M fun ρ3 M5 => tt1 ρ3 M5 fun b M6 => if b = true then te ρ3 M6 fun z M7 => acc.length < 16777216 ∧ W1 (j + 1) (acc ++ [z]) M7 else W1 (j + 1) acc M6) ∧ ∀ acc M, W1 ys.length acc M → W (i + 1) acc M
    else W (i + 1) acc M3) ∧ ∀ acc M, W xs.length acc M → wNew md acc M Q
theorem tr_lc2 {md : Md} {wi wi1 : TI} {g g1 : TG} {tt tt1 : TT} {te : TE} {vs vs1 : List Nat} {di di1 : DI} {dg dg1 : DG} {dt dt1 : DT} {de : DE} (hi : TrI wi di) (hg : TrC vs g dg) (ht : TrT tt dt) (hi1 : TrI wi1 di1) (hg1 : TrC vs1 g1 dg1) (ht1 : TrT tt1 dt1) (he : Tr te de) :
    Tr (tLc2 wi g tt wi1 g1 tt1 te vs vs1) (wLc2 md di dg dt di1 dg1 dt1 de vs vs1) := by
  intro ρ M σ H F Q Qv er m q f
  refine hi ρ M σ H F _ _ er m q fun xs P J M1 H1 F1 m1 e1 wk q1 D hD => ?_
  obtain ⟨W, w0, wP, wt, we⟩ := q1
  obtain ⟨G, Y, wJ, hG, hY⟩ := wk
  obtain ⟨f1, mm1⟩ := m1.fresh hD
  have erw := (er.mono e1.fs).wipe vs
  refine it_gen wJ (fun i H => ∃ acc av M F, Mem M H F ∧ Ext M1 H1 F1 M H F ∧ H D = some (.lst av) ∧ F D = none ∧ M D = none ∧ RpL F acc av ∧ W i acc M) ⟨[], [], M1, F1, m1.dark f1 mm1 _, Ext.refl.dark hD _, upd_same, f1, mm1, rfl, w0⟩
    (fun i H hi ⟨acc, av, M, F, m, e, h1, h2, h3, r, w⟩ => hG M H F m e.fs (wP i acc M hi w)) (fun i x H H' hi ⟨acc, av, M, F, m, e, h1, h2, h3, r, w⟩ y => ?_)
    fun H ⟨acc, av, M, F, m, e, h1, h2, h3, r, w⟩ => adopt m e hD h1 h2 h3 r (we acc M w) (f.ext e1)
  obtain ⟨F', d, m', e', hd, rd⟩ := hY i x H H' M F hi m e.fs (wP i acc M (Nat.le_of_lt hi) w) y
  refine hg d x (wipeD ρ vs) M (wipe σ vs) H' F' _ _ (erw.mono (e.trans e').fs) m' rd (wt i d acc M hd w) fun ρ2 M2 σ2 H2 F2 er2 m2 e2 z2 q2 => ⟨z2.trans wipe_wipe, ?_⟩
  refine ht ρ2 M2 σ2 H2 F2 _ _ er2 m2 q2 fun b M3 H3 F3 m3 e3 q3 => ?_
  have k1 := e'.still h1 h2 h3
  have k2 := e2.still k1.1 k1.2.1 k1.2.2
  have k3 := e3.still k2.1 k2.2.1 k2.2.2
  have ee := e.trans (e'.trans (e2.trans e3))
  have ra := RpL.mono (e'.trans (e2.trans e3)).fs _ _ r
  cases b with
  | false => exact ⟨acc, av, M3, F3, m3, ee, k3.1, k3.2.1, k3.2.2, ra, q3⟩
  | true =>
    refine hi1 ρ2 M3 σ2 H3 F3 _ _ (er2.mono e3.fs) m3 q3 fun ys P1 J1 M4 H4 F4 m4 e4 wk1 q4 => ?_
    obtain ⟨W1, v0, vP, vt, ve⟩ := q4
    obtain ⟨G1, Y1, wJ1, hG1, hY1⟩ := wk1
    have k4 := e4.still k3.1 k3.2.1 k3.2.2
    have ee4 := ee.trans e4
    have erv := ((er2.mono e3.fs).mono e4.fs).wipe vs1
    refine it_gen wJ1 (fun j H => ∃ acc av M F, Mem M H F ∧ Same F4 F ∧ H D = some (.lst av) ∧ F D = none ∧ M D = none ∧ Ext M1 H1 F1 M H F ∧ RpL F acc av ∧ W1 j acc M) ⟨acc, av, M4, F4, m4, .refl _, k4.1, k4.2.1, k4.2.2, ee4, RpL.mono e4.fs _ _ ra, v0⟩
      (fun j H hj ⟨acc, av, M, F, m, e, h1, h2, h3, e0, r, w⟩ => hG1 M H F m e (vP j acc M hj w)) (fun j x1 H5 H6 hj ⟨acc, av, M5, F5, m5, e5, h1, h2, h3, e0, r5, w5⟩ y1 => ?_)
      fun H ⟨acc, av, M, F, m, e, h1, h2, h3, e0, r, w⟩ => ⟨acc, av, M, F, m, e0, h1, h2, h3, r, ve acc M w⟩
    obtain ⟨F6, d1, m6, e6, hd1, rd1⟩ := hY1 j x1 H5 H6 M5 F5 hj m5 e5 (vP j acc M5 (Nat.le_of_lt hj) w5) y1
    refine hg1 d1 x1 (wipeD ρ2 vs1) M5 (wipe σ2 vs1) H6 F6 _ _ (erv.mono (e5.trans e6.fs)) m6 rd1 (vt j d1 acc M5 hd1 w5) fun ρ3 M7 σ3 H7 F7 er3 m7 e7 z3 q7 => ⟨z3.trans wipe_wipe, ?_⟩
    refine ht1 ρ3 M7 σ3 H7 F7 _ _ er3 m7 q7 fun b M8 H8 F8 m8 e8 q8 => ?_
    have j1 := e6.still h1 h2 h3
    have j2 := e7.still j1.1 j1.2.1 j1.2.2
    have j3 := e8.still j2.1 j2.2.1 j2.2.2
    have eu := e6.trans (e7.trans e8)
    cases b with
    | false => exact ⟨acc, av, M8, F8, m8, e5.trans eu.fs, j3.1, j3.2.1, j3.2.2, e0.trans eu, RpL.mono eu.fs _ _ r5, q8⟩
    | true =>
      refine he ρ3 M8 σ3 H8 F8 _ _ (er3.mono e8.fs) m8 q8 fun yd yv M9 H9 F9 m9 e9 r9 q9 => ?_
      have j4 := e9.still j3.1 j3.2.1 j3.2.2
      have ev := eu.trans e9
      exact ⟨av, j4.1, by rw [r5.length, sizeLine_eq]; exact q9.1, acc ++ [yd], av ++ [yv], M9, F9, m9.dark j4.2.1 j4.2.2 _, e5.trans ev.fs, upd_same, j4.2.1, j4.2.2, (e0.trans ev).dark hD _, (RpL.mono ev.fs _ _ r5).append (RpL.one r9), q9.2⟩
theorem cut_ab {α : Type} {xs : List α} {a b : Int} (h0 : 0 ≤ a) (h1 : a ≤ b) : cutD xs (some a) (some b) = (xs.drop a.toNat).take (b.toNat - a.toNat) := by
  obtain ⟨i, rfl⟩ := Int.eq_ofNat_of_zero_le h0
  obtain ⟨j, rfl⟩ := Int.eq_ofNat_of_zero_le (show 0 ≤ b by omega)
  unfold cutD
  rw [HT.sIx_nat, HT.sIx_nat]
  show (xs.drop (min i xs.length)).take (min j xs.length - min i xs.length) = (xs.drop i).take (j - i)
  by_cases c : i ≤ xs.length
  · rw [Nat.min_eq_left c]
    by_cases d : j ≤ xs.length
    · rw [Nat.min_eq_left d]
    · rw [Nat.min_eq_right (by omega), List.take_of_length_le (by rw [List.length_drop]; omega), List.take_of_length_le (by rw [List.length_drop]; omega)]
  · rw [List.drop_of_length_le (by omega), List.drop_of_length_le (by omega), List.take_nil, List.take_nil]
/-- the two kinds of perfect shuffles -/
def kindS (out : Bool) : Str := if out then "out" else "in"
/-! ### xs[lo:hi:step] -/
def pickL {α : Type} (xs : List α) (lo hi st : Option Int) : List α := (sliceRange (sliceBounds lo hi st xs.length).1 (sliceBounds lo hi st xs.length).2.1 (sliceBounds lo hi st xs.length).2.2).filterMap (xs[·]?)
theorem slicePick_eq (its : List Value) (lo hi st : Option Int) : slicePick its.toArray lo hi st = (pickL its lo hi st).toArray := by
  unfold slicePick pickL
  rw [List.size_toArray]
  congr 1
  simp only [List.getElem?_toArray]
theorem pickL_map {α β : Type} (f : α → β) (xs : List α) (lo hi st : Option Int) : pickL (xs.map f) lo hi st = (pickL xs lo hi st).map f := by
  unfold pickL
  rw [List.length_map, List.map_filterMap]
  congr 1
  funext i
  rw [List.getElem?_map]
theorem fm_vals {xs : List V} {us : List Value} (r : Vals xs us) : ∀ is : List Nat, Vals (is.filterMap (xs[·]?)) (is.filterMap (us[·]?))
  | [] => .nil
  | i :: is => by
    have ih := fm_vals r is
    simp only [List.filterMap_cons]
    cases e : xs[i]? with
    | none => rw [r.none_of e]; exact ih
    | some x => obtain ⟨u, e1, r1⟩ := r.get e; rw [e1]; exact .cons r1 ih
theorem fm_rp {F : Hp} {xs : List D} {vs : List V} (r : RpL F xs vs) : ∀ is : List Nat, RpL F (is.filterMap (xs[·]?)) (is.filterMap (vs[·]?))
  | [] => rfl
  | i :: is => by
    have ih := fm_rp r is
    simp only [List.filterMap_cons]
    cases e : xs[i]? with
    | none =>
      have : vs[i]? = none := by
        rw [List.getElem?_eq_none_iff] at e ⊢
        rw [r.length]; exact e
      rw [this]; exact ih
    | some x => obtain ⟨u, e1, r1⟩ := r.get e; rw [e1]; exact ⟨u, _, rfl, r1, ih⟩
theorem pick_vals' {xs : List V} {us : List Value} (r : Vals xs us) (lo hi st : Option Int) : Vals (pickL xs lo hi st) (pickL us lo hi st) := by
  unfold pickL; rw [r.length]; exact fm_vals r _
theorem pick_rp' {F : Hp} {xs : List D} {vs : List V} (r : RpL F xs vs) (lo hi st : Option Int) : RpL F (pickL xs lo hi st) (pickL vs lo hi st) := by
  unfold pickL; rw [r.length]; exact fm_rp r _
def tSlS (K : PySem.W.Frag) (te : TE) (tl th ts : TO) : TE := fun σ H Q => te σ H fun x H1 => tl σ H1 fun l H2 => th σ H2 fun u H3 => ts σ H3 fun o H4 => ∃ (a : Addr) (xs : List V), x = .ref a ∧ o ≠ some 0 ∧ SqL K H4 a xs ∧ (pickL xs l u o).length ≤ sizeLine ∧ ∀ p, H4 p = none → Q (.ref p) (L2.upd H4 p (.lst (pickL xs l u o)))
theorem pe_slS {X : Cx} {e : Expr} {lo hi st : Option Expr} {te : TE} {tl th ts : TO} {p3 pos : Pos} (he : PE X e te) (hl : PO X lo tl) (hu : PO X hi th) (hs : PO X st ts) (hsub : ∀ a b, subscripted (.Slice lo hi st p3) false a b = operate [a, b] (getItem a b)) : PE X (.Subscript e (.Slice lo hi st p3) pos) (tSlS X.K te tl th ts) := ⟨fun pins s σ H Q inv h => by
  refine Subscript_ (thn (he.run pins s σ H _ inv h) fun v s1 ⟨x, H1, inv1, r1, q1⟩ => ?_)
  refine wpAny_Slice (thn (hl.run pins s1 σ H1 _ inv1 q1) fun vl s2 ⟨l, H2, inv2, pl, q2⟩ => ?_)
  refine thn (hu.run pins s2 σ H2 _ inv2 q2) fun vu s3 ⟨u, H3, inv3, pu, q3⟩ => ?_
  refine thn (hs.run pins s3 σ H3 _ inv3 q3) fun vs s4 ⟨o, H4, inv4, ps, a, xs, ex, eo, hx, hz, q⟩ => ?_
  subst ex
  cases r1
  have inv5 : Inv X pins σ H4 { s4 with heap := s4.heap.push { cls := .type "slice", data := .fields #[vl, vu, vs] } } := inv4.kept (t' := s4.toks) fun _ _ old => Heap.get?_push_of_some _ old
  obtain ⟨its, rv, plain, size⟩ := inv5.list hx
  have same := rv.length
  show wpAny (model X.prog X.w) X.A (subscriptTail e (.Slice lo hi st p3) (.ref a) (.ref s4.heap.objs.size)) (EP X pins σ Q) X.xe { s4 with heap := s4.heap.push { cls := .type "slice", data := .fields #[vl, vu, vs] } }
  refine tail_any (ops := [.ref a, .ref s4.heap.objs.size]) plain.isList.typeIs (PySem.slot_list_getitem.lookup) ?_ (hsub _ _)
  refine wpAny_getItem_list_slice plain.isList (Heap.IsSliceOf.new _ vl vu vs) pl pu ps eo ?_ (by rw [List.size_toArray]; omega)
  rw [slicePick_eq]
  exact ⟨.ref _, _, inv5.laid (t' := s4.toks) (o := .lst (pickL xs l u o)) (fun _ _ old => Heap.get?_push_of_some _ old) (Nat.le_refl _) ⟨hz, _, 0, pick_vals' rv l u o, Heap.get?_push_size _ rfl⟩, rfl, q _ (inv5.hok.fresh (Nat.le_refl _))⟩⟩
def wSlS (md : Md) (a : DE) (lo hi st : DP) : DE := fun ρ M Q => a ρ M fun x M1 => lo ρ M1 fun l M2 => hi ρ M2 fun u M3 => st ρ M3 fun o M4 => o ≠ some 0 ∧ match nrm M4 x with
  | .lst xs => Sz (pickL xs l u o).length ∧ wNew md (pickL xs l u o) M4 Q
  | _ => False
theorem tr_slS {K : PySem.W.Frag} {md : Md} {t : TE} {tl th ts : TO} {a : DE} {lo hi st : DP} (h : Tr t a) (hl : TrP tl lo) (hh : TrP th hi) (hs : TrP ts st) : Tr (tSlS K t tl th ts) (wSlS md a lo hi st) := by
  intro ρ M σ H F Q Qv er m q f
  refine h ρ M σ H F _ _ er m q fun x v M1 H1 F1 m1 e1 r1 q1 => ?_
  refine hl ρ M1 σ H1 F1 _ _ (er.mono e1.fs) m1 q1 fun l M2 H2 F2 m2 e2 q2 => ?_
  refine hh ρ M2 σ H2 F2 _ _ (er.mono (e1.trans e2).fs) m2 q2 fun u M3 H3 F3 m3 e3 q3 => ?_
  refine hs ρ M3 σ H3 F3 _ _ (er.mono (e1.trans (e2.trans e3)).fs) m3 q3 fun o M4 H4 F4 m4 e4 q4 => ?_
  have ee := e2.trans (e3.trans e4)
  obtain ⟨q5, q4⟩ := q4
  have vw := m4.view (Rp.mono ee.fs _ _ r1)
  split at q4
  · rename_i xs e
    rw [e] at vw
    obtain ⟨a, vs, rfl, ha, ra⟩ := vw
    have rr := pick_rp' ra l u o
    exact ⟨a, vs, rfl, q5, .of ha, by rw [rr.length]; exact q4.1.line, new_lst m4 rr q4.2 (f.ext (e1.trans ee))⟩
  · exact q4.elim
/-! ### a list of lists that can be changed -/
theorem MLe.put1 {M M' : Mp} {s : Addr} {a : MO} (h : MLe M M') (hs : M' s = some a) : MLe (M.set s a) M' := fun x q e => by
  by_cases h2 : x = s
  · subst h2; rw [Mp.set_same] at e; cases e; exact hs
  · rw [Mp.set_ne h2] at e; exact h x q e
def RowsAt (M : Mp) (as : List Addr) (xss : List (List D)) : Prop := as.length = xss.length ∧ ∀ (i : Nat) (a : Addr) (xs : List D), as[i]? = some a → xss[i]? = some xs → M a = some (.lst xs)
theorem RowsAt.nil {M : Mp} : RowsAt M [] [] := ⟨rfl, fun i a xs h => by simp at h⟩
theorem RowsAt.tail {M : Mp} {a : Addr} {as : List Addr} {xs : List D} {xss : List (List D)} (h : RowsAt M (a :: as) (xs :: xss)) : M a = some (.lst xs) ∧ RowsAt M as xss :=
  ⟨h.2 0 a xs rfl rfl, by simpa using h.1, fun i b ys h1 h2 => h.2 (i + 1) b ys (by simpa using h1) (by simpa using h2)⟩
theorem RowsAt.rs {M : Mp} : ∀ {as : List Addr} {xss : List (List D)}, RowsAt M as xss → RsL M (as.map D.ref) (xss.map D.lst)
  | [], [], _ => .same _
  | [], _ :: _, h => by have := h.1; simp at this
  | _ :: _, [], h => by have := h.1; simp at this
  | a :: as, xs :: xss, h => .cons (.ref h.tail.1 (.same _)) (RowsAt.rs h.tail.2)
theorem RowsAt.fz {M M2 : Mp} : ∀ {as : List Addr} {xss : List (List D)}, RowsAt M as xss → (∀ a ∈ as, M2 a = none) → FzL M M2 (as.map D.ref) (xss.map D.lst)
  | [], [], _, _ => .same _
  | [], _ :: _, h, _ => by have := h.1; simp at this
  | _ :: _, [], h, _ => by have := h.1; simp at this
  | a :: as, xs :: xss, h, hn => .cons (.ref h.tail.1 (hn a (by simp)) (.same _)) (RowsAt.fz h.tail.2 fun b hb => hn b (by simp [hb]))
theorem RowsAt.mono {M M' : Mp} {as : List Addr} {xss : List (List D)} (h : RowsAt M as xss) (k : ∀ a ∈ as, M' a = M a) : RowsAt M' as xss :=
  ⟨h.1, fun i a xs h1 h2 => by rw [k a (List.mem_of_getElem? h1)]; exact h.2 i a xs h1 h2⟩
theorem RowsAt.some {M : Mp} {as : List Addr} {xss : List (List D)} (h : RowsAt M as xss) {a : Addr} (ha : a ∈ as) : ∃ xs, M a = some (.lst xs) := by
  obtain ⟨i, hi⟩ := List.getElem?_of_mem ha
  have hl := (List.getElem?_eq_some_iff.mp hi).1
  exact ⟨_, h.2 i a _ hi (List.getElem?_eq_getElem (by rw [← h.1]; exact hl))⟩
theorem RowsAt.put {M : Mp} {as : List Addr} {xss : List (List D)} (h : RowsAt M as xss) {p : Addr} {m : MO} (hp : p ∉ as) : RowsAt (M.set p m) as xss :=
  h.mono fun a ha => Mp.set_ne fun e => hp (e ▸ ha)
theorem RowsAt.snoc {M : Mp} {as : List Addr} {xss : List (List D)} (h : RowsAt M as xss) {a : Addr} {xs : List D} (ha : M a = .some (.lst xs)) : RowsAt M (as ++ [a]) (xss ++ [xs]) := by
  refine ⟨by simp [h.1], fun i b ys h1 h2 => ?_⟩
  by_cases hi : i < as.length
  · rw [List.getElem?_append_left hi] at h1
    rw [List.getElem?_append_left (by rw [← h.1]; exact hi)] at h2
    exact h.2 i b ys h1 h2
  · rw [List.getElem?_append_right (by omega)] at h1
    rw [List.getElem?_append_right (by rw [← h.1]; omega), ← h.1] at h2
    obtain ⟨k, hk⟩ : ∃ k, i - as.length = k := ⟨_, rfl⟩
    rw [hk] at h1 h2
    cases k with
    | zero => simp at h1 h2; subst h1; subst h2; exact ha
    | succ k => simp at h1
theorem RowsAt.setAt {M : Mp} {as : List Addr} {xss : List (List D)} (h : RowsAt M as xss) (hn : as.Nodup) {i : Nat} {a : Addr} (hi : as[i]? = .some a) (ys : List D) : RowsAt (M.set a (.lst ys)) as (xss.set i ys) := by
  refine ⟨by rw [List.length_set]; exact h.1, fun j b zs h1 h2 => ?_⟩
  by_cases hj : j = i
  · subst hj
    have hl := (List.getElem?_eq_some_iff.mp hi).1
    rw [hi] at h1; cases h1
    rw [List.getElem?_set_self (by rw [← h.1]; exact hl)] at h2; cases h2
    exact Mp.set_same
  · rw [List.getElem?_set_ne (Ne.symm hj)] at h2
    have hl := (List.getElem?_eq_some_iff.mp h1).1
    have hne : b ≠ a := fun e => by subst e; exact hj ((List.getElem?_inj hl hn).mp (h1.trans hi.symm))
    rw [Mp.set_ne hne]
    exact h.2 j b zs h1 h2
theorem atI_last_ref {as : List Addr} {a : Addr} : atI ((as ++ [a]).map D.ref) (-1) = some (.ref a) := by
  unfold atI ixN
  rw [List.length_map, List.length_append, List.length_singleton, if_neg (by decide), if_pos (by omega)]
  simp only [Option.bind_some]
  rw [show (-1 + ((as.length + 1 : Nat) : Int)).toNat = as.length by omega, List.map_append, List.getElem?_append_right (by simp)]
  simp
theorem pdOk_rows {xss : List (List Int)} : pdOk (.lst (xss.map fun l => D.lst (l.map D.int))) = true := by
  have h1 : ∀ xss : List (List Int), PyData.canLayAll0 (toPDs (xss.map fun l => D.lst (l.map D.int))) = true ∧ PyData.depthAll (toPDs (xss.map fun l => D.lst (l.map D.int))) ≤ 2 := by
    intro xss
    induction xss with
    | nil => simp [toPDs, PyData.canLayAll0, PyData.depthAll]
    | cons x xs ih =>
      have := depth_ints x
      refine ⟨by simp [toPDs, toPD, toPDs_ints, PyData.canLayAll0, PyData.canLay0, canLay_ints, ih.1], ?_⟩
      simp only [List.map_cons, toPDs, toPD, toPDs_ints, PyData.depthAll, PyData.depth]
      omega
  obtain ⟨a, b⟩ := h1 xss
  unfold pdOk SeqAt.shaped
  simp only [toPD, PyData.canLay0, a, PyData.depth, Bool.true_and, decide_eq_true_eq]
  omega
theorem deq_lnil {xs : List D} : deq (.lst xs) (.lst []) = xs.isEmpty := by
  cases xs <;> simp [deq, toPD, toPDs, PyData.eqv, PyData.eqvAll]
theorem atI_lastL {xs : List D} {d : D} : atI (xs ++ [d]) (-1) = some d := by
  unfold atI ixN
  rw [List.length_append, List.length_singleton, if_neg (by decide), if_pos (by omega)]
  simp only [Option.bind_some]
  rw [show (-1 + ((xs.length + 1 : Nat) : Int)).toNat = xs.length by omega, List.getElem?_append_right (by simp)]
  simp

/-! ### {k: v for target in iter if ..} -/
theorem adoptD {md : Md} {ks : List Key} {xs : List D} {kvs : List (Key × V)} {Q : DK} {Qv : VK} {M0 M : Mp} {H0 F0 H F : Hp} {p : Addr} (m : Mem M H F) (e : Ext M0 H0 F0 M H F) (h0 : H0 p = none) (hp : H p = some (.dK kvs)) (hf : F p = none) (hm : M p = none) (hk : kvs.map (·.1) = ks) (r : RpL F xs (kvs.map (·.2))) (h : wNewD md ks xs M Q) (f : Fin Q Qv M0 H0 F0) : Qv (.ref p) H := by
  cases md with
  | frz =>
    refine f (.dct ks xs) _ M H (L2.upd F p (.dK kvs)) ⟨fun b x q => ?_, fun a q w => ?_⟩ ⟨e.fs.trans (same_upd hf), e.keep, e.new, fun a w => ?_⟩ ⟨p, kvs, rfl, upd_same, hk, RpL.mono (same_upd hf) _ _ r⟩ h
    · by_cases hb : b = p
      · subst hb; rw [upd_same] at q; cases q; exact hp
      · rw [upd_ne hb] at q; exact m.same b x q
    · obtain ⟨h1, x, h2, h3⟩ := m.mem a q w
      have ne : a ≠ p := fun z => by subst z; rw [hm] at w; cases w
      exact ⟨by rw [upd_ne ne]; exact h1, x, h2, h3.mono (same_upd hf)⟩
    · by_cases ha : a = p
      · subst ha; exact .inr (.inr (.inl h0))
      · rw [upd_ne ha] at w; exact e.fnew a w
  | own =>
    refine f (.ref p) _ (M.set p (.dK ks xs)) H F ⟨m.same, fun a q w => ?_⟩ ⟨e.fs, e.keep, fun a w => ?_, e.fnew⟩ rfl (h p hm)
    · by_cases ha : a = p
      · subst ha; rw [Mp.set_same] at w; cases w; exact ⟨hf, _, hp, kvs, rfl, hk, r⟩
      · rw [Mp.set_ne ha] at w; exact m.mem a q w
    · by_cases ha : a = p
      · subst ha; exact .inr h0
      · rw [Mp.set_ne ha] at w; exact e.new a w
def wDc (md : Md) (wi : DI) (g : DG) (tt : DT) (tk tv : DE) (vs : List Nat) : DE := fun ρ M Q => wi ρ M fun xs P M1 => Sz xs.length ∧ ∃ W : Nat → List Key → List D → Mp → Prop, W 0 [] [] M1 ∧ (∀ i ks ys M, i ≤ xs.length → W i ks ys M → P M) ∧
  (∀ i x ks ys M, xs[i]? = some x → W i ks ys M → g x (wipeD ρ vs) M fun ρ2 M2 => tt ρ2 M2 fun b M3 => if b = true then tk ρ2 M3 fun y M4 => tv ρ2 M4 fun z M5 => (match keyD y with | some k => W (i + 1) (putKs ks k) (putXs ks ys k z) M5 | none => False) else W (i + 1) ks ys M3) ∧ ∀ ks ys M, W xs.length ks ys M → wNewD md ks ys M Q
theorem tr_dc {md : Md} {wi : TI} {g : TG} {tt : TT} {tk tv : TE} {vs : List Nat} {di : DI} {dg : DG} {dt : DT} {dk dv : DE} (hi : TrI wi di) (hg : TrC vs g dg) (ht : TrT tt dt) (hk : Tr tk dk) (hv : Tr tv dv) : Tr (tDc wi g tt tk tv vs) (wDc md di dg dt dk dv vs) := by
  intro ρ M σ H F Q Qv er m q f
  refine hi ρ M σ H F _ _ er m q fun xs P J M1 H1 F1 m1 e1 wk q1 D hD => ?_
  obtain ⟨hz, W, w0, wP, wt, we⟩ := q1
  obtain ⟨G, Y, wJ, hG, hY⟩ := wk
  obtain ⟨f1, mm1⟩ := m1.fresh hD
  have erw := (er.mono e1.fs).wipe vs
  refine it_gen wJ (fun i H => ∃ (kvs : List (Key × V)) (ys : List DL.D) (M : Mp) (F : Hp), kvs.length ≤ i ∧ Mem M H F ∧ Ext M1 H1 F1 M H F ∧ H D = some (.dK kvs) ∧ F D = none ∧ M D = none ∧ RpL F ys (kvs.map (·.2)) ∧ W i (kvs.map (·.1)) ys M) ⟨[], [], M1, F1, Nat.le_refl _, m1.dark f1 mm1 _, Ext.refl.dark hD _, upd_same, f1, mm1, rfl, w0⟩
    (fun i H hi ⟨kvs, ys, M, F, l, m, e, h1, h2, h3, r, w⟩ => hG M H F m e.fs (wP i _ _ M hi w)) (fun i x H H' hi ⟨kvs, ys, M, F, l, m, e, h1, h2, h3, r, w⟩ y => ?_)
    fun H ⟨kvs, ys, M, F, l, m, e, h1, h2, h3, r, w⟩ => adoptD m e hD h1 h2 h3 rfl r (we _ _ M w) (f.ext e1)
  obtain ⟨F', d, m', e', hd, rd⟩ := hY i x H H' M F hi m e.fs (wP i _ _ M (Nat.le_of_lt hi) w) y
  refine hg d x (wipeD ρ vs) M (wipe σ vs) H' F' _ _ (erw.mono (e.trans e').fs) m' rd (wt i d _ _ M hd w) fun ρ2 M2 σ2 H2 F2 er2 m2 e2 z2 q2 => ⟨z2.trans wipe_wipe, ?_⟩
  refine ht ρ2 M2 σ2 H2 F2 _ _ er2 m2 q2 fun b M3 H3 F3 m3 e3 q3 => ?_
  have k1 := e'.still h1 h2 h3
  have k2 := e2.still k1.1 k1.2.1 k1.2.2
  have k3 := e3.still k2.1 k2.2.1 k2.2.2
  have ee := e.trans (e'.trans (e2.trans e3))
  cases b with
  | false => exact ⟨kvs, ys, M3, F3, by omega, m3, ee, k3.1, k3.2.1, k3.2.2, RpL.mono (e'.trans (e2.trans e3)).fs _ _ r, q3⟩
  | true =>
    refine hk ρ2 M3 σ2 H3 F3 _ _ (er2.mono e3.fs) m3 q3 fun yd yv M4 H4 F4 m4 e4 r4 q4 => ?_
    have k4 := e4.still k3.1 k3.2.1 k3.2.2
    refine hv ρ2 M4 σ2 H4 F4 _ _ ((er2.mono e3.fs).mono e4.fs) m4 q4 fun zd zv M5 H5 F5 m5 e5 r5 q5 => ?_
    have k5 := e5.still k4.1 k4.2.1 k4.2.2
    split at q5
    · rename_i k ek
      have ey := keyD_rp r4 ek
      have eu := e'.trans (e2.trans (e3.trans (e4.trans e5)))
      obtain ⟨g1, g2⟩ := put_rp (ks := kvs.map (·.1)) (kvs := kvs) (k := k) rfl (RpL.mono eu.fs _ _ r) r5
      have hl := length_putK kvs k zv
      rw [← g1] at q5
      exact ⟨kvs, k, ey, k5.1, by rw [sizeLine_eq]; unfold Sz at hz; omega, putK kvs k zv, _, M5, F5, by omega, m5.dark k5.2.1 k5.2.2 _, (e.trans eu).dark hD _, upd_same, k5.2.1, k5.2.2, g2, q5⟩
    · exact q5.elim
/-! ### sep.join(texts) -/
def strsD : List D → Option (List Str)
  | [] => some []
  | .str x :: r => (strsD r).map (x :: ·)
  | _ => none
theorem strsD_map : ∀ xs : List Str, strsD (xs.map D.str) = some xs
  | [] => rfl
  | x :: r => by show (strsD (r.map D.str)).map (x :: ·) = _; rw [strsD_map r]; rfl
theorem strs_rp {F : Hp} : ∀ {xs : List D} {vs : List V} {ys : List Str}, RpL F xs vs → strsD xs = some ys → vs = ys.map V.str
  | [], _, _, r, e => by cases r; cases e; rfl
  | .str x :: xs, _, ys, ⟨v, r, e, h1, h2⟩, h => by
    subst e
    obtain ⟨zs, h3, rfl⟩ := Option.map_eq_some_iff.mp (show (strsD xs).map (x :: ·) = some ys from h)
    cases h1
    rw [strs_rp h2 h3]; rfl
  | .non :: _, _, _, _, h => nomatch h
  | .bl _ :: _, _, _, _, h => nomatch h
  | .int _ :: _, _, _, _, h => nomatch h
  | .ref _ :: _, _, _, _, h => nomatch h
  | .ty _ :: _, _, _, _, h => nomatch h
  | .lst _ :: _, _, _, _, h => nomatch h
  | .tup _ :: _, _, _, _, h => nomatch h
  | .dct _ _ :: _, _, _, _, h => nomatch h
  | .scr _ _ :: _, _, _, _, h => nomatch h
def rJoin (K : PySem.W.Frag) : V → List V → Hp → VK → Prop := fun x xs H Q => ∃ a p, ∃ ys : List Str, x = .str a ∧ xs = [.ref p] ∧ (SqL K H p (ys.map V.str) ∨ SqT K H p (ys.map V.str)) ∧
      (ys.map (·.length)).sum + ys.length * a.length ≤ 16777216 ∧ Q (.str (Txt.join a ys)) H
def wJoin (a b : DE) : DE := fun ρ M Q => a ρ M fun x M1 => match x with
  | .str s => b ρ M1 fun y M2 => match nrm M2 y with
    | .lst xs => match strsD xs with
      | some ys => (ys.map (·.length)).sum + ys.length * s.length ≤ 16777216 ∧ Q (.str (Txt.join s ys)) M2
      | none => False
    | _ => False
  | _ => False
theorem tr_join {K : PySem.W.Frag} {t u : TE} {a b : DE} (ha : Tr t a) (hb : Tr u b) : Tr (tM1 (rJoin K) t u) (wJoin a b) := by
  intro ρ M σ H F Q Qv er m q f
  refine ha ρ M σ H F _ _ er m q fun d1 v1 M1 H1 F1 m1 e1 r1 q1 => ?_
  cases d1 with
  | str s =>
    refine ⟨⟨s, r1⟩, ?_⟩
    refine hb ρ M1 σ H1 F1 _ _ (er.mono e1.fs) m1 q1 fun d2 v2 M2 H2 F2 m2 e2 r2 q2 => ?_
    have vw := m2.view r2
    split at q2
    · rename_i xs ex
      rw [ex] at vw
      obtain ⟨p, vs, rfl, hp, ra⟩ := vw
      split at q2
      · rename_i ys ey
        have := strs_rp ra ey
        subst this
        exact ⟨s, p, ys, r1, rfl, .inl (.of hp), q2.1, f (.str _) _ _ _ _ m2 (e1.trans e2) rfl q2.2⟩
      · exact q2.elim
    · exact q2.elim
  | _ => exact q1.elim
/-! ### name = {k: v for ..} on one line -/
theorem ps_setDc {X : Cx} {i : Nat} {y : Str} {py : Pos} {kx vx tg iter : Expr} {ifs : List Expr} {scope : Scope} {own : List (Str × Nat)} {pos spos : Pos} {wi : TI} {g : TG} {tt : TT} {tk tv : TE} (hc : X.calm = true) (hN : X.N.Nodup) (hy : X.N[i]? = some y) (hyl : X.env.scope.names.lookup y = some .local)
    (hsw : swapsWith (.DictComp kx vx [⟨tg, iter, ifs, 0⟩] scope pos) (some (.Name y py)) spos.line X.env = pure true) (hi : PI X tg iter wi) (ok : BlkOk X.N X.env.scope scope own)
    (hg : ∀ (s : Shared) (H : Hp) (C : Addr) (cl : List (Str × Addr)) (fp : List Addr), PG (X.blk s H scope (compEnvC scope cl C X.env) fp) tg g) (ht : ∀ (s : Shared) (H : Hp) (C : Addr) (cl : List (Str × Addr)) (fp : List Addr), PTs (X.blk s H scope (compEnvC scope cl C X.env) fp) ifs tt)
    (hk : ∀ (s : Shared) (H : Hp) (C : Addr) (cl : List (Str × Addr)) (fp : List Addr), PE (X.blk s H scope (compEnvC scope cl C X.env) fp) kx tk)
    (he : ∀ (s : Shared) (H : Hp) (C : Addr) (cl : List (Str × Addr)) (fp : List Addr), PE (X.blk s H scope (compEnvC scope cl C X.env) fp) vx tv) (hs : ∀ x, foldedSetIterable iter X.env x = pure x := by intro _; rfl) :
    PS X (.Assign [.Name y py] (.DictComp kx vx [⟨tg, iter, ifs, 0⟩] scope pos) spos) (tAsg (tDc wi g tt tk tv (own.map (·.2))) (gName i)) := by
  refine ⟨fun pins s σ H D I h => ?_⟩
  rw [exec_Assign_Name_used _ _ _ _ hsw]
  refine wpAny_bind (wpAny_standAt (wpAny_bind ?_))
  show wpAny _ X.A (do let _ ← comprehension (.DictComp kx vx [⟨tg, iter, ifs, 0⟩] scope pos) scope X.env (firstIterPos [⟨tg, iter, ifs, 0⟩] pos) newDict false (eval iter X.env) (some (assign (.Name y py) X.env))) _ _ s
  have h : tDc wi g tt tk tv (own.map (·.2)) σ H (fun x H1 => gName i x σ H1 D.nx) := h
  refine wpAny_bind (thn (dc_core (Qf := fun _ s' => SP X pins D .next s') hc hN I hi ok hg ht hk he hs h fun L C s' m H' I' q hn f => ?_) fun _ s' hq => wpAny_pure (wpAny_pure hq))
  show wpAny _ _ (assign (.Name y py) X.env (.ref L)) _ _ _
  refine wpAny_assign_Name (store_ok2 (v := V.ref L) I' hN hy (.inl hyl) rfl (fun s2 I2 ⟨a, sb, ha⟩ => ?_) (.inr hyl))
  obtain ⟨f0, f1, f2, f3, f4, f5⟩ := f
  have haC : C ≠ a := by
    rcases ha with z | z
    · rw [z]; exact f1
    · exact fun e => f4 y a z e.symm
  refine ⟨m, hn.sameBut sb haC, fun h3 sb3 => ?_⟩
  exact ⟨_, H', I2.turned (t' := s2.toks) (fun b o hb e => (sb3.2 b hb).trans e) f0 f1 f3 f4 f5, q⟩
theorem swD_true {kx vx : Expr} {gs : List Comprehension} {scope : Scope} {pos py : Pos} {y : Str} {l : Nat} {env : Env} (hk : env.scope.kind = .function) (hy : env.scope.names.lookup y = some .local) (hl : (py.line == pos.line) = true)
    (ha : (scope.names.any fun (n, k) => n == y && (k == .local || k == .cell)) = false) : swapsWith (.DictComp kx vx gs scope pos) (some (.Name y py)) l env = pure true := by
  have ky : env.kindOf y = some .local := hy
  have hb : env.blockKind = .function := by unfold Env.blockKind; rw [hk]; rfl
  unfold swapsWith
  simp only [hb, ky, ha, Expr.pos, hl]
  rfl

/-! ### sum(lists, []) -/
section
open PySem
theorem args_sum2L (a b : Value) : argsOk "sum" ⟨[a, b], []⟩ := by unfold argsOk; kernel_rfl
section
variable {prog : Program} {w : World} {A : Around} {R : Result → Shared → Prop} {I ax : Addr} {items : Array Value}
theorem codeAny_sum_lists (hh : A.in1.handled = none) (hne : ax ≠ I) (h0 : Heap) (row : Nat → Addr) (val pre : Nat → List Value) (hit : ∀ i v, items[i]? = some v → v = Value.ref (row i))
    (hrow : ∀ i, i < items.size → ∃ c, h0.get? (row i) = some { cls := .type "list", data := .seq (val i).toArray c }) (S b : Addr) (hk0 : ∀ a o, h0.get? a = some o → a ≠ I ∧ a ≠ S)
    (hSI : S ≠ I) (hSx : S ≠ ax) (hpre : ∀ i, pre (i + 1) = pre i ++ val i) (hsz : ∀ i, i ≤ items.size → (pre i).length ≤ sizeLine) :
    ∀ (k i : Nat) (s : Shared) (a : Addr) (c ca : Nat), items.size - i = k → i ≤ items.size → (s.heap.IsListIter I ax i ∧ s.heap.IsList ax items) → s.heap.get? S = some { cls := .type "list", dict := none, data := .seq #[.ref a] c, slots := #[] } →
    (∀ x o, h0.get? x = some o → s.heap.get? x = some o) → s.heap.get? a = some { cls := .type "list", data := .seq (pre i).toArray ca } → (a ≠ I ∧ a ≠ S) → (i = 0 ∧ a = b ∨ 0 < i ∧ h0.get? a = none) →
    (∀ h' tk q cq, (items.size = 0 ∧ q = b ∨ 0 < items.size ∧ h0.get? q = none) → h'.get? q = some { cls := .type "list", data := .seq (pre items.size).toArray cq } → (∀ x o, h0.get? x = some o → h'.get? x = some o) → R (.ok (.ret (.ref q))) { s with heap := h', toks := tk }) →
    codeAny (model prog w) A (.builtin "sum.loop" ⟨[.ref I, .ref S, rawInt 2, rawInt 0], []⟩) R s := by
  have W := Walks.list (prog := prog) (w := w) (A := A.in1) hh I ax hne items
  intro k
  induction k with
  | zero =>
    intro i s a c ca hk hi hst hS h0k ha hne2 hq hR
    have hin : i = items.size := by omega
    subst hin
    refine codeAny_builtin F.entry_sum_loop ?_
    rw [Around.under_plainId F.plain_sum_loop _]
    show wpAny _ A.in1 (seqItems? (.ref S) >>= _) _ _ s
    refine wpAny_bind (wpAny_seqItems hS rfl ?_)
    show wpAny _ A.in1 (tryCatch (pyNext (.ref I)) _ >>= _) _ _ s
    refine wpAny_bind (wpAny_tryCatch (W.done s _ _ hst fun h' tk hk' => ?_))
    refine wpAny_pure (hR h' tk a ca hq (hk' a _ (by simpa using hne2.1) ha) fun x o e => hk' x o (by simpa using (hk0 x o e).1) (h0k x o e))
  | succ k ih =>
    intro i s a c ca hk hi hst hS h0k ha hne2 hq hR
    have hlt : i < items.size := by omega
    refine codeAny_builtin F.entry_sum_loop ?_
    rw [Around.under_plainId F.plain_sum_loop _]
    show wpAny _ A.in1 (seqItems? (.ref S) >>= _) _ _ s
    refine wpAny_bind (wpAny_seqItems hS rfl ?_)
    show wpAny _ A.in1 (tryCatch (pyNext (.ref I)) _ >>= _) _ _ s
    refine wpAny_bind (wpAny_tryCatch (W.item i s _ _ hlt hst fun v h' tk hP hst' hk' => ?_))
    have := hit i v hP
    subst this
    obtain ⟨cr, hr⟩ := hrow i hlt
    have hr1 := hk' (row i) _ (by simpa using (hk0 _ _ hr).1) (h0k _ _ hr)
    have ha1 := hk' a _ (by simpa using hne2.1) ha
    have hS' := hk' S _ (by simpa using hSI) hS
    have hs1 := hsz (i + 1) (by omega)
    rw [hpre, List.length_append] at hs1
    show wpAny _ A.in1 ((holding [Value.ref (row i)] (binaryOp .Add (.ref a) (.ref (row i)))).attempt >>= _) _ _ _
    refine wpAny_bind (wpAny_attempt (wpAny_holding (PySem.P.add_list ha1 hr1 ?_ (by simpa using hs1))))
    have epre : (pre i).toArray ++ (val i).toArray = (pre (i + 1)).toArray := by rw [hpre]; simp
    rw [epre]
    generalize hh2 : ({ cls := .type "list", data := .seq (pre (i + 1)).toArray } : Obj) = ob
    have hSp : (h'.push ob).get? S = _ := Heap.get?_push_of_some ob hS'
    have hap : (h'.push ob).get? h'.objs.size = some ob := Heap.get?_push_size _ (by subst hh2; rfl)
    have hS1 : S ≠ h'.objs.size := Nat.ne_of_lt (Heap.lt_size hS')
    have hI1 : I ≠ h'.objs.size := by obtain ⟨o, ho, _⟩ := hst'.1; exact Nat.ne_of_lt (Heap.lt_size ho)
    have hx1 : ax ≠ h'.objs.size := by obtain ⟨o, ho, _⟩ := hst'.2; exact Nat.ne_of_lt (Heap.lt_size ho)
    have h0s : h0.get? h'.objs.size = none := by
      cases z : h0.get? h'.objs.size with
      | none => rfl
      | some o => exact absurd (Heap.lt_size (hk' _ o (by simpa using (hk0 _ o z).1) (h0k _ o z))) (Nat.lt_irrefl _)
    show wpAny _ A.in1 (updateSeq S (fun _ => #[.ref h'.objs.size]) >>= _) _ _ _
    refine wpAny_bind ?_
    refine wpAny_updateSeq hSp rfl ?_
    have hS2 := Heap.get?_update_self (Obj.mapSeq fun _ => #[Value.ref h'.objs.size]) hSp rfl
    refine wpAny_bind (wpAny_letGo ?_)
    refine wpAny_bind ?_
    have keep : ∀ x o, x ≠ S → h'.get? x = some o → (((h'.push ob).update S (Obj.mapSeq fun _ => #[Value.ref h'.objs.size])).update S (Obj.mapSeq fun _ => #[Value.ref h'.objs.size])).get? x = some o := fun x o hx e =>
      (Heap.get?_update_other _ _ (Ne.symm hx)).trans ((Heap.get?_update_other _ _ (Ne.symm hx)).trans (Heap.get?_push_of_some _ e))
    have hap2 : (((h'.push ob).update S (Obj.mapSeq fun _ => #[Value.ref h'.objs.size])).update S (Obj.mapSeq fun _ => #[Value.ref h'.objs.size])).get? h'.objs.size = some ob := (Heap.get?_update_other _ _ hS1).trans ((Heap.get?_update_other _ _ hS1).trans hap)
    subst hh2
    refine wpAny_updateSeq hS2 rfl (wpAny_pure ⟨plainId_quiet F.plain_sum_loop _, ih (i + 1) _ h'.objs.size _ 0 (by omega) hlt (W.frame _ _ _ hst' fun x hx o e => keep x o ?_ e) (Heap.get?_update_self _ hS2 rfl) (fun x o e => keep x o (hk0 x o e).2 (hk' x o (by simpa using (hk0 x o e).1) (h0k x o e))) hap2 ⟨Ne.symm hI1, Ne.symm hS1⟩ (.inr ⟨by omega, h0s⟩) fun h'' tk'' q cq hq' hg hk'' => ?_⟩)
    · intro e2
      subst e2
      simp only [List.mem_cons, List.not_mem_nil, or_false] at hx
      rcases hx with hx | hx
      · exact hSI hx
      · exact hSx hx
    · exact hR h'' tk'' q cq hq' hg hk''
end
section
variable {prog : Program} {w : World} {A : Around} {E : Value → Shared → Prop} {s : Shared}
theorem call_sum_lists {l b : Addr} {items : Array Value} {row : Nat → Addr} {val pre : Nat → List Value} {c0 : Nat} {Q : Value → Shared → Prop} (hh : A.handled = none) (hl : s.heap.IsList l items) (hit : ∀ i v, items[i]? = some v → v = Value.ref (row i))
    (hrow : ∀ i, i < items.size → ∃ c, s.heap.get? (row i) = some { cls := .type "list", data := .seq (val i).toArray c }) (hb : s.heap.get? b = some { cls := .type "list", data := .seq (pre 0).toArray c0 })
    (hpre : ∀ i, pre (i + 1) = pre i ++ val i) (hsz : ∀ i, i ≤ items.size → (pre i).length ≤ sizeLine)
    (h : ∀ h' tk q cq, (items.size = 0 ∧ q = b ∨ 0 < items.size ∧ s.heap.get? q = none) → h'.get? q = some { cls := .type "list", data := .seq (pre items.size).toArray cq } → (∀ x o, s.heap.get? x = some o → h'.get? x = some o) → Q (.ref q) { s with heap := h', toks := tk }) :
    wpAny (model prog w) A (call (.builtin "sum") [.ref l, .ref b]) Q E s := by
  have hlt : l < s.heap.objs.size := by obtain ⟨_, e, _⟩ := hl; exact Heap.lt_size e
  refine call_function_tree F.kind_sum F.plain_sum F.entry_sum (args_sum2L _ _) ?_
  unfold Builtin.«sum»
  simp only [List.length_cons, List.length_nil]
  rw [if_neg (by decide)]
  refine wpAny_bind (wpAny_of_eq (show Builtin.Builtins.bindParams "sum" ["start"] 0 { pos := [Value.ref b] } = pure [some (Value.ref b)] from rfl) ?_)
  refine wpAny_bind (wpAny_pyIter_list hl ?_)
  generalize hs2 : ({ s with heap := s.heap.push { cls := .type "list_iterator", data := .fields #[.ref l, .int 0 0] } } : Shared) = s₂
  have e2 : s₂.heap = s.heap.push { cls := .type "list_iterator", data := .fields #[.ref l, .int 0 0] } := by rw [← hs2]
  have k2 : ∀ x o, s.heap.get? x = some o → s₂.heap.get? x = some o := fun x o e => by rw [e2]; exact Heap.get?_push_of_some _ e
  have hb2 := k2 _ _ hb
  refine wpAny_bind (wpAny_pure ?_)
  simp only [List.forIn_cons, List.forIn_nil]
  refine wpAny_bind (wpAny_bind (wpAny_bind (wpAny_isInstance (T := "list") (b := false) ⟨_, hb2, rfl⟩ F.sub_list_str ?_)))
  simp only [Bool.false_eq_true, if_false]
  refine wpAny_pure (wpAny_bind (wpAny_bind (wpAny_isInstance (T := "list") (b := false) ⟨_, hb2, rfl⟩ F.sub_list_bytes ?_)))
  simp only [Bool.false_eq_true, if_false]
  refine wpAny_pure (wpAny_bind (wpAny_bind (wpAny_isInstance (T := "list") (b := false) ⟨_, hb2, rfl⟩ F.sub_list_bytearray ?_)))
  simp only [Bool.false_eq_true, if_false]
  refine wpAny_pure (wpAny_pure ?_)
  refine wpAny_bind (wpAny_newObj_type ?_)
  have szI : s.heap.objs.size < s₂.heap.objs.size := by rw [e2, Heap.size_push]; exact Nat.lt_succ_self _
  have hI : s₂.heap.IsListIter s.heap.objs.size l 0 := by rw [e2]; exact ⟨_, Heap.get?_push_size _ rfl, rfl, rfl⟩
  have hL : s₂.heap.IsList l items := by rw [e2]; exact hl.push _
  have W := Walks.list (prog := prog) (w := w) (A := A.in1) hh s.heap.objs.size l (Nat.ne_of_lt hlt) items
  refine wpAny_pure ⟨plainId_quiet F.plain_sum_loop _, codeAny_sum_lists hh (Nat.ne_of_lt hlt) s.heap row val pre hit hrow s₂.heap.objs.size b (fun a o e => ⟨Nat.ne_of_lt (Heap.lt_size e), Nat.ne_of_lt (Nat.lt_trans (Heap.lt_size e) szI)⟩)
    (Nat.ne_of_gt szI) (Nat.ne_of_gt (Nat.lt_trans hlt szI)) hpre hsz _ 0 _ b 0 c0 rfl (Nat.zero_le _) (W.frame _ _ _ ⟨hI, hL⟩ fun x _ o e => Heap.get?_push_of_some _ e) (Heap.get?_push_size _ rfl) (fun x o e => Heap.get?_push_of_some _ (k2 x o e)) (Heap.get?_push_of_some _ hb2)
    ⟨Nat.ne_of_lt (Heap.lt_size hb), Nat.ne_of_lt (Nat.lt_trans (Heap.lt_size hb) szI)⟩ (.inl ⟨rfl, rfl⟩) fun h' tk q cq hq hg hk => ?_⟩
  have := h h' tk q cq hq hg hk
  rw [← hs2]
  exact this
end
end
def rSumL : List V → Hp → VK → Prop := fun vs H Q => ∃ (a b : Addr) (ps : List (Addr × List V)), vs = [.ref a, .ref b] ∧ H a = some (.lst (ps.map fun p => V.ref p.1)) ∧ H b = some (.lst []) ∧ (∀ p ∈ ps, H p.1 = some (.lst p.2)) ∧ (ps.flatMap (·.2)).length ≤ sizeLine ∧
  (ps = [] → Q (.ref b) H) ∧ ∀ q, H q = none → Q (.ref q) (upd H q (.lst (ps.flatMap (·.2))))
theorem vals_app {xs ys : List V} {us ws : List Value} (h : Vals xs us) (h' : Vals ys ws) : Vals (xs ++ ys) (us ++ ws) := h.append h'
theorem call_sumL {X : Cx} (hc : X.calm = true) : CallR X (.builtin "sum") rSumL := by
  intro pins s σ H vs us Q I r h
  obtain ⟨a, b, ps, rfl, ha, hb, hp, hz, q0, q1⟩ := h
  obtain ⟨u1, us, rfl, r1, r2⟩ : ∃ u1 us', us = u1 :: us' ∧ RelV (.ref a) u1 ∧ Vals [.ref b] us' := by cases r with | cons h t => exact ⟨_, _, rfl, h, t⟩
  obtain ⟨u2, rfl, r3⟩ : ∃ u2, us = [u2] ∧ RelV (.ref b) u2 := by cases r2 with | cons h t => cases t with | nil => exact ⟨_, rfl, h⟩
  cases r1
  cases r3
  obtain ⟨z1, its, n1, v1, l1, e1⟩ := I.lstM ha
  obtain ⟨z2, its2, n2, v2, l2, e2⟩ := I.lstM hb
  have hi2 : its2 = [] := by cases v2; rfl
  subst hi2
  have hl : s.heap.IsList a its.toArray := ⟨_, e1, rfl, n1, rfl⟩
  have hsz : its.toArray.size = ps.length := by rw [List.size_toArray, ← l1, List.length_map]
  have key : ∀ i, ∃ (w : List Value) (c : Nat), i < ps.length → Vals (ps.getD i (0, [])).2 w ∧ s.heap.get? (ps.getD i (0, [])).1 = some { cls := .type "list", data := .seq w.toArray c } := fun i => by
    by_cases hi : i < ps.length
    · have hm : ps.getD i (0, []) ∈ ps := by rw [List.getD_eq_getElem?_getD, List.getElem?_eq_getElem hi]; exact List.getElem_mem hi
      obtain ⟨_, w, c, v, _, e⟩ := I.lstM (hp _ hm)
      exact ⟨w, c, fun _ => ⟨v, e⟩⟩
    · exact ⟨[], 0, fun h => absurd h hi⟩
  let val : Nat → List Value := fun i => Classical.choose (key i)
  have hval : ∀ i, i < ps.length → Vals (ps.getD i (0, [])).2 (val i) ∧ ∃ c, s.heap.get? (ps.getD i (0, [])).1 = some { cls := .type "list", data := .seq (val i).toArray c } := fun i hi => by
    obtain ⟨c, h⟩ := Classical.choose_spec (key i)
    exact ⟨(h hi).1, c, (h hi).2⟩
  have hpre : ∀ i, i ≤ ps.length → Vals ((ps.take i).flatMap (·.2)) ((List.range i).flatMap val) := fun i => by
    induction i with
    | zero => intro _; exact .nil
    | succ i ih =>
      intro hi
      rw [List.range_succ, List.flatMap_append, List.take_add_one, List.getElem?_eq_getElem (by omega), List.flatMap_append]
      refine (ih (by omega)).append ?_
      have := (hval i (by omega)).1
      rw [List.getD_eq_getElem?_getD, List.getElem?_eq_getElem (by omega)] at this
      simpa using this
  have hlen : ∀ i, i ≤ ps.length → ((List.range i).flatMap val).length ≤ sizeLine := fun i hi => by
    rw [← (hpre i hi).length]
    refine Nat.le_trans ?_ hz
    have e : ps.flatMap (·.2) = (ps.take i).flatMap (·.2) ++ (ps.drop i).flatMap (·.2) := by rw [← List.flatMap_append, List.take_append_drop]
    rw [e, List.length_append]
    exact Nat.le_add_right _ _
  refine call_sum_lists (items := its.toArray) (row := fun i => (ps.getD i (0, [])).1) (val := val) (pre := fun i => (List.range i).flatMap val) (I.ok.hd hc) hl (fun i v hv => ?_) (fun i hi => (hval i (by omega)).2) e2 (fun i => by rw [List.range_succ, List.flatMap_append]; simp) (fun i hi => hlen i (by omega)) fun h' tk q cq hq hg hk => ?_
  · have hv2 : its[i]? = some v := by simpa using hv
    have hi : i < ps.length := by have := (List.getElem?_eq_some_iff.mp hv2).1; rw [← hsz, List.size_toArray]; exact this
    have := L2.Vals.get v1 (i := i) (x := .ref (ps.getD i (0, [])).1) (by rw [List.getElem?_map, List.getElem?_eq_getElem hi, List.getD_eq_getElem?_getD, List.getElem?_eq_getElem hi]; rfl)
    obtain ⟨w, hw, rw1⟩ := this
    rw [hv2] at hw
    cases hw
    cases rw1
    rfl
  · by_cases h0 : ps = []
    · subst h0
      rcases hq with ⟨_, rfl⟩ | ⟨hq, _⟩
      · exact ⟨.ref q, H, I.kept hk, rfl, q0 rfl⟩
      · rw [hsz] at hq; exact absurd hq (Nat.lt_irrefl _)
    · rcases hq with ⟨hq, _⟩ | ⟨_, hq⟩
      · rw [hsz] at hq; exact absurd (List.length_eq_zero_iff.mp hq) h0
      · have hn : H q = none := I.hok.gone hq
        rw [hsz] at hg
        have hv := hpre ps.length (Nat.le_refl _)
        rw [List.take_length] at hv
        exact ⟨.ref q, _, I.laidN (o := .lst (ps.flatMap (·.2))) hk hq hn ⟨hz, _, cq, hv, hg⟩, rfl, q1 q hn⟩
def lstsD : List D → Option (List (List D))
  | [] => some []
  | .lst ys :: r => (lstsD r).map (ys :: ·)
  | _ => none
theorem lstsD_map {α : Type} (f : α → List D) : ∀ l : List α, lstsD (l.map fun a => D.lst (f a)) = some (l.map f)
  | [] => rfl
  | a :: l => by show (lstsD (l.map fun a => D.lst (f a))).map (f a :: ·) = _; rw [lstsD_map f l]; rfl
theorem rows_rp {F H : Hp} (sm : Same F H) : ∀ {xs : List D} {vs : List V} {yss : List (List D)}, RpL F xs vs → lstsD xs = some yss → ∃ ps : List (Addr × List V), vs = ps.map (fun p => V.ref p.1) ∧ (∀ p ∈ ps, H p.1 = some (.lst p.2)) ∧ RpL F yss.flatten (ps.flatMap (·.2)) ∧ (ps = [] ↔ yss = [])
  | [], _, _, r, e => by cases r; cases e; exact ⟨[], rfl, fun _ h => absurd h List.not_mem_nil, rfl, by simp⟩
  | .lst ys :: xs, _, yss, ⟨v, r, e, h1, h2⟩, h => by
    subst e
    obtain ⟨zss, h3, rfl⟩ := Option.map_eq_some_iff.mp (show (lstsD xs).map (ys :: ·) = some yss from h)
    obtain ⟨a, ws, rfl, ha, hr⟩ := h1
    obtain ⟨ps, rfl, hp, hf, _⟩ := rows_rp sm h2 h3
    refine ⟨(a, ws) :: ps, rfl, fun p hm => ?_, ?_, by simp⟩
    · rcases List.mem_cons.mp hm with rfl | hm
      · exact sm _ _ ha
      · exact hp p hm
    · rw [List.flatten_cons, List.flatMap_cons]
      exact hr.append hf
  | .non :: _, _, _, _, h => nomatch h
  | .bl _ :: _, _, _, _, h => nomatch h
  | .int _ :: _, _, _, _, h => nomatch h
  | .ref _ :: _, _, _, _, h => nomatch h
  | .ty _ :: _, _, _, _, h => nomatch h
  | .str _ :: _, _, _, _, h => nomatch h
  | .tup _ :: _, _, _, _, h => nomatch h
  | .dct _ _ :: _, _, _, _, h => nomatch h
  | .scr _ _ :: _, _, _, _, h => nomatch h
def cSumL : DC := fun ds M Q => match ds with
  | [x, .lst []] => match nrm M x with
    | .lst xs => match lstsD xs with
      | some yss => Sz yss.flatten.length ∧ Q (.lst yss.flatten) M
      | none => False
    | _ => False
  | _ => False
theorem ct_sumL : CallT rSumL cSumL := by
  intro M H F ds vs Q Qv m r q f
  unfold cSumL at q
  split at q
  · rename_i x
    obtain ⟨v, w, rfl, h1, h2⟩ := rp2 r
    have vw := m.view h1
    obtain ⟨b, ws, rfl, hb, hw⟩ := h2
    have hw0 : ws = [] := by cases hw; rfl
    subst hw0
    split at q
    · rename_i xs e
      rw [e] at vw
      obtain ⟨a, vs, rfl, ha, ra⟩ := vw
      split at q
      · rename_i yss ey
        obtain ⟨ps, rfl, hp, hf, h0⟩ := rows_rp m.same ra ey
        refine ⟨a, b, ps, rfl, ha, m.same _ _ hb, hp, by rw [hf.length]; exact q.1.line, fun e0 => ?_, new_lst (md := .frz) m hf q.2 f⟩
        have := h0.mp e0
        subst this
        exact f.here (d := .lst []) m ⟨b, [], rfl, hb, rfl⟩ q.2
      · exact q.elim
    · exact q.elim
  · exact q.elim
/-! ### a new list of new lists -/
def RowsNew (M : Mp) (rows : List (List D)) (Q : DK) : Prop := ∀ (f : Addr) (as : List Addr) (M2 : Mp), MLe M M2 → M f = none → (∀ a ∈ as, M a = none) → as.Nodup → f ∉ as → M2 f = some (.lst (as.map .ref)) → RowsAt M2 as rows → Q (.ref f) M2
theorem frzT_rows {M : Mp} {rows : List (List D)} {C : DK} (c : C (.lst (rows.map .lst)) M) : RowsNew M rows (wFrzTK C) := fun f as M2 hle hf hn _ _ hM hr =>
  ⟨_, M, hle, .ref hM hf (hr.fz hn), c⟩
/-! ### a walk whose list is found by changing things -/
def ForG (g : DG) (tb : DS) (Dd : DEnds) (ρ : DEnv) : List D → (Mp → Prop) → Mp → Prop := fun xs P M1 => ∃ W : Nat → DEnv → Mp → Prop, W 0 ρ M1 ∧ (∀ i ρ M, i ≤ xs.length → W i ρ M → P M) ∧
  (∀ i x ρ M, xs[i]? = some x → W i ρ M → g x ρ M fun ρ1 M1 => tb { Dd with nx := W (i + 1), ct := W (i + 1), bk := Dd.nx } ρ1 M1) ∧ ∀ ρ M, W xs.length ρ M → Dd.nx ρ M
theorem for_open {di : DI} {g : DG} {tb : DS} {Dd : DEnds} {ρ : DEnv} {M : Mp} (h : di ρ M (ForG g tb Dd ρ)) : sFor di g tb Dd ρ M := h
theorem forG_of {g : DG} {tb : DS} {Dd : DEnds} {ρ : DEnv} {M : Mp} {xs : List D} {P : Mp → Prop} (W : Nat → DEnv → Mp → Prop) (h0 : W 0 ρ M) (hP : ∀ i ρ M, i ≤ xs.length → W i ρ M → P M)
    (hs : ∀ i x ρ M, xs[i]? = some x → W i ρ M → g x ρ M fun ρ1 M1 => tb { Dd with nx := W (i + 1), ct := W (i + 1), bk := Dd.nx } ρ1 M1) (he : ∀ ρ M, W xs.length ρ M → Dd.nx ρ M) : ForG g tb Dd ρ xs P M := ⟨W, h0, hP, hs, he⟩
/-! ### every h-th card -/
theorem srt_extN : ∀ {a b : List Nat}, a.Pairwise (· < ·) → b.Pairwise (· < ·) → (∀ x, x ∈ a ↔ x ∈ b) → a = b := fun {a b} ha hb h => by
  have := srt_ext (a := a.map fun j : Nat => (j : Int)) (b := b.map fun j : Nat => (j : Int)) (by rw [List.pairwise_map]; exact ha.imp fun h => by omega) (by rw [List.pairwise_map]; exact hb.imp fun h => by omega) (fun x => by
    rw [List.mem_map, List.mem_map]
    exact ⟨fun ⟨j, hj, e⟩ => ⟨j, (h j).mp hj, e⟩, fun ⟨j, hj, e⟩ => ⟨j, (h j).mpr hj, e⟩⟩)
  exact (List.map_inj_right (fun _ _ e => by omega)).mp this
theorem bounds_step {r h n : Nat} (hh : 1 ≤ h) : sliceBounds (some (r : Int)) none (some (h : Int)) n = (((min r n : Nat) : Int), (n : Int), (h : Int)) := by
  have h0 : ¬ (h : Int) < 0 := by omega
  have hr : ¬ (r : Int) < 0 := by omega
  have h1 : (h : Int) > 0 := by omega
  unfold sliceBounds
  simp [h0, hr, h1]
  omega
theorem pick_idx {r h n : Nat} (hh : 1 ≤ h) (hr : r < h) : pickL (List.range n) (some (r : Int)) none (some (h : Int)) = (List.range n).filter fun j => decide (j % h = r) := by
  unfold pickL
  rw [List.length_range, bounds_step hh]
  simp only
  have e : ∀ is : List Nat, (∀ i ∈ is, i < n) → is.filterMap ((List.range n)[·]?) = is := fun is => by
    induction is with
    | nil => intro _; rfl
    | cons i is ih =>
      intro hi
      rw [List.filterMap_cons, List.getElem?_range (hi i List.mem_cons_self), ih fun j hj => hi j (List.mem_cons_of_mem _ hj)]
  have hmem : ∀ j, j ∈ sliceRange ((min r n : Nat) : Int) (n : Int) (h : Int) ↔ j ∈ (List.range n).filter fun j => decide (j % h = r) := fun j => by
    unfold sliceRange
    rw [if_pos (by omega), List.mem_map, List.mem_filter, List.mem_range, decide_eq_true_eq]
    constructor
    · rintro ⟨k, hk, rfl⟩
      rw [List.mem_range] at hk
      by_cases hrn : r < n
      · rw [Nat.min_eq_left (by omega)] at hk ⊢
        rw [if_pos (by omega)] at hk
        have h2 : (k : Int) < ((n : Int) - r + h - 1) / h := by omega
        have h3 : ((k : Int) + 1) * h ≤ (n : Int) - r + h - 1 := (Int.le_ediv_iff_mul_le (by omega)).mp (by omega)
        have h4 : ((r : Int) + h * k).toNat = r + h * k := by rw [← Int.natCast_mul, ← Int.natCast_add, Int.toNat_natCast]
        rw [h4]
        have h5 : ((k : Int) + 1) * h = h * k + h := by rw [Int.add_mul, Int.mul_comm]; omega
        refine ⟨?_, by rw [Nat.add_mul_mod_self_left, Nat.mod_eq_of_lt hr]⟩
        have h6 : ((h * k : Nat) : Int) = (h : Int) * k := Int.natCast_mul h k
        omega
      · rw [Nat.min_eq_right (by omega), if_neg (by omega)] at hk
        simp at hk
    · rintro ⟨hj, hjr⟩
      have hle : r ≤ j := by rw [← hjr]; exact Nat.mod_le j h
      have hdm := Nat.div_add_mod j h
      rw [hjr] at hdm
      refine ⟨j / h, ?_, ?_⟩
      · rw [List.mem_range, Nat.min_eq_left (by omega), if_pos (by omega)]
        have h3 : ((j / h : Nat) : Int) + 1 ≤ ((n : Int) - r + h - 1) / h := (Int.le_ediv_iff_mul_le (by omega)).mpr (by
          have h5 : (((j / h : Nat) : Int) + 1) * h = h * (j / h : Nat) + h := by rw [Int.add_mul, Int.mul_comm]; omega
          have h6 : ((h * (j / h) : Nat) : Int) = (h : Int) * (j / h : Nat) := Int.natCast_mul h (j / h)
          omega)
        omega
      · rw [Nat.min_eq_left (by omega)]
        have h6 : ((h * (j / h) : Nat) : Int) = (h : Int) * (j / h : Nat) := Int.natCast_mul h (j / h)
        omega
  have hlt : ∀ i ∈ sliceRange ((min r n : Nat) : Int) (n : Int) (h : Int), i < n := fun i hi => List.mem_range.mp (List.mem_filter.mp ((hmem i).mp hi)).1
  rw [e _ hlt]
  refine srt_extN ?_ (List.pairwise_lt_range.filter _) hmem
  unfold sliceRange
  rw [List.pairwise_map]
  refine List.pairwise_lt_range.imp fun {a b} hab => ?_
  have : (h : Int) * a < h * b := Int.mul_lt_mul_of_pos_left (by omega) (by omega)
  have h7 : 0 ≤ (h : Int) * a := Int.mul_nonneg (by omega) (by omega)
  omega
/-- the cards of a heap, as they come -/
def rowF (ns : List Int) (h i r : Nat) : List Int := ((List.range i).filter fun j => decide (j % h = r)).map fun j => ns.getD j 0
theorem pick_row {ns : List Int} {h r : Nat} (hh : 1 ≤ h) (hr : r < h) : pickL ns (some (r : Int)) none (some (h : Int)) = rowF ns h ns.length r := by
  have e : ns = (List.range ns.length).map fun j => ns.getD j 0 := by
    apply List.ext_getElem
    · simp
    · intro i h1 h2
      simp [List.getD_eq_getElem?_getD, List.getElem?_eq_getElem h1]
  conv => lhs; rw [e]
  rw [pickL_map, pick_idx hh hr]
  rfl
theorem rowF_length {ns : List Int} {h i r : Nat} : (rowF ns h i r).length ≤ i := by
  unfold rowF
  rw [List.length_map]
  refine Nat.le_trans (List.length_filter_le ..) ?_
  rw [List.length_range]; exact Nat.le_refl _
theorem frzT_rowsI {M : Mp} {xss : List (List Int)} {C : DK} (c : C (.lst (xss.map fun l => D.lst (l.map D.int))) M) : RowsNew M (xss.map fun l => l.map D.int) (wFrzTK C) :=
  frzT_rows (by rw [List.map_map]; exact c)
theorem rowF_rng {n h r : Nat} : rowF (rngI 0 1 n) h n r = ((List.range n).filter fun j => decide (j % h = r)).map (fun j : Nat => (j : Int)) := by
  unfold rowF
  apply List.map_congr_left
  intro j hj
  have := List.mem_range.mp (List.mem_filter.mp hj).1
  rw [rngI_getD this]; omega
theorem nodup_perm2 : ∀ {l m : List Int}, l.Nodup → (∀ x ∈ l, x ∈ m) → m.length ≤ l.length → l.Perm m
  | [], m, _, _, hl => by cases m with | nil => exact List.Perm.refl _ | cons => simp at hl
  | a :: l, m, hn, hs, hl => by
    have ha := hs a List.mem_cons_self
    obtain ⟨h1, h2⟩ := List.nodup_cons.mp hn
    refine List.Perm.trans ?_ (List.perm_cons_erase ha).symm
    refine List.Perm.cons a (nodup_perm2 h2 (fun x hx => ?_) ?_)
    · exact (List.mem_erase_of_ne (fun e => by subst e; exact h1 hx)).mpr (hs x (List.mem_cons_of_mem _ hx))
    · rw [List.length_erase_of_mem ha]; simp only [List.length_cons] at hl; omega
theorem rowF_step {ns : List Int} {h i r : Nat} : rowF ns h (i + 1) r = rowF ns h i r ++ (if i % h = r then [ns.getD i 0] else []) := by
  unfold rowF
  rw [List.range_succ, List.filter_append, List.map_append]
  congr 1
  by_cases e : i % h = r
  · rw [if_pos e]; simp [e]
  · rw [if_neg e]; simp [e]
/-! ### things within things that can be changed -/
mutual
inductive Sp (M : Mp) : Nat → D → List Addr → Prop
  | flat {n : Nat} {d : D} (h : flatD d = true) : Sp M n d []
  | ref {n : Nat} {a : Addr} {xs : List D} {as : List Addr} (h : M a = some (.lst xs)) (l : xs.length ≤ 10000) (r : SpL M n xs as) : Sp M (n + 1) (.ref a) (a :: as)
inductive SpL (M : Mp) : Nat → List D → List Addr → Prop
  | nil {n : Nat} : SpL M n [] []
  | cons {n : Nat} {x : D} {xs : List D} {as bs : List Addr} (h : Sp M n x as) (r : SpL M n xs bs) : SpL M n (x :: xs) (as ++ bs)
end
mutual
theorem Sp.mono {M M' : Mp} {n : Nat} {d : D} {as : List Addr} (h : Sp M n d as) (k : ∀ a ∈ as, M' a = M a) : Sp M' n d as := by
  cases h with
  | flat h => exact .flat h
  | ref h l r => exact .ref (by rw [k _ List.mem_cons_self]; exact h) l (SpL.mono r fun a ha => k a (List.mem_cons_of_mem _ ha))
theorem SpL.mono {M M' : Mp} {n : Nat} {xs : List D} {as : List Addr} (h : SpL M n xs as) (k : ∀ a ∈ as, M' a = M a) : SpL M' n xs as := by
  cases h with
  | nil => exact .nil
  | cons h r => exact .cons (Sp.mono h fun a ha => k a (List.mem_append_left _ ha)) (SpL.mono r fun a ha => k a (List.mem_append_right _ ha))
end
theorem SpL.ints {M : Mp} {n : Nat} : ∀ ns : List Int, SpL M n (ns.map D.int) []
  | [] => .nil
  | k :: ns => .cons (as := []) (.flat rfl) (SpL.ints ns)
theorem SpL.rows {M : Mp} {n : Nat} : ∀ {as : List Addr} {xss : List (List Int)}, RowsAt M as (xss.map fun l => l.map D.int) → (∀ l ∈ xss, l.length ≤ 10000) → SpL M (n + 1) (as.map D.ref) as
  | [], [], _, _ => .nil
  | [], _ :: _, h, _ => by have := h.1; simp at this
  | _ :: _, [], h, _ => by have := h.1; simp at this
  | a :: as, l :: xss, h, hl => .cons (as := [a]) (.ref h.tail.1 (by rw [List.length_map]; exact hl l List.mem_cons_self) (SpL.ints l)) (SpL.rows h.tail.2 fun m hm => hl m (List.mem_cons_of_mem _ hm))

/-! ### sorted and min of a list of lists of ints -/
section
open PySem.W
abbrev IRow := Addr × List Int
def encL (p : IRow) : PyData := .list (p.2.map .int)
def leR (a b : List Int) : Bool := decide (a ≤ b)
def rSortLL : List V → Hp → VK → Prop := fun vs H Q => ∃ (a : Addr) (ps : List IRow), vs = [.ref a] ∧ H a = some (.lst (ps.map fun p => V.ref p.1)) ∧ (∀ p ∈ ps, H p.1 = some (.lst (p.2.map V.int))) ∧
  ∀ q, H q = none → Q (.ref q) (upd H q (.lst ((ps.mergeSort fun x y => leR x.2 y.2).map fun p => V.ref p.1)))
theorem vals_refs : ∀ {ps : List IRow} {us : List Value}, Vals (ps.map fun p => V.ref p.1) us → us = ps.map fun p => Value.ref p.1
  | [], us, h => by cases h; rfl
  | p :: ps, us, h => by
    cases h with | cons h1 t =>
    cases h1
    rw [vals_refs t]; rfl
theorem refs_vals : ∀ (ps : List IRow), Vals (ps.map fun p => V.ref p.1) (ps.map fun p => Value.ref p.1)
  | [] => .nil
  | p :: ps => .cons rfl (refs_vals ps)
theorem each_refs : ∀ (ps : List IRow), EachIs (fun v p => v = Value.ref p.1) (ps.map fun p => Value.ref p.1) ps
  | [] => .nil
  | _ :: ps => .cons rfl (each_refs ps)
theorem each_refs_eq : ∀ {vs : List Value} {ps : List IRow}, EachIs (fun v p => v = Value.ref p.1) vs ps → vs = ps.map fun p => Value.ref p.1
  | _, _, .nil => rfl
  | _, _, .cons h t => by rw [h, each_refs_eq t]; rfl
theorem each_reads {h : Heap} : ∀ {ps : List IRow}, (∀ p ∈ ps, ∃ as, Reads h (.ref p.1) (encL p) as) → EachIs (fun v p => ∃ as, Reads h v (encL p) as) (ps.map fun p => Value.ref p.1) ps
  | [], _ => .nil
  | p :: ps, hp => .cons (hp p List.mem_cons_self) (each_reads fun q hq => hp q (List.mem_cons_of_mem _ hq))
theorem reads_row {X : Cx} {pins : List (Addr × Obj)} {σ : L2.St} {H : Hp} {s : Shared} (I : Inv X pins σ H s) {p : IRow} (hp : H p.1 = some (.lst (p.2.map V.int))) : ∃ as, Reads s.heap (.ref p.1) (encL p) as := by
  obtain ⟨_, w, c, v, _, e⟩ := I.lstM hp
  exact ⟨_, Reads.list e rfl rfl ((ints_vals v).reads s.heap)⟩
theorem ints_alike : ∀ a b : List Int, alikeAll (a.map .int) (b.map .int) = true
  | [], _ => by rw [List.map_nil, alikeAll]
  | _ :: _, [] => by rw [List.map_cons, List.map_nil, alikeAll]
  | x :: a, y :: b => by rw [List.map_cons, List.map_cons, alikeAll, alike, ints_alike a b]; rfl
theorem encL_alike (p q : IRow) : alike (encL p) (encL q) = true := by
  unfold encL; rw [alike]; exact ints_alike _ _
theorem KE_depth : ∀ ns : List Int, PyData.depthAll (ns.map .int) = 0 := PySem.W.depth_ints
theorem encL_depth (p : IRow) : (encL p).depth = 1 := by
  unfold encL; rw [PyData.depth, KE_depth]
theorem call_sortLL {X : Cx} (hu : X.A.units + 65 < cLine) : CallR X (.builtin "sorted") rSortLL := by
  intro pins s σ H vs us Q I r h
  obtain ⟨a, ps, rfl, ha, hp, q⟩ := h
  rw [Vals.ref1 r]
  obtain ⟨z1, its, n1, v1, l1, e1⟩ := I.lstM ha
  have hits := vals_refs v1
  subst hits
  have hl : s.heap.IsList a (ps.map fun p => Value.ref p.1).toArray := ⟨_, e1, rfl, n1, rfl⟩
  rw [List.length_map] at z1
  refine sorted_data (enc := encL) hl (each_refs ps) (each_reads fun p hm => reads_row I (hp p hm)) (AllAlike.of fun x y => encL_alike x y) (Sortable.others fun b => ⟨by unfold encL; exact nofun, fun xs => by unfold encL; exact nofun⟩) z1 (fun b hb => ?_) fun out ho eo => ?_
  · rw [encL_depth]; omega
  · have e := each_refs_eq eo
    subst e
    obtain ⟨c, hc⟩ := sortedAll_at s.heap (ps.map fun p => Value.ref p.1) ((ps.mergeSort (dataLe false encL)).map fun p => Value.ref p.1).toArray
    have er : dataLe false encL = fun x y : IRow => leR x.2 y.2 := dataLe_rows (fun p : IRow => p.2)
    rw [er] at hc ⊢
    have hgo : s.heap.get? (s.heap.objs.size + 1) = none := by
      cases z : s.heap.get? (s.heap.objs.size + 1) with
      | none => rfl
      | some o => exact absurd (Heap.lt_size z) (Nat.not_lt.mpr (Nat.le_succ _))
    have hn := I.hok.fresh (Nat.le_succ s.heap.objs.size)
    exact ⟨.ref (s.heap.objs.size + 1), _, I.laidN (o := .lst ((ps.mergeSort fun x y => leR x.2 y.2).map fun p => V.ref p.1)) (fun _ _ => sortedAll_old) hgo hn ⟨by rw [List.length_map, List.length_mergeSort]; exact z1, _, c, refs_vals _, hc⟩, rfl, q _ hn⟩
/-- the least row -/
def minR : List (List Int) → List Int
  | [] => []
  | r :: rs => rs.foldl (fun a y => if decide (y < a) then y else a) r
theorem minD_rows : ∀ (rs : List (List Int)) (r : List Int), minD (.list (r.map .int)) (rs.map fun l => PyData.list (l.map .int)) = .list ((minR (r :: rs)).map .int)
  | [], r => rfl
  | y :: rs, r => by
    have e : dataLt (.list (y.map .int)) (.list (r.map .int)) = decide (y < r) := by
      rw [dataLt_list]; exact dataLt_ints y r
    have ih := minD_rows rs (if decide (y < r) then y else r)
    have e2 : minD (.list (r.map .int)) ((y :: rs).map fun l => PyData.list (l.map .int)) = minD (.list ((if decide (y < r) then y else r).map .int)) (rs.map fun l => PyData.list (l.map .int)) := by
      unfold minD
      rw [List.map_cons, List.foldl_cons, e]
      congr 1
      split <;> rfl
    rw [e2, ih]
    rfl
def rMinLL : List V → Hp → VK → Prop := fun vs H Q => ∃ (a : Addr) (ps : List IRow), vs = [.ref a] ∧ H a = some (.lst (ps.map fun p => V.ref p.1)) ∧ (∀ p ∈ ps, H p.1 = some (.lst (p.2.map V.int))) ∧ ps ≠ [] ∧
  ∀ p ∈ ps, p.2 = minR (ps.map (·.2)) → Q (.ref p.1) H
theorem call_minLL {X : Cx} (hc : X.calm = true) (hu : X.A.units + 65 < cLine) : CallR X (.builtin "min") rMinLL := by
  intro pins s σ H vs us Q I r h
  obtain ⟨a, ps, rfl, ha, hp, hne, q⟩ := h
  rw [Vals.ref1 r]
  obtain ⟨z1, its, n1, v1, l1, e1⟩ := I.lstM ha
  have hits := vals_refs v1
  subst hits
  have hl : s.heap.IsList a (ps.map fun p => Value.ref p.1).toArray := ⟨_, e1, rfl, n1, rfl⟩
  obtain ⟨p0, pr, rfl⟩ : ∃ p0 pr, ps = p0 :: pr := by cases ps with
    | nil => exact absurd rfl hne
    | cons p0 pr => exact ⟨p0, pr, rfl⟩
  have hra : ∃ as, ReadsAll s.heap ((p0 :: pr).map fun p => Value.ref p.1) ((p0 :: pr).map encL) as := each_readsAll encL (each_reads fun p hm => reads_row I (hp p hm))
  obtain ⟨as, hra⟩ := hra
  rw [List.map_cons (f := encL)] at hra
  refine min_list_data (I.ok.hd hc) hl (by simpa using hra) ⟨fun x hx y hy => ?_, fun x hx => ?_⟩ ?_ fun i v h' tk bs hv hr hk => ?_
  · obtain ⟨p, _, rfl⟩ := List.mem_map.mp (show x ∈ (p0 :: pr).map encL from hx)
    obtain ⟨q, _, rfl⟩ := List.mem_map.mp (show y ∈ (p0 :: pr).map encL from hy)
    exact encL_alike p q
  · obtain ⟨p, _, rfl⟩ := List.mem_map.mp (show x ∈ (p0 :: pr).map encL from hx)
    unfold encL; exact nofun
  · have hd : ∀ l : List IRow, PyData.depthAll (l.map encL) ≤ 1 := fun l => by
      induction l with
      | nil => simp [PyData.depthAll]
      | cons p l ih => rw [List.map_cons, PyData.depthAll, encL_depth]; omega
    have := hd (p0 :: pr)
    rw [List.map_cons] at this
    omega
  · have hv2 : ((p0 :: pr).map fun p => Value.ref p.1)[i]? = some v := by simpa using hv
    rw [List.getElem?_map] at hv2
    obtain ⟨p, hpi, rfl⟩ := Option.map_eq_some_iff.mp hv2
    have hpm := List.mem_of_getElem? hpi
    obtain ⟨bs2, hr2⟩ := reads_row I (hp p hpm)
    have hr3 := Reads.keeps hk hr2
    have e : minD (encL p0) (pr.map encL) = .list ((minR ((p0 :: pr).map (·.2))).map .int) := by
      have := minD_rows (pr.map (·.2)) p0.2
      rw [List.map_map] at this
      exact this
    rw [e] at hr
    have e2 := alike_unique _ _ _ _ _ (by unfold encL; rw [alike]; exact ints_alike _ _) hr3 hr
    have e3 : p.2 = minR ((p0 :: pr).map (·.2)) := by
      unfold encL at e2
      have := PyData.list.inj e2
      exact (List.map_inj_right fun a b h => PyData.int.inj h).mp this
    exact ⟨.ref p.1, H, I.kept hk, rfl, q p hpm e3⟩
def cSortLL (md : Md) : DC := fun ds M Q => match ds with
  | [x] => ∃ zs : List (D × List Int), nrm M x = .lst (zs.map (·.1)) ∧ (∀ z ∈ zs, nrm M z.1 = .lst (z.2.map .int)) ∧ wNew md ((zs.mergeSort fun a b => leR a.2 b.2).map (·.1)) M Q
  | _ => False
def cMinLL : DC := fun ds M Q => match ds with
  | [x] => ∃ zs : List (D × List Int), nrm M x = .lst (zs.map (·.1)) ∧ (∀ z ∈ zs, nrm M z.1 = .lst (z.2.map .int)) ∧ zs ≠ [] ∧ ∀ z ∈ zs, z.2 = minR (zs.map (·.2)) → Q z.1 M
  | _ => False
theorem rows_ts {M : Mp} {H F : Hp} (m : Mem M H F) : ∀ {zs : List (D × List Int)} {vs : List V}, RpL F (zs.map (·.1)) vs → (∀ z ∈ zs, nrm M z.1 = .lst (z.2.map .int)) →
    ∃ ts : List (D × IRow), zs = ts.map (fun t => (t.1, t.2.2)) ∧ vs = ts.map (fun t => V.ref t.2.1) ∧ ∀ t ∈ ts, H t.2.1 = some (.lst (t.2.2.map V.int)) ∧ Rp F t.1 (.ref t.2.1)
  | [], vs, r, _ => ⟨[], rfl, by cases r; rfl, fun _ h => absurd h List.not_mem_nil⟩
  | z :: zs, vs, ⟨v, r, e, h1, h2⟩, h => by
    subst e
    obtain ⟨ts, rfl, rfl, ht⟩ := rows_ts m h2 fun z hz => h z (List.mem_cons_of_mem _ hz)
    have hz := h z List.mem_cons_self
    have vw := m.view h1
    rw [hz] at vw
    obtain ⟨a, ws, rfl, ha, hr⟩ := vw
    have := hr.ints
    subst this
    refine ⟨(z.1, (a, z.2)) :: ts, rfl, rfl, fun t hm => ?_⟩
    rcases List.mem_cons.mp hm with rfl | hm
    · exact ⟨ha, h1⟩
    · exact ht t hm
theorem RpL.of_map {F : Hp} : ∀ {ts : List (D × IRow)}, (∀ t ∈ ts, Rp F t.1 (.ref t.2.1)) → RpL F (ts.map (·.1)) (ts.map fun t => V.ref t.2.1)
  | [], _ => rfl
  | t :: ts, h => ⟨_, _, rfl, h t List.mem_cons_self, RpL.of_map fun u hu => h u (List.mem_cons_of_mem _ hu)⟩
theorem ct_sortLL {md : Md} : CallT rSortLL (cSortLL md) := by
  intro M H F ds vs Q Qv m r q f
  unfold cSortLL at q
  split at q
  · rename_i x
    obtain ⟨v, rfl, h1⟩ := rp1 r
    have vw := m.view h1
    obtain ⟨zs, hx, hz, q⟩ := q
    rw [hx] at vw
    obtain ⟨a, vs, rfl, ha, ra⟩ := vw
    obtain ⟨ts, rfl, rfl, ht⟩ := rows_ts m ra hz
    refine ⟨a, ts.map (·.2), rfl, by rw [List.map_map]; exact ha, fun p hp => ?_, fun p hp => ?_⟩
    · obtain ⟨t, htm, rfl⟩ := List.mem_map.mp hp
      exact (ht t htm).1
    · have e1 : (ts.map fun t => (t.1, t.2.2)).mergeSort (fun a b => leR a.2 b.2) = (ts.mergeSort fun a b => leR a.2.2 b.2.2).map fun t => (t.1, t.2.2) := (List.map_mergeSort (f := fun t : D × IRow => (t.1, t.2.2)) (s := fun a b => leR a.2 b.2) fun a _ b _ => rfl).symm
      have e2 : (ts.map (·.2)).mergeSort (fun a b => leR a.2 b.2) = (ts.mergeSort fun a b => leR a.2.2 b.2.2).map (·.2) := (List.map_mergeSort (f := fun t : D × IRow => t.2) (s := fun a b => leR a.2 b.2) fun a _ b _ => rfl).symm
      rw [e1, List.map_map] at q
      rw [e2, List.map_map]
      exact new_lst m (RpL.of_map fun t htm => (ht t (List.mem_mergeSort.mp htm)).2) q f p hp
  · exact q.elim
theorem ct_minLL : CallT rMinLL cMinLL := by
  intro M H F ds vs Q Qv m r q f
  unfold cMinLL at q
  split at q
  · rename_i x
    obtain ⟨v, rfl, h1⟩ := rp1 r
    have vw := m.view h1
    obtain ⟨zs, hx, hz, hne, q⟩ := q
    rw [hx] at vw
    obtain ⟨a, vs, rfl, ha, ra⟩ := vw
    obtain ⟨ts, rfl, rfl, ht⟩ := rows_ts m ra hz
    refine ⟨a, ts.map (·.2), rfl, by rw [List.map_map]; exact ha, fun p hp => ?_, fun e => hne (by rw [List.map_eq_nil_iff] at e; rw [e]; rfl), fun p hp hm => ?_⟩
    · obtain ⟨t, htm, rfl⟩ := List.mem_map.mp hp
      exact (ht t htm).1
    · obtain ⟨t, htm, rfl⟩ := List.mem_map.mp hp
      refine f.here (d := t.1) m (ht t htm).2 (q (t.1, t.2.2) (List.mem_map.mpr ⟨t, htm, rfl⟩) ?_)
      rw [List.map_map] at hm ⊢
      exact hm
  · exact q.elim
/-! ### (a, b) = a list of two -/
def dUnl (n : Nat) (g : DGs) : DG := fun d ρ M Q => match nrm M d with
  | .lst xs => xs.length = n ∧ g xs ρ M Q
  | _ => False
theorem tg_unl {K : PySem.W.Frag} {n : Nat} {g : TGs} {w : DGs} (h : TrGs g w) : TrG (gUnl K n g) (dUnl n w) := by
  intro d v ρ M σ H F Q Qs er m r q f
  unfold dUnl at q
  have vw := m.view r
  split at q
  · rename_i xs e
    rw [e] at vw
    obtain ⟨a, vs, rfl, ha, ra⟩ := vw
    exact ⟨a, vs, rfl, .of ha, by rw [ra.length]; exact q.1, h _ vs ρ M σ H F Q Qs er m ra q.2 f⟩
  · exact q.elim
end
def intsLs2 (xss : List (List Int)) : List D := xss.map fun xs => .lst (xs.map .int)
def lcuts (ns : List Int) : List (List Int) := (List.range (max ns.length 1)).map fun k => lcut ns k
theorem lcuts_length {ns : List Int} : (lcuts ns).length = max ns.length 1 := by unfold lcuts; rw [List.length_map, List.length_range]
/-! ### a list told new, beside others that are let go -/
def RowNew (M : Mp) (row : List D) (Q : DK) : Prop := ∀ (p : Addr) (M2 : Mp), MLe M M2 → M p = none → M2 p = some (.lst row) → Q (.ref p) M2
theorem frzT_row {M : Mp} {ns : List Int} {C : DK} (c : C (.lst (ns.map .int)) M) : RowNew M (ns.map .int) (wFrzTK C) := fun p M2 hle hp hM =>
  ⟨_, M, hle, .ref hM hp (.same _), c⟩
theorem rowsAt_zs {M : Mp} : ∀ {as : List Addr} {rows : List (List Int)}, RowsAt M as (rows.map fun l => l.map D.int) → ∃ zs : List (D × List Int), zs.map (·.1) = as.map D.ref ∧ zs.map (·.2) = rows ∧ ∀ z ∈ zs, ∃ a ∈ as, z.1 = .ref a ∧ M a = some (.lst (z.2.map .int))
  | [], [], _ => ⟨[], rfl, rfl, fun _ h => absurd h List.not_mem_nil⟩
  | [], _ :: _, h => by have := h.1; simp at this
  | _ :: _, [], h => by have := h.1; simp at this
  | a :: as, r :: rows, h => by
    obtain ⟨zs, h1, h2, h3⟩ := rowsAt_zs h.tail.2
    refine ⟨(.ref a, r) :: zs, by rw [List.map_cons, h1]; rfl, by rw [List.map_cons, h2], fun z hz => ?_⟩
    rcases List.mem_cons.mp hz with rfl | hz
    · exact ⟨a, List.mem_cons_self, rfl, h.tail.1⟩
    · obtain ⟨b, hb, e1, e2⟩ := h3 z hz
      exact ⟨b, List.mem_cons_of_mem _ hb, e1, e2⟩
theorem find_first {p : Nat → Bool} {n k : Nat} (hk : k < n) (hp : p k = true) (hb : ∀ j, j < k → p j = false) : (List.range n).find? p = some k :=
  List.find?_range_eq_some.mpr ⟨hp, List.mem_range.mpr hk, fun j hj => by rw [hb j hj]; rfl⟩
/-! ### the first of a sorted list -/
theorem leR_trans (a b c : List Int) (h : leR a b = true) (k : leR b c = true) : leR a c = true := decide_eq_true (List.le_trans (of_decide_eq_true h) (of_decide_eq_true k))
theorem leR_total (a b : List Int) : (leR a b || leR b a) = true := by
  unfold leR
  rcases List.le_total a b with h | h
  · rw [decide_eq_true h]; rfl
  · rw [decide_eq_true h, Bool.or_true]
theorem minR_spec : ∀ (rs : List (List Int)) (r : List Int), minR (r :: rs) ∈ r :: rs ∧ ∀ x ∈ r :: rs, minR (r :: rs) ≤ x
  | [], r => ⟨List.mem_cons_self, fun x hx => by rw [List.mem_singleton.mp hx]; exact List.le_refl r⟩
  | y :: rs, r => by
    obtain ⟨h1, h2⟩ := minR_spec rs (if decide (y < r) then y else r)
    have e : minR (r :: y :: rs) = minR ((if decide (y < r) then y else r) :: rs) := rfl
    rw [e]
    by_cases c : y < r
    · rw [decide_eq_true c, if_pos rfl] at h1 h2 ⊢
      refine ⟨List.mem_cons_of_mem _ h1, fun x hx => ?_⟩
      rcases List.mem_cons.mp hx with rfl | hx
      · exact List.le_trans (h2 y List.mem_cons_self) (List.le_of_lt c)
      · exact h2 x hx
    · rw [decide_eq_false c, if_neg (by decide)] at h1 h2 ⊢
      refine ⟨?_, fun x hx => ?_⟩
      · rcases List.mem_cons.mp h1 with h | h
        · rw [h]; exact List.mem_cons_self
        · exact List.mem_cons_of_mem _ (List.mem_cons_of_mem _ h)
      · rcases List.mem_cons.mp hx with rfl | hx
        · exact h2 x List.mem_cons_self
        · rcases List.mem_cons.mp hx with rfl | hx
          · exact List.le_trans (h2 r List.mem_cons_self) (List.not_lt.mp c)
          · exact h2 x (List.mem_cons_of_mem _ hx)
theorem head_sort {rows : List (List Int)} (h : rows ≠ []) : (rows.mergeSort leR).head? = some (minR rows) := by
  obtain ⟨r, rs, rfl⟩ : ∃ r rs, rows = r :: rs := by cases rows with
    | nil => exact absurd rfl h
    | cons r rs => exact ⟨r, rs, rfl⟩
  obtain ⟨h1, h2⟩ := minR_spec rs r
  have hp := List.pairwise_mergeSort leR_trans leR_total (r :: rs)
  have hm : ∀ x, x ∈ (r :: rs).mergeSort leR ↔ x ∈ r :: rs := fun x => List.mem_mergeSort
  generalize (r :: rs).mergeSort leR = L at hp hm
  cases L with
  | nil => exact absurd ((hm r).mpr List.mem_cons_self) List.not_mem_nil
  | cons x L =>
    have hx := (hm x).mp List.mem_cons_self
    have a1 := h2 x hx
    have a2 : x ≤ minR (r :: rs) := by
      rcases List.mem_cons.mp ((hm _).mpr h1) with e | e
      · rw [e]; exact List.le_refl _
      · exact of_decide_eq_true ((List.pairwise_cons.mp hp).1 _ e)
    rw [List.head?_cons, List.le_antisymm a1 a2]
theorem sort_rows (rows : List (List Int)) : ((rows.map fun l => (D.lst (l.map .int), l)).mergeSort fun a b => leR a.2 b.2).map (·.1) = intsLs2 (rows.mergeSort leR) := by
  have e1 : (rows.map fun l => (D.lst (l.map .int), l)).mergeSort (fun a b => leR a.2 b.2) = (rows.mergeSort leR).map fun l => (D.lst (l.map .int), l) := (List.map_mergeSort (f := fun l : List Int => (D.lst (l.map .int), l)) (s := fun a b => leR a.2 b.2) fun a _ b _ => rfl).symm
  rw [e1, List.map_map]; rfl
theorem atI_head {L : List (List Int)} {m : List Int} (h : L.head? = some m) : atI (intsLs2 L) 0 = some (.lst (m.map .int)) := by
  cases L with
  | nil => cases h
  | cons x L => cases h; unfold intsLs2; rw [List.map_cons]; exact atI0
theorem intsLs2_length {L : List (List Int)} : (intsLs2 L).length = L.length := List.length_map _
theorem nil_le : ∀ a : List Int, [] ≤ a := fun a => List.nil_le a
theorem nrm_le {M N : Mp} {x : D} {xs : List D} (h : nrm M x = .lst xs) (l : MLe M N) : nrm N x = .lst xs := by
  cases x with
  | ref a =>
    have h1 : nrmA M a = .lst xs := h
    show nrmA N a = .lst xs
    unfold nrmA at h1 ⊢
    cases e : M a with
    | none => rw [e] at h1; cases h1
    | some m => rw [e] at h1; rw [l _ _ e]; exact h1
  | _ => exact h
theorem rowsAt_append {M : Mp} : ∀ {as bs : List Addr} {xs ys : List (List D)}, RowsAt M as xs → RowsAt M bs ys → RowsAt M (as ++ bs) (xs ++ ys)
  | [], _, [], _, _, h => h
  | [], _, _ :: _, _, h, _ => by have := h.1; simp at this
  | _ :: _, _, [], _, h, _ => by have := h.1; simp at this
  | a :: as, bs, x :: xs, ys, h, k => by
    have r := rowsAt_append h.tail.2 k
    refine ⟨by simp [h.tail.2.1, k.1], fun i c zs h1 h2 => ?_⟩
    cases i with
    | zero =>
      simp only [List.cons_append, List.getElem?_cons_zero, Option.some.injEq] at h1 h2
      subst h1; subst h2; exact h.tail.1
    | succ i => exact r.2 i c zs (by simpa using h1) (by simpa using h2)
theorem deq_int_str (i : Int) (x : Str) : deq (.int i) (.str x) = false := by simp [deq, toPD, PyData.eqv]
theorem packOk_perm {ns ms : List Int} (h : PackOk ns) (p : ms.Perm ns) : PackOk ms := ⟨fun n hn => h.1 n (p.mem_iff.mp hn), p.nodup_iff.mpr h.2.1, by rw [p.length_eq]; exact h.2.2⟩
theorem packOk_sub {ns ms : List Int} (h : PackOk ns) (p : ms.Sublist ns) : PackOk ms := ⟨fun n hn => h.1 n (p.subset hn), h.2.1.sublist p, Nat.le_trans p.length_le h.2.2⟩
theorem packOk_ins {a b : List Int} {c : Int} (h : PackOk (a ++ b)) (hc : c ∉ a ++ b) (h0 : 0 ≤ c) (hl : (a ++ b).length < 4000) : PackOk (a ++ [c] ++ b) := by
  refine packOk_perm (ns := c :: (a ++ b)) ⟨fun n hn => ?_, List.nodup_cons.mpr ⟨hc, h.2.1⟩, hl⟩ (by rw [List.append_assoc]; exact List.perm_middle)
  rcases List.mem_cons.mp hn with e | hn
  · rw [e]; exact h0
  · exact h.1 n hn

/-! ### len(set(tuples)), len(dict(pairs with tuples ahead)) -/
section
variable {X : Cx}
/-- as many as are unlike -/
def CntK (rows : List (List Int)) (k : Nat) : Prop := ∃ L : List (List Int), L.Nodup ∧ (∀ y, y ∈ L ↔ y ∈ rows) ∧ L.length = k
theorem dup_less : ∀ {rows : List (List Int)}, ¬ rows.Nodup → ∃ r : List (List Int), r.length < rows.length ∧ ∀ y ∈ rows, y ∈ r
  | [], h => absurd List.nodup_nil h
  | x :: rows, h => by
    by_cases c : x ∈ rows
    · refine ⟨rows, by simp, fun y hy => ?_⟩
      rcases List.mem_cons.mp hy with rfl | hy
      · exact c
      · exact hy
    · obtain ⟨r, h1, h2⟩ := dup_less (rows := rows) fun n => h (List.nodup_cons.mpr ⟨c, n⟩)
      refine ⟨x :: r, by simp only [List.length_cons]; omega, fun y hy => ?_⟩
      rcases List.mem_cons.mp hy with rfl | hy
      · exact List.mem_cons_self
      · exact List.mem_cons_of_mem _ (h2 y hy)
theorem cntK_eq {rows : List (List Int)} {k : Nat} (h : CntK rows k) : decide ((k : Int) = rows.length) = decide rows.Nodup := by
  obtain ⟨L, hn, hm, rfl⟩ := h
  have p1 : L.length ≤ rows.length := hn.length_le_of_subset fun x hx => (hm x).mp hx
  by_cases c : rows.Nodup
  · have p2 : rows.length ≤ L.length := c.length_le_of_subset fun x hx => (hm x).mpr hx
    rw [decide_eq_true c, decide_eq_true (by omega)]
  · rw [decide_eq_false c, decide_eq_false]
    intro e
    obtain ⟨r, h1, h2⟩ := dup_less c
    have p3 : L.length ≤ r.length := hn.length_le_of_subset fun x hx => h2 x ((hm x).mp hx)
    omega
theorem cntK_list {rows L : List (List Int)} (hn : L.Nodup) (hm : ∀ y, y ∈ L ↔ y ∈ rows) : CntK rows L.length := ⟨L, hn, hm, rfl⟩
def tLenSetT (K : PySem.W.Frag) (ta : TE) : TE := fun σ H Q => ta σ H fun x H1 => ∃ (l : Addr) (ks : List (Addr × List Int)), x = V.ref l ∧ SqL K H1 l (ks.map fun p => V.ref p.1) ∧ (∀ p ∈ ks, SqT K H1 p.1 (p.2.map V.int)) ∧ ks.length < 64 ∧
  ∀ k : Nat, CntK (ks.map (·.2)) k → Q (.int k) H1
theorem pe_lenSetT {a : Expr} {ta : TE} {p p2 q pos : Pos} (hu : X.A.units + 65 < cLine) (hg : Gl X "len") (hm : X.mg "len" = none) (hg2 : Gl X "set") (hm2 : X.mg "set" = none) (ha : PE X a ta) (hc : X.calm = true := by rfl)
    (na : starEach [a] X.env = (false, eval a X.env) :: starEach [] X.env := by rfl) : PE X (.Call (.Name "len" p) [.Call (.Name "set" p2) [a] [] q] [] pos) (tLenSetT X.K ta) := by
  refine ⟨fun pins s σ H Q I h => ?_⟩
  refine Call_ (ld_blt I hg hm PySem.boot_len ?_)
  refine PyProof.Rows.callWith_builtin1 (PyProof.Rows.args_cons ?_ rfl) rfl rfl
  refine Call_ (ld_blt I hg2 hm2 PyProof.Rows.boot_set ?_)
  refine PyProof.Rows.callWith_type1 (PyProof.Rows.args_cons (thn (ha.run pins s σ H _ I h) fun v s1 ⟨x, H1, I1, r1, q1⟩ => PyProof.Rows.args_nil ?_) na) na rfl
  obtain ⟨l, ks, rfl, hl, hk, hf, q1⟩ := q1
  cases r1
  obtain ⟨its, rv, pl, hz⟩ := I1.list hl
  refine call_set_tups (P := X.prog) (w := X.w) ks (I1.ok.hd hc) pl.isList (by simpa using refs_of_vals rv) (fun p hp => I1.isT (hk p hp)) hf (by omega) fun h' tk L es ep t R g k => ?_
  refine PyProof.Rows.args_nil ?_
  have I2 : Inv X pins σ H1 { s1 with heap := h', toks := tk } := I1.kept k
  have R2 : SetTR X.prog X.w ({ s1 with heap := h', toks := tk } : Shared).heap s1.heap.objs.size L es ep t := R
  obtain ⟨o, ho, hex, hd⟩ := R2.ob
  have hsz := R2.size
  have hfit := R2.fits
  have hfew := R2.few
  refine call_len_set ho hex hd hfit (by rw [hsz]; omega) ⟨.int L.length, H1, I2.tok _, ⟨_, by rw [hsz]⟩, q1 _ ⟨L.map (·.2), R2.nd, fun y => ?_, List.length_map _⟩⟩
  have g1 := g.sub
  have g2 := g.all
  rw [List.take_length] at g1 g2
  constructor
  · intro hy
    obtain ⟨p, hp, rfl⟩ := List.mem_map.mp hy
    exact List.mem_map.mpr ⟨p, g1 p hp, rfl⟩
  · intro hy
    obtain ⟨p, hp, rfl⟩ := List.mem_map.mp hy
    exact g2 p hp
/-! dict -/
section
variable {K : Type} [DecidableEq K]
theorem atKey_some {xs : List (K × Addr × Value)} {k : K} : (atKey xs k).isSome = true ↔ k ∈ xs.map (·.1) := by
  unfold atKey
  rw [Option.isSome_map, List.find?_isSome, List.mem_map]
  constructor
  · rintro ⟨x, hx, e⟩; exact ⟨x, hx, of_decide_eq_true e⟩
  · rintro ⟨x, hx, e⟩; exact ⟨x, hx, decide_eq_true e⟩
theorem storedH_fst {xs : List (K × Addr × Value)} {k : K} {a : Addr} {v : Value} : (storedH xs k a v).map (·.1) = if k ∈ xs.map (·.1) then xs.map (·.1) else xs.map (·.1) ++ [k] := by
  unfold storedH
  by_cases c : k ∈ xs.map (·.1)
  · rw [if_pos (atKey_some.mpr c), if_pos c, List.map_map]
    refine List.map_congr_left fun x _ => ?_
    show (putAt k v x).1 = x.1
    unfold putAt
    split <;> rfl
  · rw [if_neg fun h => c (atKey_some.mp h), if_neg c, List.map_append]; rfl
theorem storedAllH_fst : ∀ {ps xs : List (K × Addr × Value)}, (xs.map (·.1)).Nodup → ((storedAllH xs ps).map (·.1)).Nodup ∧ ∀ y, y ∈ (storedAllH xs ps).map (·.1) ↔ y ∈ xs.map (·.1) ∨ y ∈ ps.map (·.1)
  | [], xs, h => ⟨h, fun y => by show y ∈ xs.map (·.1) ↔ _; simp⟩
  | p :: ps, xs, h => by
    have e : storedAllH xs (p :: ps) = storedAllH (storedH xs p.1 p.2.1 p.2.2) ps := rfl
    have hs := storedH_fst (xs := xs) (k := p.1) (a := p.2.1) (v := p.2.2)
    obtain ⟨a, b⟩ := storedAllH_fst (ps := ps) (xs := storedH xs p.1 p.2.1 p.2.2) (by
      rw [hs]
      split
      · exact h
      · rename_i c
        exact List.nodup_append.mpr ⟨h, by simp, fun x hx y hy e => by rw [List.mem_singleton.mp hy] at e; exact c (e ▸ hx)⟩)
    rw [e]
    refine ⟨a, fun y => (b y).trans ?_⟩
    rw [hs, List.map_cons, List.mem_cons]
    split
    · rename_i c
      constructor
      · rintro (h | h)
        · exact .inl h
        · exact .inr (.inr h)
      · rintro (h | h | h)
        · exact .inl h
        · rw [h]; exact .inl c
        · exact .inr h
    · rw [List.mem_append, List.mem_singleton]
      constructor
      · rintro ((h | h) | h)
        · exact .inl h
        · exact .inr (.inl h)
        · exact .inr (.inr h)
      · rintro (h | h | h)
        · exact .inl (.inl h)
        · exact .inl (.inr h)
        · exact .inr h
end
/-- the pairs: where each lies, its first and what is in that -/
abbrev TPair := Addr × Addr × List Int
def tLenDictT (K : PySem.W.Frag) (ta : TE) : TE := fun σ H Q => ta σ H fun x H1 => ∃ (l : Addr) (ks : List TPair) (v : V), x = V.ref l ∧ SqL K H1 l (ks.map fun p => V.ref p.1) ∧ (∀ p ∈ ks, SqT K H1 p.1 [V.ref p.2.1, V.bl true] ∧ SqT K H1 p.2.1 (p.2.2.map V.int)) ∧
  ∀ k : Nat, CntK (ks.map (·.2.2)) k → Q (.int k) H1
theorem refs_of_vals3 : ∀ {ks : List TPair} {us : List Value}, Vals (ks.map fun p => V.ref p.1) us → us = ks.map fun p => Value.ref p.1
  | [], us, h => by cases h; rfl
  | p :: ps, us, h => by
    cases h with | cons h1 t =>
    cases h1
    rw [refs_of_vals3 t]; rfl
theorem pe_lenDictT {a : Expr} {ta : TE} {p p2 q pos : Pos} (hu : X.A.units + 65 < cLine) (hg : Gl X "len") (hm : X.mg "len" = none) (hg2 : Gl X "dict") (hm2 : X.mg "dict" = none) (ha : PE X a ta) (hc : X.calm = true := by rfl)
    (na : starEach [a] X.env = (false, eval a X.env) :: starEach [] X.env := by rfl) : PE X (.Call (.Name "len" p) [.Call (.Name "dict" p2) [a] [] q] [] pos) (tLenDictT X.K ta) := by
  refine ⟨fun pins s σ H Q I h => ?_⟩
  refine Call_ (ld_blt I hg hm PySem.boot_len ?_)
  refine PyProof.Rows.callWith_builtin1 (PyProof.Rows.args_cons ?_ rfl) rfl rfl
  refine Call_ (ld_blt I hg2 hm2 PyProof.Rows.boot_dict ?_)
  refine PyProof.Rows.callWith_type1 (PyProof.Rows.args_cons (thn (ha.run pins s σ H _ I h) fun v s1 ⟨x, H1, I1, r1, q1⟩ => PyProof.Rows.args_nil ?_) na) na rfl
  obtain ⟨l, ks, _, rfl, hl, hk, q1⟩ := q1
  cases r1
  obtain ⟨its, rv, pl, hz⟩ := I1.list hl
  have hits := refs_of_vals3 rv
  rw [List.length_map] at hz
  have hsz : its.length = ks.length := by rw [hits, List.length_map]
  let Ts : Nat → Addr := fun j => (ks.getD j (0, 0, [])).1
  let prs : List (Value × Value) := ks.map fun p => (Value.ref p.2.1, Value.bool true)
  have hpl : PlainSeq "list" s1.heap l its.toArray := by
    obtain ⟨o, n, ho, hcl, hd, hdat⟩ := pl
    exact ⟨o, n, ho, hcl, hd, by simpa using hdat⟩
  have hpi : PairItems s1.heap its.toArray Ts prs := by
    refine ⟨by simp [prs, hsz], fun j k v hj => ?_⟩
    rw [List.getElem?_map] at hj
    obtain ⟨p, hpj, e⟩ := Option.map_eq_some_iff.mp hj
    cases e
    have hTs : Ts j = p.1 := by show (ks.getD j (0, 0, [])).1 = _; rw [List.getD_eq_getElem?_getD, hpj]; rfl
    refine ⟨by rw [hits, hTs]; simp [hpj], .inl ?_⟩
    rw [hTs]
    obtain ⟨us, r2, pl2, _⟩ := I1.tuple (hk p (List.mem_of_getElem? hpj)).1
    obtain ⟨u1, us1, rfl, h1, h2⟩ : ∃ u1 us1, us = u1 :: us1 ∧ RelV (V.ref p.2.1) u1 ∧ Vals [V.bl true] us1 := by cases r2 with | cons h t => exact ⟨_, _, rfl, h, t⟩
    obtain ⟨u2, rfl, h3⟩ : ∃ u2, us1 = [u2] ∧ RelV (V.bl true) u2 := by cases h2 with | cons h t => cases t with | nil => exact ⟨_, rfl, h⟩
    cases h1
    cases h3
    obtain ⟨o, ho, hcl, n, hd⟩ := pl2
    exact ⟨o, ho, hcl, n, by simpa using hd⟩
  let ps : List (List Int × Addr × Value) := ks.map fun p => (p.2.2, p.2.1, Value.bool true)
  refine call_dict_pairsH (knd := tupleKind (PySem.intKind X.prog X.w)) (ps := ps) (PairArg.list l its.toArray Ts prs) (I1.ok.hd hc) (by show X.A.units + 1 + 1 < cLine; omega) ⟨hpl, hpi⟩ ?_ ?_ (by simp [prs]; omega) fun h' tk hD hk' => ?_
  · refine ⟨by simp [ps, prs], fun i key v hr => ?_⟩
    have hr2 : prs[i]? = some (key, v) := hr
    rw [List.getElem?_map] at hr2
    obtain ⟨p, hpj, e⟩ := Option.map_eq_some_iff.mp hr2
    cases e
    exact ⟨p.2.2, p.2.1, by rw [List.getElem?_map, hpj]; rfl, rfl⟩
  · intro h' hk' x hx
    obtain ⟨p, hp, rfl⟩ := List.mem_map.mp hx
    exact isT_keep (I1.isT (hk p hp).2) fun c o e => hk' c o (Nat.ne_of_lt (Heap.lt_size e)) List.not_mem_nil e
  · refine PyProof.Rows.args_nil ?_
    have I2 : Inv X pins σ H1 { s1 with heap := h', toks := tk } := I1.kept fun b o e => hk' b o List.not_mem_nil e
    have hmod : (s1.heap.objs.size == sysModules) = false := beq_eq_false_iff_ne.mpr (Nat.ne_of_gt I1.big)
    obtain ⟨d1, d2⟩ := storedAllH_fst (ps := ps) (xs := []) List.nodup_nil
    have hlen : (storedAllH [] ps).length ≤ ps.length := by have := storedAllH_length ps []; simpa using this
    have hpsl : ps.length = ks.length := List.length_map _
    have hsl : (ks.length : Nat) ≤ sizeLine := by exact hz
    refine call_len_dictH (knd := tupleKind (PySem.intKind X.prog X.w)) (s := { s1 with heap := h', toks := tk }) hmod hD (by rw [sizeLine_eq] at hsl; omega) ⟨.int (storedAllH [] ps).length, H1, I2.tok _, ⟨_, rfl⟩, q1 _ ⟨(storedAllH [] ps).map (·.1), d1, fun y => (d2 y).trans ?_, List.length_map _⟩⟩
    show y ∈ ([] : List (List Int)) ∨ _ ↔ _
    rw [List.map_map]
    simp
def wLenSetT (a : DE) : DE := fun ρ M Q => a ρ M fun x M1 => ∃ rows : List (List Int), nrm M1 x = .lst (rows.map fun r => D.tup (r.map .int)) ∧ rows.length < 64 ∧ ∀ k : Nat, CntK rows k → Q (.int k) M1
def wLenDictT (a : DE) : DE := fun ρ M Q => a ρ M fun x M1 => ∃ rows : List (List Int), nrm M1 x = .lst (rows.map fun r => D.tup [.tup (r.map .int), .bl true]) ∧ ∀ k : Nat, CntK rows k → Q (.int k) M1
theorem tups_ks {F H : Hp} (s : Same F H) : ∀ {rows : List (List Int)} {vs : List V}, RpL F (rows.map fun r => D.tup (r.map .int)) vs → ∃ ks : List (Addr × List Int), vs = ks.map (fun p => V.ref p.1) ∧ ks.map (·.2) = rows ∧ ∀ p ∈ ks, H p.1 = some (.tup (p.2.map V.int))
  | [], vs, h => by cases h; exact ⟨[], rfl, rfl, fun _ h => absurd h List.not_mem_nil⟩
  | r :: rows, vs, ⟨v, vr, e, h1, h2⟩ => by
    subst e
    obtain ⟨ks, rfl, hr, hk⟩ := tups_ks s h2
    obtain ⟨a, ws, rfl, ha, ra⟩ := h1
    rw [ra.ints] at ha
    refine ⟨(a, r) :: ks, rfl, by rw [List.map_cons, hr], fun p hp => ?_⟩
    rcases List.mem_cons.mp hp with rfl | hp
    · exact s _ _ ha
    · exact hk p hp
theorem tr_lenSetT {K : PySem.W.Frag} {t : TE} {a : DE} (h : Tr t a) : Tr (tLenSetT K t) (wLenSetT a) := by
  intro ρ M σ H F Q Qv er m q f
  refine h ρ M σ H F _ _ er m q fun d1 v1 M1 H1 F1 m1 e1 r1 q1 => ?_
  have vw := m1.view r1
  obtain ⟨rows, hx, hf, q1⟩ := q1
  rw [hx] at vw
  obtain ⟨a, ws, rfl, ha, ra⟩ := vw
  obtain ⟨ks, rfl, hr, hk⟩ := tups_ks m1.same ra
  have hkl : ks.length = rows.length := by rw [← hr, List.length_map]
  exact ⟨a, ks, rfl, .of ha, fun p hp => .of (hk p hp), by omega, fun k hc => f (.int _) _ _ _ _ m1 e1 rfl (q1 k (by rw [hr] at hc; exact hc))⟩
theorem pairs_ks {F H : Hp} (s : Same F H) : ∀ {rows : List (List Int)} {vs : List V}, RpL F (rows.map fun r => D.tup [.tup (r.map .int), .bl true]) vs → ∃ ks : List TPair, vs = ks.map (fun p => V.ref p.1) ∧ ks.map (·.2.2) = rows ∧ ∀ p ∈ ks, H p.1 = some (.tup [V.ref p.2.1, V.bl true]) ∧ H p.2.1 = some (.tup (p.2.2.map V.int))
  | [], vs, h => by cases h; exact ⟨[], rfl, rfl, fun _ h => absurd h List.not_mem_nil⟩
  | r :: rows, vs, ⟨v, vr, e, h1, h2⟩ => by
    subst e
    obtain ⟨ks, rfl, hr, hk⟩ := pairs_ks s h2
    obtain ⟨a, ws, rfl, ha, ra⟩ := h1
    obtain ⟨u1, u2, rfl, r1, r2⟩ := rp2 ra
    obtain ⟨b, zs, rfl, hb, rb⟩ := r1
    rw [rb.ints] at hb
    cases r2
    refine ⟨(a, b, r) :: ks, rfl, by rw [List.map_cons, hr], fun p hp => ?_⟩
    rcases List.mem_cons.mp hp with rfl | hp
    · exact ⟨s _ _ ha, s _ _ hb⟩
    · exact hk p hp
theorem tr_lenDictT {K : PySem.W.Frag} {t : TE} {a : DE} (h : Tr t a) : Tr (tLenDictT K t) (wLenDictT a) := by
  intro ρ M σ H F Q Qv er m q f
  refine h ρ M σ H F _ _ er m q fun d1 v1 M1 H1 F1 m1 e1 r1 q1 => ?_
  have vw := m1.view r1
  obtain ⟨rows, hx, q1⟩ := q1
  rw [hx] at vw
  obtain ⟨a, ws, rfl, ha, ra⟩ := vw
  obtain ⟨ks, rfl, hr, hk⟩ := pairs_ks m1.same ra
  exact ⟨a, ks, .non, rfl, .of ha, fun p hp => ⟨.of (hk p hp).1, .of (hk p hp).2⟩, fun k hc => f (.int _) _ _ _ _ m1 e1 rfl (q1 k (by rw [hr] at hc; exact hc))⟩
end
section
/-! ### index of a truth value -/
theorem toPDs_bls : ∀ bs : List Bool, toPDs (bs.map D.bl) = bs.map PyData.bool
  | [] => rfl
  | b :: bs => by show toPD (.bl b) :: toPDs (bs.map D.bl) = _; rw [toPDs_bls bs]; rfl
theorem pdOk_bls (bs : List Bool) : pdOk (.lst (bs.map D.bl)) = true := by
  have h : ∀ bs : List Bool, PyData.canLayAll0 (bs.map PyData.bool) = true ∧ PyData.depthAll (bs.map PyData.bool) = 0 := fun bs => by
    induction bs with
    | nil => simp [PyData.canLayAll0, PyData.depthAll]
    | cons b bs ih => simp [PyData.canLayAll0, PyData.depthAll, PyData.canLay0, PyData.depth, ih.1, ih.2]
  obtain ⟨h1, h2⟩ := h bs
  unfold pdOk SeqAt.shaped
  simp only [toPD, toPDs_bls, PyData.canLay0, h1, PyData.depth, h2, Bool.true_and, decide_eq_true_eq]
  omega
def mIndexB : DM := fun x ds M Q => match nrm M x, ds with
  | .lst xs, [.bl true] => ∃ bs : List Bool, xs = bs.map D.bl ∧ true ∈ bs ∧ Q (.int (bs.idxOf true : Nat)) M
  | _, _ => False
theorem mt_indexB {K : PySem.W.Frag} : MethT (rIndexD K) mIndexB := by
  intro M H F d v ds vs Q Qv m r1 r2 q f
  unfold mIndexB at q
  have vw := m.view r1
  split at q
  · rename_i xs e
    rw [e] at vw
    obtain ⟨bs, rfl, hk, q⟩ := q
    obtain ⟨w, rfl, h1⟩ := rp1 r2
    have vy := m.view h1
    rw [nrm_bl] at vy
    have hp := pdOk_bls bs
    have hd := vw_dp (K := K) m.same vw hp
    have hy := vw_dp (K := K) m.same vy (pdOk_bl true)
    obtain ⟨a, us, rfl, ha, ra⟩ := vw
    have hlt := List.idxOf_lt_length_of_mem hk
    refine ⟨a, w, .bool true, toPDs (bs.map D.bl), bs.idxOf true, .bool true, rfl, rfl, hd, hy, hp, pdOk_bl true, ?_, ?_, fun j z hj hz => ?_, f.here (d := .int _) m rfl q⟩
    · rw [toPDs_bls, List.getElem?_map, List.getElem?_eq_getElem hlt, List.getElem_idxOf hlt]; rfl
    · simp [PyData.eqv]
    · rw [toPDs_bls, List.getElem?_map] at hz
      obtain ⟨i, hi, rfl⟩ := Option.map_eq_some_iff.mp hz
      have hne : i ≠ true := by
        rintro rfl
        have hn := List.not_of_lt_findIdx (p := (· == true)) (show j < bs.findIdx (· == true) from hj)
        obtain ⟨h1, h2⟩ := List.getElem?_eq_some_iff.mp hi
        rw [h2] at hn
        simp at hn
      cases i
      · simp [PyData.eqv]
      · exact absurd rfl hne
  · exact q.elim
theorem any_bls {bs : List Bool} : (bs.map D.bl).any (fun z => deq z (.bl true)) = decide (true ∈ bs) := by
  induction bs with
  | nil => rfl
  | cons b bs ih =>
    rw [List.map_cons, List.any_cons, ih, deq_bl]
    cases b <;> simp
end

/-! ### len(set(ints)), as many as are unlike -/
section
variable {X : Cx}
def CntJ (ns : List Int) (k : Nat) : Prop := ∃ L : List Int, L.Nodup ∧ (∀ y, y ∈ L ↔ y ∈ ns) ∧ L.length = k
theorem dup_lessJ : ∀ {rows : List Int}, ¬ rows.Nodup → ∃ r : List Int, r.length < rows.length ∧ ∀ y ∈ rows, y ∈ r
  | [], h => absurd List.nodup_nil h
  | x :: rows, h => by
    by_cases c : x ∈ rows
    · refine ⟨rows, by simp, fun y hy => ?_⟩
      rcases List.mem_cons.mp hy with rfl | hy
      · exact c
      · exact hy
    · obtain ⟨r, h1, h2⟩ := dup_lessJ (rows := rows) fun n => h (List.nodup_cons.mpr ⟨c, n⟩)
      refine ⟨x :: r, by simp only [List.length_cons]; omega, fun y hy => ?_⟩
      rcases List.mem_cons.mp hy with rfl | hy
      · exact List.mem_cons_self
      · exact List.mem_cons_of_mem _ (h2 y hy)
theorem cntJ_eq {rows : List Int} {k : Nat} (h : CntJ rows k) : decide ((k : Int) = rows.length) = decide rows.Nodup := by
  obtain ⟨L, hn, hm, rfl⟩ := h
  have p1 : L.length ≤ rows.length := hn.length_le_of_subset fun x hx => (hm x).mp hx
  by_cases c : rows.Nodup
  · have p2 : rows.length ≤ L.length := c.length_le_of_subset fun x hx => (hm x).mpr hx
    rw [decide_eq_true c, decide_eq_true (by omega)]
  · rw [decide_eq_false c, decide_eq_false]
    intro e
    obtain ⟨r, h1, h2⟩ := dup_lessJ c
    have p3 : L.length ≤ r.length := hn.length_le_of_subset fun x hx => h2 x ((hm x).mp hx)
    omega
theorem step_dedup_eq (l : List Int) (k : Int) : step_dedup l k = if k ∈ l then l else l ++ [k] := by
  unfold step_dedup
  by_cases c : k ∈ l
  · rw [if_pos c, if_pos (List.any_eq_true.mpr ⟨k, c, by simp⟩)]
  · rw [if_neg c, if_neg]
    intro h
    obtain ⟨x, hx, e⟩ := List.any_eq_true.mp h
    exact c (by rw [← eq_of_beq e]; exact hx)
theorem firstMet_spec (val : Nat → Int) : ∀ i, (firstMet val i).Nodup ∧ ∀ y, y ∈ firstMet val i ↔ ∃ j, j < i ∧ val j = y
  | 0 => ⟨List.nodup_nil, fun y => by rw [firstMet_zero]; simp⟩
  | i + 1 => by
    obtain ⟨h1, h2⟩ := firstMet_spec val i
    rw [firstMet_succ, step_dedup_eq]
    by_cases c : val i ∈ firstMet val i
    · rw [if_pos c]
      refine ⟨h1, fun y => (h2 y).trans ⟨fun ⟨j, hj, e⟩ => ⟨j, by omega, e⟩, fun ⟨j, hj, e⟩ => ?_⟩⟩
      by_cases ji : j = i
      · subst ji; rw [← e]; exact (h2 _).mp c
      · exact ⟨j, by omega, e⟩
    · rw [if_neg c]
      refine ⟨List.nodup_append.mpr ⟨h1, by simp, fun x hx y hy e => by rw [List.mem_singleton.mp hy] at e; exact c (e ▸ hx)⟩, fun y => ?_⟩
      rw [List.mem_append, List.mem_singleton, h2]
      constructor
      · rintro (⟨j, hj, e⟩ | e)
        · exact ⟨j, by omega, e⟩
        · exact ⟨i, by omega, e.symm⟩
      · rintro ⟨j, hj, e⟩
        by_cases ji : j = i
        · subst ji; exact .inr e.symm
        · exact .inl ⟨j, by omega, e⟩
theorem cntJ_first (ns : List Int) : CntJ ns (firstMet (fun i => ns.getD i 0) ns.length).length := by
  obtain ⟨h1, h2⟩ := firstMet_spec (fun i => ns.getD i 0) ns.length
  refine ⟨_, h1, fun y => (h2 y).trans ?_, rfl⟩
  constructor
  · rintro ⟨j, hj, e⟩
    rw [← e]
    show ns.getD j 0 ∈ ns
    rw [List.getD_eq_getElem?_getD, List.getElem?_eq_getElem hj]; exact List.getElem_mem hj
  · intro hy
    obtain ⟨j, hj, e⟩ := List.getElem_of_mem hy
    exact ⟨j, hj, by show ns.getD j 0 = y; rw [List.getD_eq_getElem?_getD, List.getElem?_eq_getElem hj]; exact e⟩
def tLenSetJ (K : PySem.W.Frag) (ta : TE) : TE := fun σ H Q => ta σ H fun x H1 => ∃ (l : Addr) (ns : List Int), x = .ref l ∧ SqL K H1 l (ns.map V.int) ∧ ns.length ≤ 4000 ∧ ∀ k : Nat, CntJ ns k → Q (.int (k : Nat)) H1
theorem pe_lenSetJ {a : Expr} {ta : TE} {p p2 q pos : Pos} (hg : Gl X "len") (hm : X.mg "len" = none) (hg2 : Gl X "set") (hm2 : X.mg "set" = none) (ha : PE X a ta) (hc : X.calm = true := by rfl)
    (na : starEach [a] X.env = (false, eval a X.env) :: starEach [] X.env := by rfl) : PE X (.Call (.Name "len" p) [.Call (.Name "set" p2) [a] [] q] [] pos) (tLenSetJ X.K ta) := by
  refine ⟨fun pins s σ H Q I h => ?_⟩
  refine Call_ (ld_blt I hg hm PySem.boot_len ?_)
  refine PyProof.Rows.callWith_builtin1 (PyProof.Rows.args_cons ?_ rfl) rfl rfl
  refine Call_ (ld_blt I hg2 hm2 PyProof.Rows.boot_set ?_)
  refine PyProof.Rows.callWith_type1 (PyProof.Rows.args_cons (thn (ha.run pins s σ H _ I h) fun v s1 ⟨x, H1, I1, r1, q1⟩ => PyProof.Rows.args_nil ?_) na) na rfl
  obtain ⟨l, ns, rfl, hq, hl, q1⟩ := q1
  cases r1
  obtain ⟨its, r, pl, hz⟩ := I1.list hq
  have hlen : its.toArray.size = ns.length := by rw [List.size_toArray, ← r.length, List.length_map]
  refine call_set_list (I1.ok.hd hc) pl.isList (by simpa using RZ.intsAre_vals r) (by rw [hlen]; unfold scanBound; omega) fun h' tk hS hk => ?_
  refine PyProof.Rows.args_nil ?_
  rw [hlen] at hS
  have hfl := firstMet_length_le (fun i => ns.getD i 0) ns.length
  obtain ⟨o, es, ep, t, ho, hex, hd, _, _, _, hf, hn⟩ := hS
  have I2 : Inv X pins σ H1 { s1 with heap := h', toks := tk } := I1.kept fun b o e => hk b o (Heap.lt_size e) e
  exact call_len_set ho hex hd hf (by rw [hn] <;> omega) ⟨.int _, H1, I2.tok _, ⟨_, by rw [hn]⟩, q1 _ (cntJ_first ns)⟩
end
def wLenSetJ (a : DE) : DE := fun ρ M Q => a ρ M fun x M1 => ∃ ns : List Int, nrm M1 x = .lst (ns.map .int) ∧ ns.length ≤ 4000 ∧ ∀ k : Nat, CntJ ns k → Q (.int k) M1
theorem tr_lenSetJ {K : PySem.W.Frag} {t : TE} {a : DE} (h : Tr t a) : Tr (tLenSetJ K t) (wLenSetJ a) := by
  intro ρ M σ H F Q Qv er m q f
  refine h ρ M σ H F _ _ er m q fun d1 v1 M1 H1 F1 m1 e1 r1 q1 => ?_
  have vw := m1.view r1
  obtain ⟨ns, hx, hf, q1⟩ := q1
  rw [hx] at vw
  obtain ⟨a, ws, rfl, ha, ra⟩ := vw
  rw [ra.ints] at ha
  exact ⟨a, ns, rfl, .of ha, hf, fun k hc => f (.int _) _ _ _ _ m1 e1 rfl (q1 k hc)⟩
/-! ### tuple + tuple -/
def rCatT (K : PySem.W.Frag) : R2 := fun x y H Q => ∃ (t b : Addr) (xs ys : List V), x = .ref t ∧ y = .ref b ∧ SqT K H t xs ∧ SqT K H b ys ∧ xs.length + ys.length ≤ sizeLine ∧ (xs = [] → Q (.ref b) H) ∧ (ys = [] → Q (.ref t) H) ∧ ∀ p, H p = none → Q (.ref p) (upd H p (.tup (xs ++ ys)))
theorem vals_nil {us : List Value} (h : Vals [] us) : us = [] := by cases h; rfl
theorem op_catT {X : Cx} : OpR X (binaryOp .Add) (rCatT X.K) := by
  intro pins s σ H x y v u Q I rx ry h
  obtain ⟨t, b, xs, ys, rfl, rfl, hT, hB, hz, q0, q1, q2⟩ := h
  cases rx
  cases ry
  obtain ⟨vs, rv, ht, _⟩ := I.tuple hT
  obtain ⟨ws, rw', hb, _⟩ := I.tuple hB
  have lv := rv.length
  have lw := rw'.length
  obtain ⟨⟨cls, dd, data, sl⟩, ho, hc, n, hd⟩ := id ht
  obtain ⟨⟨cls2, dd2, data2, sl2⟩, ho2, hc2, n2, hd2⟩ := id hb
  simp only at hc hd hc2 hd2
  subst hc hd hc2 hd2
  have e : vs.toArray ++ ws.toArray = (vs ++ ws).toArray := by simp
  by_cases hv : vs = []
  · have hx : xs = [] := by subst hv; exact List.length_eq_zero_iff.mp (by simpa using lv)
    exact concat_meets ⟨_, ho, rfl⟩ ⟨_, ho2, rfl⟩ noFill_tuple_add seq_tuple_add PySem.F.slot_tuple_add PySem.F.entry_tuple_add (PySem.F.args_tuple_add_2 _ _)
      (tuple_addW0 t b vs.toArray ws.toArray n n2 dd dd2 sl sl2 (by simp [hv])) ⟨ho, ho2, .ref b, H, I, rfl, q0 hx⟩
  · by_cases hw : ws = []
    · have hy : ys = [] := by subst hw; exact List.length_eq_zero_iff.mp (by simpa using lw)
      exact concat_meets ⟨_, ho, rfl⟩ ⟨_, ho2, rfl⟩ noFill_tuple_add seq_tuple_add PySem.F.slot_tuple_add PySem.F.entry_tuple_add (PySem.F.args_tuple_add_2 _ _)
        (tuple_addW1 t b vs.toArray ws.toArray n n2 dd dd2 sl sl2 (by simpa using hv) (by simp [hw])) ⟨ho, ho2, .ref t, H, I, rfl, q1 hy⟩
    · refine concat_meets ⟨_, ho, rfl⟩ ⟨_, ho2, rfl⟩ noFill_tuple_add seq_tuple_add PySem.F.slot_tuple_add PySem.F.entry_tuple_add (PySem.F.args_tuple_add_2 _ _)
        (tuple_addW2 t b vs.toArray ws.toArray n n2 dd dd2 sl sl2 (by simpa using hv) (by simpa using hw) (by rw [List.size_toArray, List.size_toArray]; omega)) ⟨ho, ho2, ?_⟩
      rw [e]
      exact ⟨.ref s.heap.objs.size, _, I.laid (t' := s.toks) (o := .tup (xs ++ ys)) (fun _ _ o => Heap.get?_push_of_some _ o) (Nat.le_refl _) ⟨by rw [List.length_append]; omega, _, rv.append rw', ⟨_, Heap.get?_push_size _ rfl, rfl, 0, rfl⟩⟩, rfl, q2 _ (I.hok.fresh (Nat.le_refl _))⟩
def wAddT (md : Md) : DO := fun x y M Q => match nrm M x, nrm M y with
  | .tup xs, .tup ys => Sz (xs.length + ys.length) ∧ Q (.tup (xs ++ ys)) M
  | _, _ => wAdd md x y M Q
theorem ot_addT {K : PySem.W.Frag} {md : Md} : OpT (fun x y H Q => rCatT K x y H Q ∨ rAddA K x y H Q) (wAddT md) := by
  intro M H F d1 d2 v1 v2 Q Qv m r1 r2 q f
  unfold wAddT at q
  split at q
  · rename_i xs ys e1 e2
    have e1 := nrm_tup e1
    have e2 := nrm_tup e2
    subst e1
    subst e2
    have g1 : Rp F (.tup xs) v1 := r1
    have g2 : Rp F (.tup ys) v2 := r2
    obtain ⟨a, vs, rfl, ha, ra⟩ := r1
    obtain ⟨b, ws, rfl, hb, rb⟩ := r2
    refine .inl ⟨a, b, vs, ws, rfl, rfl, .of (m.same _ _ ha), .of (m.same _ _ hb), by rw [ra.length, rb.length]; exact q.1.line, fun e => ?_, fun e => ?_, new_tup m (ra.append rb) q.2 f⟩
    · have : xs = [] := by subst e; exact List.length_eq_zero_iff.mp (by have := ra.length; simpa using this.symm)
      subst this
      exact f.here (d := .tup ys) m g2 q.2
    · have : ys = [] := by subst e; exact List.length_eq_zero_iff.mp (by have := rb.length; simpa using this.symm)
      subst this
      rw [List.append_nil] at q
      exact f.here (d := .tup xs) m g1 q.2
  · exact .inr (ot_add M H F d1 d2 v1 v2 Q Qv m r1 r2 q f)

/-! ### sorted(set(list of ints)) -/
section
section
variable {P : Program} {w : World} {A : Around} {E : Value → Shared → Prop} {s : Shared}
/-- a new set -/
abbrev setNew (w : World) : Obj := { cls := .type "set", dict := none, data := .set #[] 0 (.fresh 0 0 (!w.params.followText "set-order")) }
theorem set_of_list {l : Addr} {items : Array Value} (ns : List Int) {Q : Value → Shared → Prop} (hh : A.handled = none) (hl : s.heap.IsList l items) (hit : IntsAre items.toList ns) (hb : ns.length + 1 < scanBound)
    (h : ∀ (h' : Heap) (tk c : Nat), SetR w h' s.heap.objs.size (fun j => decide (j ∈ ns)) c → c ≤ ns.length → (∀ b o, s.heap.get? b = some o → h'.get? b = some o) → Q (.ref s.heap.objs.size) { s with heap := h', toks := tk }) :
    wpAny (model P w) A (call (.type "set") [.ref l]) Q E s := by
  have hsz : items.size = ns.length := by rw [← Array.length_toList]; exact IntsAre.length hit
  obtain ⟨c, tl, hmro⟩ := F.called_set.mro
  have hmade := F.called_set.made
  have hsub := F.called_set.sub
  refine wpAny_call (codeAny_of_tree ?_)
  show wpAny _ _ (callAny (.type "set") _) _ _ _
  refine wpAny_pure ⟨Code.quiet_builtin _ (by decide +kernel), codeAny_builtin F.entry_type_call ?_⟩
  rw [Around.under_plain (weight_type_call_type "set" [.ref l] []) rfl]
  have h1 := F.called_set.notType
  have h2 := F.called_set.canCreate
  have hct := F.typeCall_set_1 (.ref l)
  repeat (any_goals (first | assumption | wp_step))
  refine codeAny_mono (code_set_led1 (.ref l) (E := E) (Q₁ := fun obj s₁ => obj = .ref s.heap.objs.size ∧ s₁ = { s with heap := s.heap.push (setNew w) }) ⟨rfl, rfl⟩) fun r s₁ hr => ?_
  cases r with
  | error e => exact hr
  | ok fl =>
    cases fl with
    | ret obj =>
      obtain ⟨rfl, rfl⟩ := hr
      have hS : (s.heap.push (setNew w)).get? s.heap.objs.size = some (setNew w) := Heap.get?_push_size _ rfl
      have hT : Shared.TypeIs { s with heap := s.heap.push (setNew w) } (.ref s.heap.objs.size) "set" := ⟨_, hS, rfl⟩
      have hli := F.called_set.init.lookup
      have hbi := F.called_set.init.bind (.ref s.heap.objs.size)
      repeat (any_goals (first | assumption | wp_step))
      refine codeAny_mono (codeAny_call_builtin (R := wants (fun r s₂ => r = .none ∧ ∃ h' tk c, s₂ = { s with heap := h', toks := tk } ∧ SetR w h' s.heap.objs.size (fun j => decide (j ∈ ns)) c ∧ c ≤ ns.length ∧
          (∀ b o, s.heap.get? b = some o → h'.get? b = some o)) E) F.called_set.init.plain F.entry_set_init (check_set_init_1 hT ?_)) fun r₂ s₂ hr₂ => ?_
      · obtain ⟨ol, hol, hcl, nl, hdl⟩ := hl
        obtain ⟨ocls, odict, odata, oslots⟩ := ol
        simp only at hcl hdl
        subst hcl; subst hdl
        have hol' : (s.heap.push (setNew w)).get? l = some { cls := .type "list", dict := odict, data := .seq items nl, slots := oslots } := Heap.get?_push_of_some _ hol
        have hsls := F.sub_list_set
        have hslf := F.sub_list_frozenset
        have hne : (Value.type "list" == Value.type "dict") = false := by decide
        have hl1 : (s.heap.push (setNew w)).IsList l items := ⟨_, hol', rfl, nl, rfl⟩
        unfold Builtin.«set.__init__» noKeywords Builtin.Frozenset.updateFrom
        generalize hPI : pyIter = PI
        wp_walk
        subst hPI
        refine wpAny_pyIter_list hl1 ?_
        refine wpAny_bind (wpAny_runValue ?_)
        have hlS : l < s.heap.objs.size := Heap.lt_size hol
        have hh3 : A.in1.in1.in1.handled = none := by simp [hh]
        have hz1 : (s.heap.push (setNew w)).objs.size = s.heap.objs.size + 1 := Heap.size_push ..
        have hneI : l ≠ (s.heap.push (setNew w)).objs.size := by rw [hz1]; exact Nat.ne_of_lt (Nat.lt_succ_of_lt hlS)
        have hSf : s.heap.objs.size ∉ [(s.heap.push (setNew w)).objs.size, l] := by
          rw [hz1]; simp only [List.mem_cons, List.not_mem_nil, or_false, not_or]
          exact ⟨Nat.ne_of_lt (Nat.lt_succ_self _), Nat.ne_of_gt hlS⟩
        have hval : ∀ (i : Nat) (v : Value), items[i]? = some v → ∃ k t, ns[i]? = some k ∧ v = .int k t := fun i v hv => by
          have hi : i < ns.length := by rw [← hsz]; exact (Array.getElem?_eq_some_iff.mp hv).1
          obtain ⟨t, e⟩ := PyProof.Rows.IntsAre.int_at hit i v (by rw [Array.getElem?_toList]; exact hv)
          refine ⟨ns[i], t, List.getElem?_eq_getElem hi, ?_⟩
          rw [e, List.getD_eq_getElem?_getD, List.getElem?_eq_getElem hi] <;> rfl
        refine set_update_ints ((Walks.list hh3 _ l hneI items).toS) s.heap.objs.size
          hSf ns hsz hb hval (items.size - 0) 0 _ (by omega) (Nat.zero_le _)
          ⟨⟨_, Heap.get?_push_size _ rfl, rfl, rfl⟩, (hl1.push _)⟩ ⟨0, Nat.le_refl 0, setR_new_at (Heap.get?_push_of_some _ hS)⟩ fun s' c' hm hc' hS' => ?_
        obtain ⟨h', g2, d', tk', os'⟩ := s'
        have eg : g2 = s.gens := hm.gens
        have ed : d' = s.drawn := hm.drawn
        have eo : os' = s.os := hm.os
        subst eg; subst ed; subst eo
        show wpAny _ _ _ _ _ _
        refine wpAny_pure ?_
        show wpAny _ _ (ret Value.none) _ _ _
        refine wpAny_pure ⟨rfl, h', tk', c', rfl, hS', by omega, fun b o e => ?_⟩
        have hb0 : b < s.heap.objs.size := Heap.lt_size e
        exact hm.heap b o (by rw [hz1]; simp only [List.mem_cons, List.not_mem_nil, or_false, not_or]; exact ⟨Nat.ne_of_lt hb0, Nat.ne_of_lt (Nat.lt_succ_of_lt hb0)⟩) (Heap.get?_push_of_some _ (Heap.get?_push_of_some _ e))
      · cases r₂ with
        | error e => exact hr₂
        | ok fl₂ =>
          cases fl₂ with
          | ret r =>
            obtain ⟨rfl, h', tk, c', rfl, hS', hc', hk'⟩ := hr₂
            repeat (any_goals (first | assumption | wp_step))
            exact h _ _ _ hS' hc' hk'
          | _ => exact hr₂.elim
    | _ => exact hr.elim
end
variable {X : Cx}
def tSortSet (K : PySem.W.Frag) (ta : TE) : TE := fun σ H Q => ta σ H fun x H1 => ∃ (l : Addr) (ns : List Int), x = .ref l ∧ SqL K H1 l (ns.map V.int) ∧ ns.length < 64 ∧
  ∀ (ms : List Int) (p : Addr), ms.Pairwise (· < ·) → (∀ k, k ∈ ms ↔ k ∈ ns) → H1 p = none → Q (.ref p) (upd H1 p (.lst (ms.map V.int)))
theorem pe_sortSet {a : Expr} {ta : TE} {p p2 q pos : Pos} (hg : Gl X "sorted") (hm : X.mg "sorted" = none) (hg2 : Gl X "set") (hm2 : X.mg "set" = none) (ha : PE X a ta) (hc : X.calm = true := by rfl)
    (na : starEach [a] X.env = (false, eval a X.env) :: starEach [] X.env := by rfl) : PE X (.Call (.Name "sorted" p) [.Call (.Name "set" p2) [a] [] q] [] pos) (tSortSet X.K ta) := by
  refine ⟨fun pins s σ H Q I h => ?_⟩
  refine Call_ (ld_blt I hg hm PyProof.Rows.boot_sorted ?_)
  refine PyProof.Rows.callWith_builtin1 (PyProof.Rows.args_cons ?_ rfl) rfl rfl
  refine Call_ (ld_blt I hg2 hm2 PyProof.Rows.boot_set ?_)
  refine PyProof.Rows.callWith_type1 (PyProof.Rows.args_cons (thn (ha.run pins s σ H _ I h) fun v s1 ⟨x, H1, I1, r1, q1⟩ => PyProof.Rows.args_nil ?_) na) na rfl
  obtain ⟨l, ns, rfl, hq, h64, q1⟩ := q1
  cases r1
  obtain ⟨its, r, pl, hz⟩ := I1.list hq
  refine set_of_list ns (I1.ok.hd hc) pl.isList (by simpa using RZ.intsAre_vals r) (by unfold scanBound; omega) fun h' tk c hS hcl hk => ?_
  refine PyProof.Rows.args_nil ?_
  have I2 : Inv X pins σ H1 { s1 with heap := h', toks := tk } := I1.kept hk
  refine sorted_set hS (I2.ok.hd hc) (by omega) fun s' p out c ns' k g o hp hg hi hs hmm hll => ?_
  have hlen : (ns'.map V.int).length ≤ sizeLine := by rw [List.length_map, hll, sizeLine_eq]; omega
  have hp2 : s1.heap.objs.size ≤ p := by
    have h0 : s1.heap.objs.size < h'.objs.size := hS.lt
    exact Nat.le_trans (Nat.le_of_lt h0) hp
  have hn : H1 p = none := I2.hok.fresh hp
  have J : Inv X pins σ (upd H1 p (.lst (ns'.map V.int))) { s1 with heap := s'.heap, gens := s'.gens, drawn := s'.drawn, toks := s'.toks } :=
    Inv.call (s := { s1 with heap := h', toks := tk }) I2 (ch := []) (Un.laid k hp hn) (I2.hok.laid k hp ⟨hlen, out.toList, c, vals_of_ints hi, hg⟩) (by rw [g]; exact I2.bare) (fun _ z => nomatch z)
  have e : s' = { s1 with heap := s'.heap, gens := s'.gens, drawn := s'.drawn, toks := s'.toks } := by
    cases s'
    cases s1
    cases o
    rfl
  rw [e]
  exact ⟨.ref p, _, J, rfl, q1 ns' p hs (fun j => (hmm j).trans decide_eq_true_iff) hn⟩
end
def wSortSet (md : Md) (a : DE) : DE := fun ρ M Q => a ρ M fun x M1 => ∃ ns : List Int, nrm M1 x = .lst (ns.map .int) ∧ ns.length < 64 ∧ ∀ ms : List Int, ms.Pairwise (· < ·) → (∀ k, k ∈ ms ↔ k ∈ ns) → wNew md (ms.map .int) M1 Q
theorem tr_sortSet {K : PySem.W.Frag} {md : Md} {t : TE} {a : DE} (h : Tr t a) : Tr (tSortSet K t) (wSortSet md a) := by
  intro ρ M σ H F Q Qv er m q f
  refine h ρ M σ H F _ _ er m q fun d1 v1 M1 H1 F1 m1 e1 r1 q1 => ?_
  have vw := m1.view r1
  obtain ⟨ns, hx, hf, q1⟩ := q1
  rw [hx] at vw
  obtain ⟨a, ws, rfl, ha, ra⟩ := vw
  rw [ra.ints] at ha
  refine ⟨a, ns, rfl, .of ha, hf, fun ms p hs hk hp => ?_⟩
  exact new_lst m1 RpL.of_ints (q1 ms hs hk) (fun d v M2 H2 F2 m2 e2 => f d v M2 H2 F2 m2 (e1.trans e2)) p hp

/-! ### a dict with tuples of ints as keys, all its values True -/
section
open PySem.W
variable {X : Cx}
abbrev tKvs (rows : List (List Int)) : List (List Key × V) := rows.map fun r => (r.map Sum.inl, V.bl true)
def encT (p : IRow) : PyData := .tuple (p.2.map .int)
theorem encT_alike (p q : IRow) : alike (encT p) (encT q) = true := by
  unfold encT; rw [alike]; exact ints_alike _ _
theorem encT_depth (p : IRow) : (encT p).depth = 1 := by
  unfold encT; rw [PyData.depth, KE_depth]
theorem dataLe_tups : dataLe false encT = fun p q : IRow => leR p.2 q.2 := by
  funext p q
  show (!dataLt (.tuple (q.2.map .int)) (.tuple (p.2.map .int))) = decide (p.2 ≤ q.2)
  rw [dataLt_tuple]
  show (!rowLt (q.2.map .int) (p.2.map .int)) = _
  rw [dataLt_ints]
  by_cases h : q.2 < p.2
  · have h' : ¬ p.2 ≤ q.2 := fun r => List.not_lt.mpr r h
    simp [h, h']
  · have h' : p.2 ≤ q.2 := List.not_lt.mp h
    simp [h, h']
theorem kt_rows {H : Hp} : ∀ {rows : List (List Int)} {ks : List (List Key × Addr × Value)}, KT H (tKvs rows) ks →
    ∃ ps : List IRow, ps.map (·.1) = ks.map (fun x => x.2.1) ∧ ps.map (·.2) = rows ∧ ∀ p ∈ ps, H p.1 = some (.tup (p.2.map V.int))
  | [], ks, r => by cases r; exact ⟨[], rfl, rfl, fun _ h => absurd h List.not_mem_nil⟩
  | r :: rows, ks, h => by
    cases h with
    | cons h1 t =>
      rename_i q qs
      obtain ⟨ps, e1, e2, hp⟩ := kt_rows t
      have h2 := h1.2.1
      refine ⟨(q.2.1, r) :: ps, by rw [List.map_cons, List.map_cons, e1], by rw [List.map_cons, e2], fun p hm => ?_⟩
      rcases List.mem_cons.mp hm with rfl | hm
      · show H q.2.1 = some (.tup (r.map V.int))
        rw [h2, List.map_map]; rfl
      · exact hp p hm
theorem reads_tup {pins : List (Addr × Obj)} {σ : L2.St} {H : Hp} {s : Shared} (I : Inv X pins σ H s) {p : IRow} (hp : H p.1 = some (.tup (p.2.map V.int))) : Reads s.heap (.ref p.1) (encT p) [] := by
  obtain ⟨z, its, r, o, h1, h2, n, h3⟩ := (show ObjOk X.prog X.w H s.heap p.1 (.tup (p.2.map V.int)) from I.hok p.1 _ hp)
  exact Reads.tuple h1 h2 h3 ((by simpa using (ints_vals r).reads s.heap))
def rSortDT : List V → Hp → VK → Prop := fun vs H Q => ∃ (d : Addr) (rows : List (List Int)), vs = [.ref d] ∧ H d = some (.dT (tKvs rows)) ∧ (∀ r ∈ rows, r ≠ []) ∧
  ∀ (ps : List IRow) (q : Addr), ps.map (·.2) = rows.mergeSort leR → (∀ p ∈ ps, H p.1 = some (.tup (p.2.map V.int))) → H q = none → Q (.ref q) (upd H q (.lst (ps.map fun p => V.ref p.1)))
theorem call_sortDT (hc : X.calm = true) (hu : X.A.units + 65 < cLine) : CallR X (.builtin "sorted") rSortDT := by
  intro pins s σ H vs us Q I r h
  obtain ⟨d, rows, rfl, hd, hne, q⟩ := h
  rw [Vals.ref1 r]
  obtain ⟨z, hs, ks, pr, o, es, ep, ho, hx, hdt, he, hn⟩ := (show ObjOk X.prog X.w H s.heap d (.dT (tKvs rows)) from I.hok d _ hd)
  have l1 : es.size = ks.length := size_of_entries he
  have l2 : (tKvs rows).length = ks.length := Paired.length pr
  obtain ⟨ps, e1, e2, hps⟩ := kt_rows pr
  have hpl : ps.length = ks.length := by rw [← List.length_map (f := (·.1)) (as := ps), e1, List.length_map]
  have hpz : ps.length ≤ sizeLine := by rw [hpl, ← l2]; exact z
  refine Calls.call_function_entry PyProof.Rows.kind_sorted PyProof.Rows.plain_sorted PyProof.Rows.entry_sorted (PyProof.Rows.args_sorted1 _) ?_
  unfold Builtin.«sorted»
  refine wpAny_bind (m := checkCount "sorted" 1 1 _) (wpAny_pure ?_)
  refine wpAny_bind (PySem.W.kdu_collect (A := X.A.in1) (kdl_raw hs hx hdt) (I.ok.hd hc) ho (by omega) fun h' tk acc hk it => ?_)
  have ea : acc.toList = ps.map fun p => Value.ref p.1 := by
    have e3 : (ps.map fun p => Value.ref p.1) = ks.map fun x => Value.ref x.2.1 := by
      have := congrArg (List.map Value.ref) e1
      rw [List.map_map, List.map_map] at this
      exact this
    rw [e3]
    have hl : acc.toList.length = ks.length := by rw [Array.length_toList, it.1]; exact l1
    apply List.ext_getElem?
    intro j
    rw [List.getElem?_map]
    cases hj : acc.toList[j]? with
    | none =>
      have h1 := List.getElem?_eq_none_iff.mp hj
      rw [List.getElem?_eq_none (by omega)]
      all_goals rfl
    | some v =>
      obtain ⟨en, hen, hv⟩ := it.2 j v (by rw [← Array.getElem?_toList]; exact hj)
      have qe := entry_at he j
      rw [hen] at qe
      cases hb : ks[j]? with
      | none =>
        rw [hb] at qe
        exact nomatch (show some en = none from qe)
      | some b =>
        rw [hb] at qe
        have e2 : en = entryOfKey (tupleKind (mixKind X.prog X.w)) b := Option.some.inj qe
        rw [hv, e2]
        all_goals rfl
  have I1 : Inv X pins σ H { s with heap := h', toks := tk } := I.kept hk
  have hal : acc.toList.length = ps.length := by rw [ea, List.length_map]
  refine wpAny_bind (wpAny_newList ?_ (by rw [hal]; exact hpz))
  have hoL : (h'.push (seqObj "list" acc.toList.toArray 0)).get? h'.objs.size = some (seqObj "list" acc.toList.toArray 0) := Heap.get?_push_size _ rfl
  show wpAny _ _ _ _ _ { s with heap := h'.push (seqObj "list" acc.toList.toArray 0), toks := tk }
  rw [ea] at hoL ⊢
  have hold : ∀ b u, h'.get? b = some u → (sortingHeap (h'.push (seqObj "list" (ps.map fun p => Value.ref p.1).toArray 0)) h'.objs.size (ps.map fun p => Value.ref p.1)).get? b = some u := fun b u e =>
    sortingHeap_old (Nat.ne_of_lt (Heap.lt_size e)) (Heap.get?_push_of_some _ e)
  have er' : EachIs (fun v p => ∃ as, Reads (sortingHeap (h'.push (seqObj "list" (ps.map fun p => Value.ref p.1).toArray 0)) h'.objs.size (ps.map fun p => Value.ref p.1)) v (encT p) as) (ps.map fun p => Value.ref p.1) ps := by
    have : ∀ {l : List IRow}, (∀ p ∈ l, H p.1 = some (.tup (p.2.map V.int))) → EachIs (fun v p => ∃ as, Reads (sortingHeap (h'.push (seqObj "list" (ps.map fun p => Value.ref p.1).toArray 0)) h'.objs.size (ps.map fun p => Value.ref p.1)) v (encT p) as) (l.map fun p => Value.ref p.1) l := fun {l} => by
      induction l with
      | nil => intro _; exact .nil
      | cons p l ih => intro hp; exact .cons ⟨_, Reads.keeps hold (reads_tup I1 (hp p List.mem_cons_self))⟩ (ih fun q hq => hp q (List.mem_cons_of_mem _ hq))
    exact this hps
  have hal2 : AllAlike (ps.map encT) := AllAlike.of fun x y => encT_alike x y
  have hsort : Sortable (ps.map encT) := .inl fun y hy => by
    obtain ⟨p, hp, rfl⟩ := List.mem_map.mp hy
    have hp2 : p.2 ∈ rows := by rw [← e2]; exact List.mem_map.mpr ⟨p, hp, rfl⟩
    unfold encT
    cases e : p.2 with
    | nil => exact absurd e (hne _ hp2)
    | cons a r => exact ⟨_, _, rfl⟩
  have eo := sortVals_data (h' := sortingHeap (h'.push (seqObj "list" (ps.map fun p => Value.ref p.1).toArray 0)) h'.objs.size (ps.map fun p => Value.ref p.1)) (R := fun v p => v = Value.ref p.1) false (each_refs ps) er' hal2
  refine wpAny_bind (wpAny_holding (wpAny_call_entry PyProof.Rows.slot_list_sort ⟨_, hoL, rfl⟩ PyProof.Rows.entry_list_sort
    (list_sort_vals (s := { s with heap := h'.push (seqObj "list" (ps.map fun p => Value.ref p.1).toArray 0), toks := tk }) (κ := dataKind (sortingHeap (h'.push (seqObj "list" (ps.map fun p => Value.ref p.1).toArray 0)) h'.objs.size (ps.map fun p => Value.ref p.1)) (ps.map encT)) hoL
      (SortsAt.data (s := { s with heap := sortingHeap (h'.push (seqObj "list" (ps.map fun p => Value.ref p.1).toArray 0)) h'.objs.size (ps.map fun p => Value.ref p.1), toks := tk }) (each_map (R := fun v d => ∃ as, Reads (sortingHeap (h'.push (seqObj "list" (ps.map fun p => Value.ref p.1).toArray 0)) h'.objs.size (ps.map fun p => Value.ref p.1)) v d as) encT er') hal2 hsort ?_) (by rw [List.length_map]; exact hpz) ⟨_, rfl, ?_⟩) (PyProof.Rows.args_list_sort _)))
  · intro y hy
    obtain ⟨p, hp, rfl⟩ := List.mem_map.mp hy
    rw [encT_depth]
    simp only [Around.in1_units]
    omega
  · rw [each_refs_eq eo, dataLe_tups]
    obtain ⟨c, hcc⟩ := PyProof.Rows.sortedHeap_at (vs := ps.map fun p => Value.ref p.1) (out := ((ps.mergeSort fun x y => leR x.2 y.2).map fun p => Value.ref p.1).toArray) hoL
    have hqn : H h'.objs.size = none := I1.hok.fresh (Nat.le_refl _)
    refine wpAny_pure ⟨_, rfl, .ref h'.objs.size, upd H h'.objs.size (.lst ((ps.mergeSort fun x y => leR x.2 y.2).map fun p => V.ref p.1)), I1.laid (t' := tk) (fun b u e => ?_) (Nat.le_refl _)
      ⟨by rw [List.length_map, List.length_mergeSort]; exact hpz, _, c, refs_vals _, hcc⟩, rfl, q (ps.mergeSort fun x y => leR x.2 y.2) _ ?_ (fun p hp => hps p (List.mem_mergeSort.mp hp)) hqn⟩
    · have hb : b < h'.objs.size := Heap.lt_size e
      rw [PyProof.Rows.sortedHeap_old (Nat.ne_of_lt hb) (by rw [size_push']; exact Nat.lt_succ_of_lt hb)]
      exact Heap.get?_push_of_some _ e
    · rw [← e2]
      exact List.map_mergeSort (f := fun p : IRow => p.2) (r := fun x y => leR x.2 y.2) (s := leR) fun a _ b _ => rfl
end

/-! ### a dict with tuples of ints as keys, as plain data -/
/-- the dict of these keys -/
def dTM (rows : List (List Int)) : MO := .raw (.dT (tKvs rows))
def addR (rows : List (List Int)) (r : List Int) : List (List Int) := if r ∈ rows then rows else rows ++ [r]
theorem mem_addR {rows : List (List Int)} {r s : List Int} : s ∈ addR rows r ↔ s ∈ rows ∨ s = r := by
  unfold addR
  split
  · rename_i h
    exact ⟨.inl, fun z => z.elim id fun e => e ▸ h⟩
  · rw [List.mem_append, List.mem_singleton]
theorem addR_length {rows : List (List Int)} {r : List Int} : (addR rows r).length ≤ rows.length + 1 := by
  unfold addR; split <;> simp
theorem inl_inj {r s : List Int} : r.map (Sum.inl : Int → Key) = s.map Sum.inl ↔ r = s := List.map_inj_right fun a b h => Sum.inl.inj h
theorem putK_tKvs {rows : List (List Int)} {r : List Int} : putK (tKvs rows) (r.map Sum.inl) (V.bl true) = tKvs (addR rows r) := by
  unfold putK addR
  by_cases c : r ∈ rows
  · have hany : ((tKvs rows).any fun kv => decide (kv.1 = r.map Sum.inl)) = true := List.any_eq_true.mpr ⟨(r.map Sum.inl, V.bl true), List.mem_map.mpr ⟨r, c, rfl⟩, decide_eq_true rfl⟩
    rw [if_pos c, if_pos hany]
    conv => rhs; rw [← List.map_id (tKvs rows)]
    refine List.map_congr_left fun kv hkv => ?_
    obtain ⟨s, hs, rfl⟩ := List.mem_map.mp hkv
    show (if _ then _ else _) = _
    split <;> rfl
  · rw [if_neg c, if_neg]
    · rw [tKvs, tKvs, List.map_append]; rfl
    · intro h
      obtain ⟨kv, hkv, e⟩ := List.any_eq_true.mp h
      obtain ⟨s, hs, rfl⟩ := List.mem_map.mp hkv
      exact c (by rw [← inl_inj.mp (of_decide_eq_true e)]; exact hs)
def wDNewT : DE := fun _ M Q => ∀ p, M p = none → Q (.ref p) (M.set p (dTM []))
theorem tr_dnewT : Tr tDNewT wDNewT := by
  intro ρ M σ H F Q Qv er m q f p hp
  obtain ⟨m', e'⟩ := m.mut hp (o := .dT []) (q := dTM []) ⟨rfl, fun _ => nofun⟩
  exact f (.ref p) _ _ _ _ m' e' rfl (q p (m.fresh hp).2)
def sDPutT (o i e : DE) : DS := fun Dd ρ M => e ρ M fun d M1 => o ρ M1 fun x M2 => i ρ M2 fun y M3 => ∃ (a : Addr) (rows : List (List Int)) (r : List Int), d = .bl true ∧ x = .ref a ∧ M3 a = some (dTM rows) ∧ y = .tup (r.map .int) ∧ rows.length < 16777216 ∧ Dd.nx ρ (M3.set a (dTM (addR rows r)))
theorem ts_putT {td ty tv : TE} {o i e : DE} (ho : Tr td o) (hi : Tr ty i) (he : Tr tv e) : TrS (sDPut td ty tv) (sDPutT o i e) := by
  intro ρ M σ H F Dd De er m q r
  refine he ρ M σ H F _ _ er m q fun d v M1 H1 F1 m1 e1 r1 q1 => ?_
  refine ho ρ M1 σ H1 F1 _ _ (er.mono e1.fs) m1 q1 fun x u M2 H2 F2 m2 e2 r2 q2 => ?_
  refine hi ρ M2 σ H2 F2 _ _ (er.mono (e1.fs.trans e2.fs)) m2 q2 fun y w M3 H3 F3 m3 e3 r3 q3 => ?_
  obtain ⟨a, rows, k, rfl, rfl, ea, rfl, hz, q3⟩ := q3
  obtain ⟨_, o, ho, ee, hnt⟩ := m3.mem a _ ea
  subst ee
  have r2 : u = .ref a := r2
  subst r2
  have r1 : v = .bl true := r1
  subst r1
  obtain ⟨b, vs, rfl, fb, rb⟩ := r3
  rw [rb.ints] at fb
  have hb := m3.same _ _ fb
  obtain ⟨m', e'⟩ := m3.chg ea (o := .dT (tKvs (addR rows k))) (q := dTM (addR rows k)) ⟨rfl, fun _ => nofun⟩
  have ee := e1.trans (e2.trans (e3.trans e'))
  have hl : (tKvs rows).length < sizeLine := by rw [sizeLine_eq, List.length_map]; exact hz
  have hp := DPut.t (a := a) (b := b) (k := k.map Sum.inl) (v := V.bl true) ho (by rw [hb, List.map_map]; rfl) hl
  rw [putK_tKvs] at hp
  exact ⟨a, _, rfl, hp, r.nx _ _ _ _ _ (er.mono ee.fs) m' ee q3⟩
/-- tuples that are there come to be known -/
def frzT (H F : Hp) (as : List Addr) : Hp := fun b => match F b with
  | some x => some x
  | none => if b ∈ as then H b else none
theorem frzT_at {H F : Hp} (s : Same F H) {as : List Addr} {b : Addr} {x : HO} (hb : b ∈ as) (h : H b = some x) : frzT H F as b = some x := by
  unfold frzT
  cases e : F b with
  | some y => have := s b y e; rw [h] at this; cases this; rfl
  | none => rw [if_pos hb]; exact h
theorem Mem.tups {M : Mp} {H F : Hp} (m : Mem M H F) {as : List Addr} (ha : ∀ a ∈ as, ∃ xs, H a = some (.tup xs)) : Mem M H (frzT H F as) ∧ Ext M H F M H (frzT H F as) := by
  have fs : Same F (frzT H F as) := fun b x e => by unfold frzT; rw [e]
  refine ⟨⟨fun b x e => ?_, fun a q e => ?_⟩, fs, fun _ _ h _ => h, fun _ h => .inl h, fun a h => ?_⟩
  · unfold frzT at e
    split at e
    · rename_i y e2
      cases e
      exact m.same b _ e2
    · split at e
      · exact e
      · cases e
  · obtain ⟨h1, o, h2, h3⟩ := m.mem a q e
    refine ⟨?_, o, h2, h3.mono fs⟩
    unfold frzT
    rw [h1]
    show (if a ∈ as then H a else none) = none
    rw [if_neg]
    intro hm
    obtain ⟨xs, hx⟩ := ha a hm
    rw [h2] at hx
    cases hx
    cases q with
    | lst ys => obtain ⟨vs, e, _⟩ := h3; cases e
    | dK ks ys => obtain ⟨vs, e, _⟩ := h3; cases e
    | raw o' => obtain ⟨e, n⟩ := h3; subst e; exact n _ rfl
  · unfold frzT at h
    split at h
    · rename_i y e
      exact .inl (by rw [e]; exact fun z => nomatch z)
    · split at h
      · rename_i hm
        exact .inr (.inr (.inr (ha a hm)))
      · exact absurd rfl h
def cSortDT (md : Md) : DC := fun ds M Q => ∃ (a : Addr) (rows : List (List Int)), ds = [.ref a] ∧ M a = some (dTM rows) ∧ (∀ r ∈ rows, r ≠ []) ∧ wNew md ((rows.mergeSort leR).map fun r => .tup (r.map .int)) M Q
theorem ct_sortDT {md : Md} : CallT rSortDT (cSortDT md) := by
  intro M H F ds vs Q Qv m r q f
  obtain ⟨a, rows, rfl, ha, hne, q⟩ := q
  obtain ⟨v, rfl, h1⟩ := rp1 r
  have h1 : v = .ref a := h1
  subst h1
  obtain ⟨_, o, ho, ee, _⟩ := m.mem a _ ha
  subst ee
  refine ⟨a, rows, rfl, ho, hne, fun ps p e2 hps hp => ?_⟩
  obtain ⟨m2, e3⟩ := m.tups (as := ps.map (·.1)) fun b hb => by
    obtain ⟨z, hz, rfl⟩ := List.mem_map.mp hb
    exact ⟨_, hps z hz⟩
  have hr : ∀ {l : List IRow}, (∀ z ∈ l, z ∈ ps) → RpL (frzT H F (ps.map (·.1))) ((l.map (·.2)).map fun r => D.tup (r.map .int)) (l.map fun z => V.ref z.1) := fun {l} => by
    induction l with
    | nil => intro _; rfl
    | cons z l ih =>
      intro hz
      have hm := hz z List.mem_cons_self
      exact ⟨_, _, rfl, ⟨z.1, _, rfl, frzT_at m.same (List.mem_map.mpr ⟨z, hm, rfl⟩) (hps z hm), RpL.of_ints⟩, ih fun y hy => hz y (List.mem_cons_of_mem _ hy)⟩
  have hr2 := hr (l := ps) fun _ h => h
  rw [e2] at hr2
  exact new_lst m2 hr2 q (fun d v M3 H3 F3 m3 e4 => f d v M3 H3 F3 m3 (e3.trans e4)) p hp

/-! ### d.update(e), both with plain keys -/
def rDUpd : V → List V → Hp → VK → Prop := fun x vs H Q => ∃ (a b : Addr) (kvs more : List (Key × V)), x = .ref a ∧ vs = [.ref b] ∧ a ≠ b ∧ H a = some (.dK kvs) ∧ H b = some (.dK more) ∧ kvs.length + more.length ≤ sizeLine ∧ Q .non (upd H a (.dK (mergeK kvs more)))
theorem mt_dupd {X : Cx} : MtR X "dict.update" rDUpd := by
  intro pins s σ H x vs v us Q I rx rv h
  obtain ⟨a, b, kvs, more, ex, ev, hab, ha, hb, hz, q⟩ := h
  subst ex ev
  obtain rfl : v = Value.ref a := rx
  obtain ⟨u, rfl, ru⟩ := rv.one
  obtain rfl : u = Value.ref b := ru
  obtain ⟨z, hd, va, ra, da⟩ := dk_of I.hok ha
  obtain ⟨z2, hd2, vb, rb, db⟩ := dk_of I.hok hb
  refine call_meetsIn PySem.F.slot_dict_update da.typeIs PySem.F.entry_dict_update (PySem.F.args_dict_update_2 _ _) (meets_dict_update (mixKind X.prog X.w) a b hab hd2) ⟨va, vb, da, db, by rw [← ra.length, ← rb.length]; exact hz, fun h' da' db' hs => ⟨.non, _, ?_, rfl, q⟩⟩
  have he : ∃ q, h'.get? a = some q := let ⟨q, _, _, hq, _⟩ := da'; ⟨q, hq⟩
  have hl : (mergeK kvs more).length ≤ sizeLine := by have := length_mergeK more kvs; omega
  exact d_write (t' := s.toks) I (by rw [ha]; exact True.intro) hs he (dk_new hl hd (rb.merge ra) da')
/-- it is a dict that can be changed -/
def isDk (M : Mp) (d : D) : Bool := match nrm M d with
  | .dct _ _ => true
  | _ => false
theorem isDk_ty {K : PySem.W.Frag} {M : Mp} {H F : Hp} (m : Mem M H F) {d : D} {v : V} (r : Rp F d v) (h : isDk M d = true) : tyV K "dict" v H := by
  have vw := m.view r
  unfold isDk at h
  split at h
  · rename_i ks xs e
    rw [e] at vw
    obtain ⟨a, kvs, rfl, ha, _⟩ := vw
    exact .inr (.inr (.inl ⟨rfl, .inl ⟨kvs, ha⟩⟩))
  · cases h
def wBMd (w : DM) (o : DE) (a : DA) : DE := fun ρ M Q => o ρ M fun x M1 => isDk M1 x = true ∧ a ρ M1 fun ds M2 => w x ds M2 Q
theorem tr_bmd {K : PySem.W.Frag} {r : V → List V → Hp → VK → Prop} {w : DM} {to : TE} {t : TA} {o : DE} {a : DA} (hm : MethT r w) (ho : Tr to o) (ha : TrA t a) : Tr (tBM K "dict" r to t) (wBMd w o a) := by
  intro ρ M σ H F Q Qv er m q f
  refine ho ρ M σ H F _ _ er m q fun d v M1 H1 F1 m1 e1 r1 q1 => ⟨isDk_ty m1 r1 q1.1, ?_⟩
  refine ha ρ M1 σ H1 F1 _ _ (er.mono e1.fs) m1 q1.2 fun ds vs M2 H2 F2 m2 e2 r2 q2 => ?_
  exact hm M2 H2 F2 d v ds vs Q Qv m2 (Rp.mono e2.fs _ _ r1) r2 q2 (f.ext (e1.trans e2))
/-- the second's pairs are put into the first -/
def mUpd : DM := fun x ds M Q => match x, ds with
  | .ref a, [y] => match M a, nrm M y with
    | some (.dK ks xs), .dct ls ys => y ≠ .ref a ∧ ks.length + ls.length ≤ 16777216 ∧ Q .non (M.set a (.dK (mrgD (ks, xs) (ls.zip ys)).1 (mrgD (ks, xs) (ls.zip ys)).2))
    | _, _ => False
  | _, _ => False
theorem zip_pairs {F : Hp} : ∀ {kvs : List (Key × V)} {ys : List D}, RpL F ys (kvs.map (·.2)) → Paired (fun (p : Key × D) (kv : Key × V) => p.1 = kv.1 ∧ Rp F p.2 kv.2) ((kvs.map (·.1)).zip ys) kvs
  | [], ys, r => by
    cases ys with
    | nil => exact .nil
    | cons y ys => obtain ⟨v, r, e, _⟩ := r; cases e
  | kv :: kvs, ys, r => by
    cases ys with
    | nil => cases r
    | cons y ys =>
      obtain ⟨v, vs, e, h1, h2⟩ := r
      simp only [List.map_cons, List.cons.injEq] at e
      obtain ⟨e1, e2⟩ := e
      subst e1 e2
      exact .cons ⟨rfl, h1⟩ (zip_pairs h2)
theorem mt_dupdD : MethT rDUpd mUpd := by
  intro M H F d v ds vs Q Qv m r1 r2 q f
  unfold mUpd at q
  split at q
  · rename_i a y
    have r1 : v = .ref a := r1
    subst r1
    obtain ⟨u, rfl, h1⟩ := rp1 r2
    have vy := m.view h1
    split at q
    · rename_i ks xs ls ys e ey
      obtain ⟨hne, hz, q⟩ := q
      rw [ey] at vy
      obtain ⟨b, more, rfl, hb, hk, rb⟩ := vy
      obtain ⟨hf, o, ho, kvs, rfl, hk0, rr⟩ := m.mem a _ e
      have hab : a ≠ b := by
        intro h
        subst h
        cases y with
        | ref c => cases h1; exact hne rfl
        | dct ls' ys' =>
          obtain ⟨c, kv2, e2, h2, _⟩ := h1
          cases e2
          rw [hf] at h2; cases h2
        | _ => simp [nrm] at ey
      subst hk
      obtain ⟨g1, g2⟩ := mrg_rp (acc := (ks, xs)) (akv := kvs) (zip_pairs rb) hk0 rr
      obtain ⟨m', e'⟩ := m.chg e (o := .dK (mergeK kvs more)) (q := .dK (mrgD (ks, xs) ((more.map (·.1)).zip ys)).1 (mrgD (ks, xs) ((more.map (·.1)).zip ys)).2) ⟨_, rfl, g1, g2⟩
      refine ⟨a, b, kvs, more, rfl, rfl, hab, ho, hb, ?_, f .non _ _ _ _ m' e' rfl q⟩
      rw [sizeLine_eq, ← List.length_map (f := (·.1)) (as := kvs), hk0, ← List.length_map (f := (·.1)) (as := more)]
      exact hz
    · exact q.elim
  · exact q.elim
/-! ### d.get(k), d.get(k, x) -/
theorem dget_at {M : Mp} {H F : Hp} (m : Mem M H F) {x : D} {v : V} {ks : List Key} {xs : List D} (r : Rp F x v) (e : nrm M x = .dct ks xs) : ∃ a kvs, v = .ref a ∧ H a = some (.dK kvs) ∧ kvs.map (·.1) = ks ∧ RpL F xs (kvs.map (·.2)) := by
  have vw := m.view r
  rw [e] at vw
  exact vw
def wDGet1 (o i : DE) : DE := fun ρ M Q => o ρ M fun x M1 => isDk M1 x = true ∧ i ρ M1 fun y M2 => match nrm M2 x, keyD y with
  | .dct ks xs, some k => Q ((look ks xs k).getD .non) M2
  | _, _ => False
theorem isD_of {M : Mp} {H F : Hp} (m : Mem M H F) {x : D} {v : V} (r : Rp F x v) (h : isDk M x = true) : ∃ a, v = .ref a ∧ IsD H a := by
  unfold isDk at h
  split at h
  · rename_i ks xs e
    obtain ⟨a, kvs, rfl, ha, _⟩ := dget_at m r e
    exact ⟨a, rfl, .inl ⟨kvs, .inl ha⟩⟩
  · cases h
theorem tr_dget1 {td ty : TE} {o i : DE} (ho : Tr td o) (hi : Tr ty i) : Tr (tDGet1 td ty) (wDGet1 o i) := by
  intro ρ M σ H F Q Qv er m q f
  refine ho ρ M σ H F _ _ er m q fun x v M1 H1 F1 m1 e1 r1 q1 => ?_
  obtain ⟨a, rfl, hd⟩ := isD_of m1 r1 q1.1
  refine ⟨a, rfl, hd, ?_⟩
  refine hi ρ M1 σ H1 F1 _ _ (er.mono e1.fs) m1 q1.2 fun y w M2 H2 F2 m2 e2 r2 q2 => ?_
  split at q2
  · rename_i ks xs k ex ek
    obtain ⟨b, kvs, eb, ha, hk, ra⟩ := dget_at m2 (Rp.mono e2.fs _ _ r1) ex
    cases eb
    have ew := keyD_rp r2 ek
    subst ew
    refine ⟨_, .k ha, f ((look ks xs k).getD .non) _ _ _ _ m2 (e1.trans e2) ?_ q2⟩
    obtain ⟨i1, i2⟩ := look_rp (y := k) hk ra
    cases el : look ks xs k with
    | none => rw [i2 el]; rfl
    | some d => obtain ⟨u, eu, ru⟩ := i1 d el; rw [eu]; exact ru
  · exact q2.elim
def wDGet2 (o i e : DE) : DE := fun ρ M Q => o ρ M fun x M1 => isDk M1 x = true ∧ i ρ M1 fun y M2 => e ρ M2 fun z M3 => match nrm M3 x, keyD y with
  | .dct ks xs, some k => Q ((look ks xs k).getD z) M3
  | _, _ => False
theorem tr_dget2 {td ty tz : TE} {o i e : DE} (ho : Tr td o) (hi : Tr ty i) (he : Tr tz e) : Tr (tDGet2 td ty tz) (wDGet2 o i e) := by
  intro ρ M σ H F Q Qv er m q f
  refine ho ρ M σ H F _ _ er m q fun x v M1 H1 F1 m1 e1 r1 q1 => ?_
  obtain ⟨a, rfl, hd⟩ := isD_of m1 r1 q1.1
  refine ⟨a, rfl, hd, ?_⟩
  refine hi ρ M1 σ H1 F1 _ _ (er.mono e1.fs) m1 q1.2 fun y w M2 H2 F2 m2 e2 r2 q2 => ?_
  refine he ρ M2 σ H2 F2 _ _ (er.mono (e1.fs.trans e2.fs)) m2 q2 fun z u M3 H3 F3 m3 e3 r3 q3 => ?_
  split at q3
  · rename_i ks xs k ex ek
    obtain ⟨b, kvs, eb, ha, hk, ra⟩ := dget_at m3 (Rp.mono (e2.fs.trans e3.fs) _ _ r1) ex
    cases eb
    have ew := keyD_rp (Rp.mono e3.fs _ _ r2) ek
    subst ew
    refine ⟨_, .k ha, f ((look ks xs k).getD z) _ _ _ _ m3 (e1.trans (e2.trans e3)) ?_ q3⟩
    obtain ⟨i1, i2⟩ := look_rp (y := k) hk ra
    cases el : look ks xs k with
    | none => rw [i2 el]; exact r3
    | some d => obtain ⟨u', eu, ru⟩ := i1 d el; rw [eu]; exact ru
  · exact q3.elim
/-! ### {k: v, ..} -/
def wPairs : List (DE × DE) → DEnv → Mp → (List (D × D) → Mp → Prop) → Prop
  | [], _, M, Q => Q [] M
  | p :: r, ρ, M, Q => p.1 ρ M fun x M1 => p.2 ρ M1 fun y M2 => wPairs r ρ M2 fun ps M3 => Q ((x, y) :: ps) M3
def RpP (F : Hp) : List (D × D) → List (V × V) → Prop := Paired fun p q => Rp F p.1 q.1 ∧ Rp F p.2 q.2
def TrPs (t : List (TE × TE)) (w : List (DE × DE)) : Prop := ∀ (ρ : DEnv) (M : Mp) (σ : L2.St) (H F : Hp) (Q : List (D × D) → Mp → Prop) (Qv : List (V × V) → Hp → Prop), EnvR F ρ σ → Mem M H F → wPairs w ρ M Q →
  (∀ ds vs M' H' F', Mem M' H' F' → Ext M H F M' H' F' → RpP F' ds vs → Q ds M' → Qv vs H') → tPairs t σ H Qv
theorem tps_nil : TrPs [] [] := fun ρ M σ H F Q Qv er m h f => f [] [] _ _ _ m .refl .nil h
theorem tps_cons {tk tv : TE} {k v : DE} {t : List (TE × TE)} {w : List (DE × DE)} (hk : Tr tk k) (hv : Tr tv v) (hr : TrPs t w) : TrPs ((tk, tv) :: t) ((k, v) :: w) := by
  intro ρ M σ H F Q Qv er m h f
  refine hk ρ M σ H F _ _ er m h fun d1 v1 M1 H1 F1 m1 e1 r1 q1 => ?_
  refine hv ρ M1 σ H1 F1 _ _ (er.mono e1.fs) m1 q1 fun d2 v2 M2 H2 F2 m2 e2 r2 q2 => ?_
  refine hr ρ M2 σ H2 F2 _ _ (er.mono (e1.fs.trans e2.fs)) m2 q2 fun ds vs M3 H3 F3 m3 e3 r3 q3 => ?_
  exact f ((d1, d2) :: ds) _ _ _ _ m3 (e1.trans (e2.trans e3)) (.cons ⟨Rp.mono (e2.fs.trans e3.fs) _ _ r1, Rp.mono e3.fs _ _ r2⟩ r3) q3
def keysP : List (D × D) → Option (List (Key × D))
  | [] => some []
  | p :: r => match keyD p.1, keysP r with
    | some k, some ps => some ((k, p.2) :: ps)
    | _, _ => none
theorem keysP_rp {F : Hp} : ∀ {ps : List (D × D)} {vs : List (V × V)} {kps : List (Key × D)}, RpP F ps vs → keysP ps = some kps →
    ∃ kvs : List (Key × V), vs = kvs.map (fun kv => (kV kv.1, kv.2)) ∧ Paired (fun (p : Key × D) (kv : Key × V) => p.1 = kv.1 ∧ Rp F p.2 kv.2) kps kvs ∧ kvs.length = ps.length
  | [], _, _, .nil, e => by cases e; exact ⟨[], rfl, .nil, rfl⟩
  | p :: ps, _, kps, .cons (b := q) h t, e => by
    unfold keysP at e
    split at e
    · rename_i k kps' e1 e2
      cases e
      obtain ⟨kvs, e3, pr, hl⟩ := keysP_rp t e2
      have := keyD_rp h.1 e1
      refine ⟨(k, q.2) :: kvs, ?_, .cons ⟨rfl, h.2⟩ pr, by rw [List.length_cons, List.length_cons, hl]⟩
      rw [e3, List.map_cons, ← this]
    · cases e
def wDisp (md : Md) (trs : List (DE × DE)) : DE := fun ρ M Q => wPairs trs ρ M fun ps M2 => ps.length ≤ 15 ∧ match keysP ps with
  | some kps => wNewD md (mrgD ([], []) kps).1 (mrgD ([], []) kps).2 M2 Q
  | none => False
theorem tr_disp {md : Md} {t : List (TE × TE)} {w : List (DE × DE)} (h : TrPs t w) : Tr (tDisp t) (wDisp md w) := by
  intro ρ M σ H F Q Qv er m q f p hp
  obtain ⟨hf, hm⟩ := m.fresh hp
  have m1 : Mem M (L2.upd H p (.dK [])) F := ⟨same_upd2 m.same hf, fun a q e => by
    obtain ⟨h1, o, h2, h3⟩ := m.mem a q e
    refine ⟨h1, o, ?_, h3⟩
    rw [upd_ne (fun z => by subst z; rw [hm] at e; cases e)]
    exact h2⟩
  have e1 : Ext M H F M (L2.upd H p (.dK [])) F := ⟨fun _ _ z => z, fun a o h1 _ => by
    rw [upd_ne (fun z => by subst z; rw [hp] at h1; cases h1)]
    exact h1, fun a z => .inl z, fun a z => .inl z⟩
  refine h ρ M σ _ F _ _ er m1 q fun ds vs M2 H2 F2 m2 e2 r2 q2 => ?_
  have h1 : L2.upd H p (.dK []) p = some (.dK []) := upd_same
  have hp2 : H2 p = some (.dK []) := e2.keep p _ h1 hm
  have hm2 : M2 p = none := by
    cases z : M2 p with
    | none => rfl
    | some o =>
      rcases e2.new p (by rw [z]; exact nofun) with w | w
      · exact absurd hm w
      · rw [h1] at w; cases w
  have hf2 : F2 p = none := by
    cases z : F2 p with
    | none => rfl
    | some o =>
      rcases e2.fnew p (by rw [z]; exact nofun) with w | w | w | ⟨xs, w⟩
      · exact absurd hf w
      · exact absurd hm w
      · rw [h1] at w; cases w
      · rw [h1] at w; cases w
  refine ⟨hp2, ?_⟩
  obtain ⟨hl, q2⟩ := q2
  split at q2
  · rename_i kps ek
    obtain ⟨kvs, ev, pr, hl2⟩ := keysP_rp r2 ek
    obtain ⟨g1, g2⟩ := mrg_rp (acc := ([], [])) (akv := []) pr rfl rfl
    refine ⟨kvs, ev, by omega, ?_⟩
    have m3 : Mem M2 (L2.upd H2 p (.dK (mergeK [] kvs))) F2 := ⟨same_upd2 m2.same hf2, fun a q e => by
      obtain ⟨h1, o, h2, h3⟩ := m2.mem a q e
      refine ⟨h1, o, ?_, h3⟩
      rw [upd_ne (fun z => by subst z; rw [hm2] at e; cases e)]
      exact h2⟩
    have e3 : Ext M H F M2 (L2.upd H2 p (.dK (mergeK [] kvs))) F2 := by
      have ee := e1.trans e2
      refine ⟨ee.fs, fun a o z1 z2 => ?_, ee.new, ee.fnew⟩
      rw [upd_ne (fun z => by subst z; rw [hp] at z1; cases z1)]
      exact ee.keep a o z1 z2
    exact adoptD m3 e3 hp upd_same hf2 hm2 g1 g2 q2 f
  · exact q2.elim

/-! ### a < b of texts -/
def ltS (a b : Str) : Bool := decide (a.cps.toList < b.cps.toList)
def wLtS : DO := fun x y M Q => match x, y with
  | .int i, .int j => Q (.bl (decide (i < j))) M
  | .str a, .str b => Q (.bl (ltS a b)) M
  | _, _ => False
theorem ot_ltS : OpT (fun x y H Q => (∃ i j, x = V.int i ∧ y = V.int j ∧ Q (.bl (decide (i < j))) H) ∨ ∃ i j, x = V.str i ∧ y = V.str j ∧ Q (.bl (decide (i.cps.toList < j.cps.toList))) H) wLtS := by
  intro M H F d1 d2 v1 v2 Q Qv m r1 r2 q f
  unfold wLtS at q
  split at q
  · cases r1; cases r2
    exact .inl ⟨_, _, rfl, rfl, f.here (d := .bl _) m rfl q⟩
  · cases r1; cases r2
    exact .inr ⟨_, _, rfl, rfl, f.here (d := .bl _) m rfl q⟩
  · exact q.elim
/-! ### min(a, b) of texts -/
theorem min_two_strs {prog : Program} {w : World} {A : Around} {E : Value → Shared → Prop} {s : Shared} {Q : Value → Shared → Prop} {a b : Str} {t u : Tok} (hh : A.handled = none)
    (h : ∀ h' tk, (∀ c o, s.heap.get? c = some o → h'.get? c = some o) → Q (if ltS b a = true then .str b u else .str a t) { s with heap := h', toks := tk }) :
    wpAny (model prog w) A (call (.builtin "min") [.str a t, .str b u]) Q E s := by
  have hT : (s.heap.push { cls := .type "tuple", data := .seq #[.str a t, .str b u] }).IsTuple s.heap.objs.size #[.str a t, .str b u] := ⟨_, Heap.get?_push_size _ rfl, rfl, 0, rfl⟩
  refine call_min_two (wpAny_pyIter_tuple hT ?_)
  have hsz : (s.heap.push { cls := .type "tuple", data := .seq #[.str a t, .str b u] }).objs.size = s.heap.objs.size + 1 := Heap.size_push ..
  have hc : CmpOf prog w A.in1 .Lt (fun i v => (#[Value.str a t, Value.str b u] : Array Value)[i]? = some v) (fun i j => ltS (if i = 0 then a else b) (if j = 0 then a else b)) := by
    intro i j vi vj s' Q' E' hi hj hq
    have key : ∀ (i : Nat) (v : Value), (#[Value.str a t, Value.str b u] : Array Value)[i]? = some v → ∃ z, v = .str (if i = 0 then a else b) z := fun i v hv => by
      match i, hv with
      | 0, hv => cases hv; exact ⟨_, rfl⟩
      | 1, hv => cases hv; exact ⟨_, rfl⟩
      | i + 2, hv => simp at hv
    obtain ⟨z1, rfl⟩ := key i vi hi
    obtain ⟨z2, rfl⟩ := key j vj hj
    exact PyProof.Rows.lt_str hq
  refine ⟨_, [_, s.heap.objs.size], [_], _, _, _, _, rfl, Walks.tuple (A := A.in1) hh _ s.heap.objs.size (by rw [hsz]; exact Nat.ne_of_lt (Nat.lt_succ_self _)) #[.str a t, .str b u],
    ⟨⟨_, Heap.get?_push_size _ rfl, rfl, rfl⟩, hT.push _⟩, fun c hc => ?_, by simp, hc, fun v h' tk hP hk => ?_⟩
  · show c < ((s.heap.push _).push _).objs.size
    rw [Heap.size_push, hsz]
    rcases List.mem_cons.mp hc with rfl | hc
    · rw [hsz]; exact Nat.lt_succ_self _
    · rcases List.mem_cons.mp hc with rfl | hc
      · exact Nat.lt_succ_of_lt (Nat.lt_succ_self _)
      · cases hc
  · have hold : ∀ c o, s.heap.get? c = some o → h'.get? c = some o := fun c o e => by
      refine hk c o (fun hm => ?_) (Heap.get?_push_of_some _ (Heap.get?_push_of_some _ e))
      rcases List.mem_cons.mp hm with e1 | hm
      · have := Heap.lt_size e; rw [e1, hsz] at this; exact Nat.lt_irrefl _ (Nat.lt_of_succ_lt this)
      · cases hm
    have := h h' tk hold
    have hv : v = if ltS b a = true then .str b u else .str a t := by
      cases hc : ltS b a <;> simp [argBest, hc] at hP <;> simp [hP]
    rw [hv]; exact this
def rMinS : List V → Hp → VK → Prop := fun xs H Q => ∃ a b, xs = [.str a, .str b] ∧ Q (.str (if ltS b a = true then b else a)) H
theorem call_minS {X : Cx} (hc : X.calm = true) : CallR X (.builtin "min") rMinS := by
  intro pins s σ H xs us Q I r h
  obtain ⟨a, b, rfl, q⟩ := h
  obtain ⟨u, w', rfl, ⟨t, rfl⟩, ⟨t', rfl⟩⟩ := vals2 r
  refine min_two_strs (I.ok.hd hc) fun h' tk k => ⟨_, H, I.kept k, ?_, q⟩
  cases ltS b a
  · exact ⟨_, rfl⟩
  · exact ⟨_, rfl⟩
def cMinS : DC := fun ds M Q => match ds with
  | [.str a, .str b] => Q (.str (if ltS b a = true then b else a)) M
  | _ => False
theorem ct_minS : CallT rMinS cMinS := by
  intro M H F ds vs Q Qv m r q f
  unfold cMinS at q
  split at q
  · obtain ⟨v, w, rfl, h1, h2⟩ := rp2 r
    cases h1; cases h2
    exact ⟨_, _, rfl, f.here (d := .str _) m rfl q⟩
  · exact q.elim
/-! ### list(d): its keys -/
def dKey : Key → D
  | .inl i => .int i
  | .inr x => .str x
theorem dKey_rp {F : Hp} : ∀ {kvs : List (Key × V)}, RpL F ((kvs.map (·.1)).map dKey) (kvs.map fun kv => kV kv.1)
  | [] => rfl
  | (k, v) :: r => by
    refine ⟨kV k, _, rfl, ?_, dKey_rp⟩
    show Rp F (dKey k) (kV k)
    cases k <;> rfl
def rListD : List V → Hp → VK → Prop := fun xs H Q => ∃ (a : Addr) (kvs : List (Key × V)), xs = [.ref a] ∧ Rd H a (.dK kvs) ∧ ∀ p, H p = none → Q (.ref p) (L2.upd H p (.lst (kvs.map fun kv => kV kv.1)))
theorem call_listDK {X : Cx} (hc : X.calm = true) : CallR X (.type "list") rListD := call_listD hc
def cListD (md : Md) : DC := fun ds M Q => match ds with
  | [x] => match nrm M x with
    | .dct ks _ => wNew md (ks.map dKey) M Q
    | _ => False
  | _ => False
theorem ct_listD {md : Md} : CallT rListD (cListD md) := by
  intro M H F ds vs Q Qv m r q f
  unfold cListD at q
  split at q
  · rename_i x
    obtain ⟨v, rfl, h1⟩ := rp1 r
    split at q
    · rename_i ks xs e
      obtain ⟨a, kvs, rfl, ha, hk, ra⟩ := dget_at m h1 e
      subst hk
      exact ⟨a, kvs, rfl, .inl ha, new_lst m dKey_rp q f⟩
    · exact q.elim
  · exact q.elim

def topS (i : Nat) : Stmt := PySem.Challenge.pw_suretricks_k21_whole_words_of_shuffles.main.body.getD i (.Pass ⟨0, 0, 0, 0⟩)
def R_is_whole : Ct := fun ds M Q => ∃ d, ds = [d] ∧ (tyN d).isSome = true ∧ Q (.bl (wholeD d)) M
theorem len_is_whole : ∀ ds M Q, R_is_whole ds M Q → ds.length = ["value"].length := by
  rintro ds M Q ⟨d, rfl, _⟩; rfl
def R_is_count : Ct := fun ds M Q => ∃ d l, ds = [d, .int l] ∧ (tyN d).isSome = true ∧ Q (.bl (countD l d)) M
theorem len_is_count : ∀ ds M Q, R_is_count ds M Q → ds.length = ["value", "least"].length := by
  rintro ds M Q ⟨d, l, rfl, _⟩; rfl
def R_check_many : Ct := fun ds M Q => ∃ n, ds = [.int n] ∧ 0 ≤ n ∧ Q .non M
theorem len_check_many : ∀ ds M Q, R_check_many ds M Q → ds.length = ["many"].length := by
  rintro ds M Q ⟨d, rfl, _⟩; rfl
def R_check_place : Ct := fun ds M Q => ∃ n p, ds = [.int n, .int p] ∧ 0 ≤ p ∧ p < n ∧ Q .non M
theorem len_check_place : ∀ ds M Q, R_check_place ds M Q → ds.length = ["many", "place"].length := by
  rintro ds M Q ⟨a, b, rfl, _⟩; rfl
/-- one from here, one from there -/
def inL : List Int → List Int → List Int
  | [], _ => []
  | x :: xs, ys => x :: (ys.take 1 ++ inL xs (ys.drop 1))
theorem inL_succ : ∀ (xs ys : List Int) (i : Nat) (x : Int), xs[i]? = some x → inL (xs.take (i + 1)) ys = inL (xs.take i) ys ++ (x :: (ys.drop i).take 1)
  | x :: xs, ys, 0, y, h => by simp at h; subst h; simp [inL]
  | x :: xs, ys, i + 1, y, h => by
    simp only [List.getElem?_cons_succ] at h
    simp only [List.take_succ_cons, inL, inL_succ xs (ys.drop 1) i y h, List.drop_drop]
    rw [Nat.add_comm 1 i]
    simp
theorem inL_len : ∀ (xs ys : List Int), (inL xs ys).length ≤ 2 * xs.length
  | [], _ => by simp [inL]
  | x :: xs, ys => by
    have := inL_len xs (ys.drop 1)
    simp only [inL, List.length_cons, List.length_append, List.length_take]
    omega
def faroCut (n : Nat) (out : Bool) : Nat := if out then (n + 1) / 2 else n / 2
def faroI (n : Nat) (out : Bool) : List Int :=
  if out then inL (rngI 0 1 (faroCut n out)) (rngI (faroCut n out) 1 (n - faroCut n out)) else inL (rngI (faroCut n out) 1 (n - faroCut n out)) (rngI 0 1 (faroCut n out))
theorem faroCut_le (n : Nat) (out : Bool) : faroCut n out ≤ n := by unfold faroCut; split <;> omega
def R_faro_there : Ct := fun ds M Q => ∃ (n : Nat) (out : Bool), ds = [.int n, .str (kindS out)] ∧ n ≤ 1000000 ∧ ∀ p, M p = none → Q (.ref p) (M.set p (.lst ((faroI n out).map .int)))
theorem len_faro_there : ∀ ds M Q, R_faro_there ds M Q → ds.length = ["many", "kind"].length := by
  rintro ds M Q ⟨a, b, rfl, _⟩; rfl
def numI (n : Int) (out : Bool) : Int := if n % 2 = 1 then n else max (if out then n - 1 else n + 1) 1
def R_number_of : Ct := fun ds M Q => ∃ (n : Int) (out : Bool), ds = [.int n, .str (kindS out)] ∧ Q (.int (numI n out)) M
theorem len_number_of : ∀ ds M Q, R_number_of ds M Q → ds.length = ["many", "kind"].length := by
  rintro ds M Q ⟨a, b, rfl, _⟩; rfl
/-- a letter, a word -/
def sgn (b : Bool) : Str := ⟨#[if b then 73 else 79]⟩
def wordS (bs : List Bool) : Str := ⟨(bs.map fun b => if b then 73 else 79).toArray⟩
theorem signs_word {bs : List Bool} : signsD (wordS bs) = bs.map fun b => D.str (sgn b) := by
  simp only [signsD, wordS, sgn, List.map_map, Function.comp_def]
theorem deq_sgn {a b : Str} : deq (.str a) (.str b) = decide (a = b) := by
  simp only [deq, toPD, PyData.eqv]
  first | rfl | (rw [Bool.eq_iff_iff]; simp)
def R_is_word : Ct := fun ds M Q => ∃ (bs : List Bool), ds = [.str (wordS bs)] ∧ bs.length ≤ 10000 ∧ Q (.bl true) M
theorem len_is_word : ∀ ds M Q, R_is_word ds M Q → ds.length = ["value"].length := by
  rintro ds M Q ⟨a, rfl, _⟩; rfl
def R_kind_of : Ct := fun ds M Q => ∃ (b : Bool), ds = [.str (sgn b)] ∧ Q (.str (kindS (!b))) M
theorem len_kind_of : ∀ ds M Q, R_kind_of ds M Q → ds.length = ["sign"].length := by
  rintro ds M Q ⟨a, rfl, _⟩; rfl
theorem inL_perm : ∀ (xs ys : List Int), (inL xs ys).Perm (xs ++ ys.take xs.length)
  | [], ys => by simp [inL]
  | x :: xs, ys => by
    have := inL_perm xs (ys.drop 1)
    rw [inL, List.cons_append]
    refine List.Perm.cons x ?_
    refine (this.append_left (ys.take 1)).trans ?_
    rw [← List.append_assoc]
    refine (List.perm_append_comm.append_right _).trans ?_
    rw [List.append_assoc]
    refine List.Perm.append_left xs ?_
    have e : ys.take 1 ++ (ys.drop 1).take xs.length = ys.take (x :: xs).length := by
      cases ys with
      | nil => simp
      | cons y ys => simp
    rw [e]
theorem faro_perm (n : Nat) (out : Bool) : (faroI n out).Perm (rngI 0 1 n) := by
  have hs : rngI 0 1 n = rngI 0 1 (faroCut n out) ++ rngI (faroCut n out) 1 (n - faroCut n out) := by
    have h := faroCut_le n out
    generalize faroCut n out = c at *
    unfold rngI
    rw [show n = c + (n - c) by omega, List.range_add, List.map_append]
    congr 1
    rw [show c + (n - c) - c = n - c by omega, List.map_map]
    apply List.map_congr_left
    intro i _
    simp only [Function.comp_apply]
    omega
  unfold faroI
  rw [hs]
  split
  · rename_i h
    refine (inL_perm _ _).trans ?_
    rw [List.take_of_length_le]
    simp only [rngI_length]
    unfold faroCut; rw [if_pos h]; omega
  · rename_i h
    refine (inL_perm _ _).trans ?_
    rw [List.take_of_length_le]
    · exact List.perm_append_comm
    · simp only [rngI_length]
      unfold faroCut; rw [if_neg h]; omega
def doneI (n : Nat) (bs : List Bool) : List Int := bs.foldl (fun acc b => movedI acc (faroI n (!b))) (rngI 0 1 n)
theorem movedI_perm {n : Nat} {a b : List Int} (ha : a.Perm (rngI 0 1 n)) (hb : b.Perm (rngI 0 1 n)) : (movedI a b).Perm (rngI 0 1 n) := by
  have hl := ha.length_eq
  rw [rngI_length] at hl
  refine (hb.map _).trans ?_
  have e : (rngI 0 1 n).map (fun m => a.getD m.toNat 0) = a := by
    have := movedI_rng (ns := a) (a := 0) (k := n) (by omega)
    rw [List.drop_zero, List.take_of_length_le (by omega)] at this
    exact this
  rw [e]; exact ha
theorem doneI_perm {n : Nat} : ∀ (bs : List Bool) (acc : List Int), acc.Perm (rngI 0 1 n) → (bs.foldl (fun acc b => movedI acc (faroI n (!b))) acc).Perm (rngI 0 1 n)
  | [], _, h => h
  | b :: bs, _, h => doneI_perm bs _ (movedI_perm h (faro_perm n _))
def R_done_there : Ct := fun ds M Q => ∃ (n : Nat) (bs : List Bool), ds = [.int n, .str (wordS bs)] ∧ n ≤ 10000 ∧ bs.length ≤ 10000 ∧ ∀ a, M a = none → Q (.ref a) (M.set a (.lst ((doneI n bs).map .int)))
theorem len_done_there : ∀ ds M Q, R_done_there ds M Q → ds.length = ["many", "word"].length := by
  rintro ds M Q ⟨a, b, rfl, _⟩; rfl
def R_faros_done : Ct := fun ds M Q => ∃ (n : Nat) (bs : List Bool), ds = [.int n, .str (wordS bs)] ∧ n ≤ 10000 ∧ bs.length ≤ 10000 ∧ ∀ a, M a = none → Q (.ref a) (M.set a (.lst ((doneI n bs).map .int)))
theorem len_faros_done : ∀ ds M Q, R_faros_done ds M Q → ds.length = ["many", "word"].length := by
  rintro ds M Q ⟨a, b, rfl, _⟩; rfl
/-- the signs of a place's figures, from the first on -/
def figGo : Nat → Nat → List Bool → List Bool
  | 0, _, acc => acc
  | t + 1, p, acc => if p = 0 then acc else figGo t (p / 2) (decide (p % 2 = 1) :: acc)
def figs (p : Nat) : List Bool := figGo 64 p []
theorem figGo_len : ∀ (t p : Nat) (acc : List Bool), (figGo t p acc).length ≤ acc.length + t
  | 0, _, _ => Nat.le_refl _
  | t + 1, p, acc => by
    rw [figGo]
    split
    · omega
    · have := figGo_len t (p / 2) (decide (p % 2 = 1) :: acc); rw [List.length_cons] at this; omega
theorem sgn_word {b : Bool} {bs : List Bool} : sgn b ++ wordS bs = wordS (b :: bs) := by
  unfold sgn wordS
  show (⟨_⟩ : Str) = _
  congr 1
  simp
theorem sgnI : Str.ofString "I" = sgn true := by decide
theorem sgnO : Str.ofString "O" = sgn false := by decide
def R_word_to_place : Ct := fun ds M Q => ∃ (n p : Nat), ds = [.int n, .int p] ∧ p < n ∧ n < 2 ^ 40 ∧ Q (.str (wordS (figs p))) M
theorem len_word_to_place : ∀ ds M Q, R_word_to_place ds M Q → ds.length = ["many", "place"].length := by
  rintro ds M Q ⟨a, b, rfl, _⟩; rfl
def numN (n : Nat) (out : Bool) : Nat := if n % 2 = 1 then n else max (if out then n - 1 else n + 1) 1
theorem numI_nat {n : Nat} {out : Bool} (hn : 0 < n) : numI n out = (numN n out : Nat) := by
  unfold numI numN
  by_cases h : n % 2 = 1
  · rw [if_pos h, if_pos (by omega)]
  · rw [if_neg h, if_neg (by omega)]
    cases out
    · simp only [Bool.false_eq_true, if_false]; omega
    · simp only [if_true]; omega
/-- where the card of a place goes: the next place -/
def nxF (n : Nat) (out : Bool) (p : Nat) : Nat := if (out && (n % 2 == 0 && p == n - 1)) = true then p else (2 * p + (if out then 0 else 1)) % numN n out
def R_next_place : Ct := fun ds M Q => ∃ (n : Nat) (out : Bool) (p : Nat), ds = [.int n, .str (kindS out), .int p] ∧ p < n ∧ n < 2 ^ 40 ∧ Q (.int (nxF n out p)) M
theorem len_next_place : ∀ ds M Q, R_next_place ds M Q → ds.length = ["many", "kind", "place"].length := by
  rintro ds M Q ⟨a, b, c, rfl, _⟩; rfl
/-- a word before another, as texts are -/
def ltW : List Bool → List Bool → Bool
  | _, [] => false
  | [], _ :: _ => true
  | a :: x, b :: y => if a = b then ltW x y else a
theorem ltS_word : ∀ (a b : List Bool), ltS (wordS a) (wordS b) = ltW a b := by
  have key : ∀ a b : List Bool, decide ((a.map fun b => if b then 73 else 79) < (b.map fun b => if b then 73 else 79)) = ltW a b := by
    intro a
    induction a with
    | nil => intro b; cases b <;> simp [ltW]
    | cons x a ih =>
      intro b
      cases b with
      | nil => simp [ltW]
      | cons y b =>
        rw [List.map_cons, List.map_cons, ltW, ← ih b]
        simp only [List.cons_lt_cons_iff]
        cases x <;> cases y <;> simp
  intro a b
  rw [← key a b]
  unfold ltS wordS
  simp
theorem ltW_irr : ∀ a : List Bool, ltW a a = false
  | [] => rfl
  | a :: x => by rw [ltW, if_pos rfl]; exact ltW_irr x
theorem ltW_asym : ∀ a b : List Bool, ltW a b = true → ltW b a = false
  | _, [], h => by simp [ltW] at h
  | [], _ :: _, _ => rfl
  | a :: x, b :: y, h => by
    rw [ltW] at h ⊢
    by_cases e : a = b
    · subst e; rw [if_pos rfl] at h ⊢; exact ltW_asym x y h
    · rw [if_neg e] at h; rw [if_neg (fun z => e z.symm)]
      cases a <;> cases b <;> simp_all
theorem ltW_anti : ∀ a b : List Bool, ltW a b = false → ltW b a = false → a = b
  | [], [], _, _ => rfl
  | a :: x, [], _, h => by simp [ltW] at h
  | [], _ :: _, h, _ => by simp [ltW] at h
  | a :: x, b :: y, h, h2 => by
    rw [ltW] at h h2
    by_cases e : a = b
    · subst e; rw [if_pos rfl] at h h2; rw [ltW_anti x y h h2]
    · rw [if_neg e] at h; rw [if_neg (fun z => e z.symm)] at h2
      cases a <;> cases b <;> simp_all
theorem ltW_trans : ∀ a b c : List Bool, ltW a b = true → ltW b c = true → ltW a c = true
  | _, [], _, h, _ => by simp [ltW] at h
  | _, _ :: _, [], _, h => by simp [ltW] at h
  | [], _ :: _, _ :: _, _, _ => rfl
  | a :: x, b :: y, c :: z, h, h2 => by
    rw [ltW] at h h2 ⊢
    by_cases e : a = b
    · subst e; rw [if_pos rfl] at h
      by_cases e2 : a = c
      · subst e2; rw [if_pos rfl] at h2 ⊢; exact ltW_trans x y z h h2
      · rw [if_neg e2] at h2 ⊢; exact h2
    · rw [if_neg e] at h
      by_cases e2 : b = c
      · subst e2; rw [if_neg e]; exact h
      · rw [if_neg e2] at h2
        cases a <;> cases b <;> cases c <;> simp_all
def bminW (a b : List Bool) : List Bool := if ltW b a = true then b else a
theorem bminW_comm (c a b : List Bool) : bminW (bminW c a) b = bminW (bminW c b) a := by
  unfold bminW
  by_cases h1 : ltW a c = true
  · rw [if_pos h1]
    by_cases h2 : ltW b c = true
    · rw [if_pos h2]
      by_cases h3 : ltW b a = true
      · rw [if_pos h3, if_neg (by rw [ltW_asym b a h3]; simp)]
      · rw [if_neg h3]
        by_cases h4 : ltW a b = true
        · rw [if_pos h4]
        · rw [if_neg h4]
          exact ltW_anti a b (by simpa using h4) (by simpa using h3)
    · rw [if_neg h2, if_pos h1]
      rw [if_neg]
      intro h3
      exact h2 (ltW_trans b a c h3 h1)
  · rw [if_neg h1]
    by_cases h2 : ltW b c = true
    · rw [if_pos h2]
      rw [if_neg]
      intro h3
      exact h1 (ltW_trans a b c h3 h2)
    · rw [if_neg h2, if_neg h1]
theorem bminW_self_comm (a b : List Bool) : bminW a b = bminW b a := by
  unfold bminW
  by_cases h3 : ltW b a = true
  · rw [if_pos h3, if_neg (by rw [ltW_asym b a h3]; simp)]
  · rw [if_neg h3]
    by_cases h4 : ltW a b = true
    · rw [if_pos h4]
    · rw [if_neg h4]
      exact ltW_anti a b (by simpa using h4) (by simpa using h3)
abbrev WMap := Nat → Option (List Bool)
/-- a place is met by a word -/
def updW (f g : WMap) (q : Nat) (w : List Bool) : WMap := if (f q).isSome = true then g else fun r => if r = q then some (match g q with | none => w | some c => bminW c w) else g r
theorem updW_comm (f g : WMap) (q1 q2 : Nat) (w1 w2 : List Bool) : updW f (updW f g q1 w1) q2 w2 = updW f (updW f g q2 w2) q1 w1 := by
  unfold updW
  by_cases h1 : (f q1).isSome = true
  · simp only [if_pos h1]
  · simp only [if_neg h1]
    by_cases h2 : (f q2).isSome = true
    · simp only [if_pos h2]
    · simp only [if_neg h2]
      funext r
      by_cases e : q1 = q2
      · subst e
        by_cases hr : r = q1
        · simp only [if_pos hr, if_true]
          cases g q1 with
          | none => simp only [bminW_self_comm w1 w2]
          | some c => simp only [bminW_comm c w1 w2]
        · simp only [if_neg hr]
      · by_cases hr : r = q2
        · subst hr
          rw [if_pos rfl, if_neg (fun z => e z.symm), if_neg (fun z => e z.symm), if_pos rfl]
        · rw [if_neg hr]
          by_cases hr1 : r = q1
          · subst hr1; rw [if_pos rfl, if_pos rfl, if_neg e]
          · rw [if_neg hr1, if_neg hr1, if_neg hr]
def stepW (n : Nat) (f g : WMap) (p : Nat) : WMap := updW f (updW f g (nxF n false p) ((f p).getD [] ++ [true])) (nxF n true p) ((f p).getD [] ++ [false])
theorem stepW_comm (n : Nat) (f g : WMap) (p q : Nat) : stepW n f (stepW n f g p) q = stepW n f (stepW n f g q) p := by
  unfold stepW
  rw [updW_comm f (updW f g (nxF n false p) _) (nxF n true p) (nxF n false q), updW_comm f g (nxF n false p) (nxF n false q)]
  rw [updW_comm f (updW f (updW f g (nxF n false q) _) (nxF n false p) _) (nxF n true p) (nxF n true q), updW_comm f (updW f g (nxF n false q) _) (nxF n false p) (nxF n true q)]
def layW (n : Nat) (f : WMap) (L : List Nat) : WMap := L.foldl (stepW n f) fun _ => none
theorem layW_perm {n : Nat} {f : WMap} {L L' : List Nat} (h : L.Perm L') : layW n f L = layW n f L' := h.foldl_eq' (fun x _ y _ z => stepW_comm n f z x y) _
/-- where the words lead, layer by layer -/
def bfsW (n : Nat) : Nat → WMap → List Nat → WMap
  | 0, f, _ => f
  | t + 1, f, L => if L = [] then f else bfsW n t (fun q => (f q).or (layW n f L q)) ((List.range n).filter fun q => (layW n f L q).isSome)
def wordsW (n one : Nat) : WMap := bfsW n (n + 1) (fun q => if q = one then some [] else none) [one]
/-- a dict as a map of words -/
def MapOf (n : Nat) (f : WMap) (ks : List Int) (xs : List D) : Prop := xs.length = ks.length ∧ ks.Nodup ∧ (∀ k ∈ ks, 0 ≤ k ∧ k < n) ∧ ∀ q : Nat, look (ks.map .inl) xs (.inl (q : Int)) = (f q).map fun w => D.str (wordS w)
theorem look_zipNe {k j : Key} {d : D} (hj : j ≠ k) : ∀ {ks : List Key} {xs : List D}, xs.length = ks.length → look ks (List.zipWith (fun i x => if i = k then d else x) ks xs) j = look ks xs j
  | [], [], _ => by simp [look]
  | [], _ :: _, h => by simp at h
  | _ :: _, [], h => by simp at h
  | i :: ks, x :: xs, h => by
    have ih := look_zipNe (d := d) hj (ks := ks) (xs := xs) (by simpa using h)
    simp only [List.zipWith_cons_cons, look]
    rw [ih]
    by_cases e : i = j
    · subst e; rw [if_pos rfl, if_pos rfl, if_neg hj]
    · rw [if_neg e, if_neg e]
theorem look_zipEq {k : Key} {d : D} : ∀ {ks : List Key} {xs : List D}, xs.length = ks.length → k ∈ ks → look ks (List.zipWith (fun i x => if i = k then d else x) ks xs) k = some d
  | [], _, _, h => by simp at h
  | _ :: _, [], h, _ => by simp at h
  | i :: ks, x :: xs, h, hk => by
    simp only [List.zipWith_cons_cons, look]
    by_cases e : i = k
    · rw [if_pos e, if_pos e]
    · rw [if_neg e]
      refine look_zipEq (by simpa using h) ?_
      rcases List.mem_cons.mp hk with z | z
      · exact absurd z.symm e
      · exact z
theorem look_none {j : Key} : ∀ {ks : List Key} {xs : List D}, j ∉ ks → look ks xs j = none
  | [], _, _ => by simp [look]
  | _ :: _, [], _ => by simp [look]
  | i :: ks, x :: xs, h => by
    simp only [look]
    rw [if_neg (fun e => h (by rw [e]; exact List.mem_cons_self)), look_none fun z => h (List.mem_cons_of_mem _ z)]
theorem look_snocW {k j : Key} {d : D} : ∀ {ks : List Key} {xs : List D}, xs.length = ks.length → k ∉ ks → look (ks ++ [k]) (xs ++ [d]) j = if j = k then some d else look ks xs j
  | [], [], _, _ => by
    simp only [List.nil_append, look]
    by_cases e : k = j
    · rw [if_pos e, if_pos e.symm]
    · rw [if_neg e, if_neg fun z => e z.symm]
  | [], _ :: _, h, _ => by simp at h
  | _ :: _, [], h, _ => by simp at h
  | i :: ks, x :: xs, h, hk => by
    have ih := look_snocW (k := k) (j := j) (d := d) (ks := ks) (xs := xs) (by simpa using h) (fun z => hk (List.mem_cons_of_mem _ z))
    simp only [List.cons_append, look]
    rw [ih]
    by_cases e : i = j
    · subst e
      rw [if_pos rfl, if_pos rfl, if_neg]
      intro z; subst z; exact hk List.mem_cons_self
    · rw [if_neg e, if_neg e]
theorem look_put {k j : Key} {d : D} {ks : List Key} {xs : List D} (h : xs.length = ks.length) : look (putKs ks k) (putXs ks xs k d) j = if j = k then some d else look ks xs j := by
  unfold putKs putXs
  by_cases hk : k ∈ ks
  · have e : (ks.any fun i => decide (i = k)) = true := List.any_eq_true.mpr ⟨k, hk, decide_eq_true rfl⟩
    rw [if_pos e, if_pos e]
    by_cases hj : j = k
    · subst hj; rw [if_pos rfl, look_zipEq h hk]
    · rw [if_neg hj, look_zipNe hj h]
  · have e : ¬ (ks.any fun i => decide (i = k)) = true := fun z => by
      obtain ⟨i, hi, he⟩ := List.any_eq_true.mp z
      exact hk (of_decide_eq_true he ▸ hi)
    rw [if_neg e, if_neg e, look_snocW h hk]
theorem putLen {k : Key} {d : D} {ks : List Key} {xs : List D} (h : xs.length = ks.length) : (putXs ks xs k d).length = (putKs ks k).length := by
  unfold putXs putKs
  split
  · rw [List.length_zipWith]; omega
  · simp [h]
theorem look_mrg {j : Key} : ∀ {ls : List Key} {ys : List D} {ks : List Key} {xs : List D}, ys.length = ls.length → xs.length = ks.length → ls.Nodup →
    look (mrgD (ks, xs) (ls.zip ys)).1 (mrgD (ks, xs) (ls.zip ys)).2 j = (look ls ys j).or (look ks xs j)
  | [], _, ks, xs, _, _, _ => by simp [mrgD, look]
  | _ :: _, [], _, _, h, _, _ => by simp at h
  | l :: ls, y :: ys, ks, xs, h1, h2, hn => by
    show look (mrgD (putKs ks l, putXs ks xs l y) (ls.zip ys)).1 (mrgD (putKs ks l, putXs ks xs l y) (ls.zip ys)).2 j = _
    rw [look_mrg (by simpa using h1) (putLen h2) (List.nodup_cons.mp hn).2, look_put h2]
    simp only [look]
    by_cases e : l = j
    · subst e
      rw [if_pos rfl, if_pos rfl, look_none (List.nodup_cons.mp hn).1]
      rfl
    · rw [if_neg e, if_neg fun z => e z.symm]
theorem MapOf.put {n : Nat} {f : WMap} {ks : List Int} {xs : List D} (m : MapOf n f ks xs) {q : Nat} (hq : q < n) (w : List Bool) :
    ∃ ks2 : List Int, putKs (ks.map Sum.inl) (.inl (q : Int)) = ks2.map .inl ∧ MapOf n (fun r => if r = q then some w else f r) ks2 (putXs (ks.map Sum.inl) xs (.inl (q : Int)) (.str (wordS w))) := by
  obtain ⟨m1, m2, m3, m4⟩ := m
  have hl : xs.length = (ks.map (Sum.inl : Int → Key)).length := by rw [List.length_map]; exact m1
  have hlook : ∀ r : Nat, look (putKs (ks.map Sum.inl) (.inl (q : Int))) (putXs (ks.map Sum.inl) xs (.inl (q : Int)) (.str (wordS w))) (.inl (r : Int)) = ((if r = q then some w else f r : Option (List Bool))).map fun w => D.str (wordS w) := fun r => by
    rw [look_put hl]
    by_cases e : r = q
    · subst e; rw [if_pos rfl, if_pos rfl]; rfl
    · rw [if_neg e, if_neg]
      · exact m4 r
      · intro z
        have : (r : Int) = q := Sum.inl.inj z
        omega
  by_cases hm : (q : Int) ∈ ks
  · refine ⟨ks, ?_, ?_, m2, m3, fun r => ?_⟩
    · unfold putKs
      rw [if_pos]
      rw [List.any_eq_true]
      exact ⟨.inl (q : Int), List.mem_map_of_mem hm, decide_eq_true rfl⟩
    · have := putLen (k := .inl (q : Int)) (d := .str (wordS w)) hl
      rw [this]
      unfold putKs
      rw [if_pos, List.length_map]
      rw [List.any_eq_true]
      exact ⟨.inl (q : Int), List.mem_map_of_mem hm, decide_eq_true rfl⟩
    · have := hlook r
      rw [← this]
      congr 1
      unfold putKs
      rw [if_pos]
      rw [List.any_eq_true]
      exact ⟨.inl (q : Int), List.mem_map_of_mem hm, decide_eq_true rfl⟩
  · have e := putKs_new hm
    refine ⟨ks ++ [(q : Int)], e, ?_, ?_, ?_, fun r => ?_⟩
    · rw [putLen hl, e, List.length_map]
    · rw [List.nodup_append]
      refine ⟨m2, by simp, ?_⟩
      rintro x hx y hy rfl
      simp at hy; subst hy; exact hm hx
    · intro k hk
      rcases List.mem_append.mp hk with h | h
      · exact m3 k h
      · simp at h; subst h; omega
    · rw [← e]; exact hlook r
theorem MapOf.mem {n : Nat} {f : WMap} {ks : List Int} {xs : List D} (m : MapOf n f ks xs) (q : Nat) : (q : Int) ∈ ks ↔ (f q).isSome = true := by
  have h := look_isSome (k := (q : Int)) m.1
  rw [m.2.2.2 q] at h
  rw [Option.isSome_map] at h
  rw [h, decide_eq_true_eq]
theorem MapOf.le {n : Nat} {f : WMap} {ks : List Int} {xs : List D} (m : MapOf n f ks xs) : ks.length ≤ n := nodup_below m.2.1 m.2.2.1
theorem MapOf.nil {n : Nat} : MapOf n (fun _ => none) [] [] := ⟨rfl, List.nodup_nil, by simp, fun q => rfl⟩
theorem MapOf.join {n : Nat} {f g : WMap} {ks ls : List Int} {xs ys : List D} (m : MapOf n f ks xs) (m' : MapOf n g ls ys) (hd : ∀ q, (g q).isSome = true → f q = none) :
    ∃ ks2 : List Int, (mrgD (ks.map Sum.inl, xs) ((ls.map Sum.inl).zip ys)).1 = ks2.map .inl ∧ ks2.length = ks.length + ls.length ∧ MapOf n (fun q => (f q).or (g q)) ks2 (mrgD (ks.map Sum.inl, xs) ((ls.map Sum.inl).zip ys)).2 := by
  obtain ⟨m1, m2, m3, m4⟩ := id m
  obtain ⟨l1, l2, l3, l4⟩ := id m'
  have e3 : (ls.map Sum.inl).zip ys = (ls.zip ys).map fun a : Int × D => ((Sum.inl a.1 : Key), a.2) := by
    rw [List.zip_map_left]; rfl
  obtain ⟨ms, g1, g2, g3, g4⟩ := mrg_keys (fun a : Int × D => a.1) (fun a => a.2) (ls.zip ys) ks xs m2
  rw [← e3] at g1
  have hls : ∀ k, (∃ a ∈ ls.zip ys, a.1 = k) ↔ k ∈ ls := fun k => by
    constructor
    · rintro ⟨a, ha, rfl⟩
      exact (List.of_mem_zip (show (a.1, a.2) ∈ ls.zip ys from ha)).1
    · intro h
      obtain ⟨j, hj⟩ := List.getElem?_of_mem h
      have hjl := (List.getElem?_eq_some_iff.mp hj).1
      refine ⟨(k, ys[j]'(by omega)), ?_, rfl⟩
      rw [List.mem_iff_getElem?]
      exact ⟨j, List.getElem?_zip_eq_some.mpr ⟨hj, List.getElem?_eq_getElem _⟩⟩
  have hb : ∀ k ∈ ms, 0 ≤ k ∧ k < n := fun k hk => by
    rcases (g3 k).mp hk with h | h
    · exact m3 k h
    · exact l3 k ((hls k).mp h)
  have hl1 : xs.length = (ks.map (Sum.inl : Int → Key)).length := by rw [List.length_map]; exact m1
  have hl2 : ys.length = (ls.map (Sum.inl : Int → Key)).length := by rw [List.length_map]; exact l1
  have hnd : (ls.map (Sum.inl : Int → Key)).Nodup := by
    unfold List.Nodup at *
    rw [List.pairwise_map]
    exact l2.imp fun h e => h (Sum.inl.inj e)
  have hlook : ∀ q : Nat, look (mrgD (ks.map Sum.inl, xs) ((ls.map Sum.inl).zip ys)).1 (mrgD (ks.map Sum.inl, xs) ((ls.map Sum.inl).zip ys)).2 (.inl (q : Int)) = ((f q).or (g q)).map fun w => D.str (wordS w) := fun q => by
    rw [look_mrg hl2 hl1 hnd, m4 q, l4 q]
    cases hg : g q with
    | none => simp
    | some w => rw [hd q (by rw [hg]; rfl)]; simp
  have hlen : ∀ (ps : List (Key × D)) (acc : List Key × List D), acc.2.length = acc.1.length → (mrgD acc ps).2.length = (mrgD acc ps).1.length := by
    intro ps
    induction ps with
    | nil => intro acc h; exact h
    | cons p ps ih => intro acc h; exact ih (putKs acc.1 p.1, putXs acc.1 acc.2 p.1 p.2) (putLen h)
  refine ⟨ms, g1, ?_, ?_, g2, hb, fun q => ?_⟩
  · have hp : ms.Perm (ks ++ ls) := by
      refine (List.perm_ext_iff_of_nodup g2 ?_).mpr fun k => ?_
      · rw [List.nodup_append]
        refine ⟨m2, l2, ?_⟩
        rintro x hx y hy rfl
        obtain ⟨h0, h1⟩ := m3 x hx
        obtain ⟨q, rfl⟩ := Int.eq_ofNat_of_zero_le h0
        have h2 := (m'.mem q).mp hy
        have h3 := (m.mem q).mp hx
        rw [hd q h2] at h3; cases h3
      · rw [g3, hls, List.mem_append]
    rw [hp.length_eq, List.length_append]
  · rw [hlen _ _ hl1, g1, List.length_map]
  · rw [← g1]; exact hlook q
theorem layW_disj {n : Nat} {f : WMap} : ∀ (L : List Nat) (g : WMap), (∀ q, (g q).isSome = true → f q = none) → ∀ q, (L.foldl (stepW n f) g q).isSome = true → f q = none
  | [], _, h, q, hq => h q hq
  | p :: L, g, h, q, hq => by
    have key : ∀ (g : WMap) (r : Nat) (w : List Bool), (∀ q, (g q).isSome = true → f q = none) → ∀ q, (updW f g r w q).isSome = true → f q = none := by
      intro g r w hg q hq
      unfold updW at hq
      split at hq
      · exact hg q hq
      · rename_i hn
        dsimp only at hq
        split at hq
        · rename_i e
          subst e
          simpa using hn
        · exact hg q hq
    exact layW_disj L _ (key _ _ _ (key _ _ _ h)) q hq
theorem layW_lt {n : Nat} {f : WMap} (h0 : ∀ o p, p < n → nxF n o p < n) : ∀ (L : List Nat) (g : WMap), (∀ p ∈ L, p < n) → (∀ q, (g q).isSome = true → q < n) → ∀ q, (L.foldl (stepW n f) g q).isSome = true → q < n
  | [], _, _, h, q, hq => h q hq
  | p :: L, g, hL, h, q, hq => by
    have key : ∀ (g : WMap) (r : Nat) (w : List Bool), r < n → (∀ q, (g q).isSome = true → q < n) → ∀ q, (updW f g r w q).isSome = true → q < n := by
      intro g r w hr hg q hq
      unfold updW at hq
      split at hq
      · exact hg q hq
      · dsimp only at hq
        split at hq
        · rename_i e; subst e; exact hr
        · exact hg q hq
    have hp := hL p List.mem_cons_self
    exact layW_lt h0 L _ (fun x hx => hL x (List.mem_cons_of_mem _ hx)) (key _ _ _ (h0 _ _ hp) (key _ _ _ (h0 _ _ hp) h)) q hq
theorem nxF_lt {n p : Nat} {out : Bool} (h : p < n) : nxF n out p < n := by
  unfold nxF
  split
  · exact h
  · unfold numN
    by_cases h2 : n % 2 = 1
    · rw [if_pos h2]; exact Nat.mod_lt _ (by omega)
    · rw [if_neg h2]
      cases out
      · simp only [Bool.false_eq_true, if_false]
        by_cases h3 : p < n / 2
        · rw [Nat.mod_eq_of_lt (by omega)]; omega
        · rw [Nat.mod_eq_sub_mod (by omega), Nat.mod_eq_of_lt (by omega)]; omega
      · simp only [if_true]
        have := Nat.mod_lt (2 * p + 0) (show max (n - 1) 1 > 0 by omega)
        omega
theorem layW_len {n K : Nat} {f : WMap} : ∀ (L : List Nat) (g : WMap), (∀ p ∈ L, ((f p).getD []).length + 1 ≤ K) → (∀ q w, g q = some w → w.length ≤ K) → ∀ q w, L.foldl (stepW n f) g q = some w → w.length ≤ K
  | [], _, _, h, q, w, hq => h q w hq
  | p :: L, g, hL, h, q, w, hq => by
    have key : ∀ (g : WMap) (r : Nat) (u : List Bool), u.length ≤ K → (∀ q w, g q = some w → w.length ≤ K) → ∀ q w, updW f g r u q = some w → w.length ≤ K := by
      intro g r u hu hg q w hq
      unfold updW at hq
      split at hq
      · exact hg q w hq
      · dsimp only at hq
        split at hq
        · cases hgr : g r with
          | none => rw [hgr] at hq; cases hq; exact hu
          | some c =>
            rw [hgr] at hq
            simp only [Option.some.injEq] at hq
            subst hq
            unfold bminW
            split
            · exact hu
            · exact hg r c hgr
        · exact hg q w hq
    have hp := hL p List.mem_cons_self
    have hl : ∀ b : Bool, ((f p).getD [] ++ [b]).length ≤ K := fun b => by rw [List.length_append]; exact hp
    exact layW_len L _ (fun x hx => hL x (List.mem_cons_of_mem _ hx)) (key _ _ _ (hl _) (key _ _ _ (hl _) h)) q w hq
theorem bfsW_len {n K : Nat} : ∀ (t : Nat) (f : WMap) (L : List Nat), t ≤ K → (∀ q w, f q = some w → w.length + t ≤ K) → ∀ q w, bfsW n t f L q = some w → w.length ≤ K
  | 0, f, L, _, h, q, w, hq => by have := h q w hq; omega
  | t + 1, f, L, ht, h, q, w, hq => by
    rw [bfsW] at hq
    split at hq
    · have := h q w hq; omega
    · refine bfsW_len t _ _ (by omega) (fun q w hw => ?_) q w hq
      cases hf : f q with
      | some u =>
        rw [hf] at hw
        cases hw
        have := h q w hf
        omega
      | none =>
        rw [hf] at hw
        have := layW_len (f := f) (n := n) (K := K - t) L (fun _ => none) (fun p _ => by
          cases hp : f p with
          | none => show 0 + 1 ≤ _; omega
          | some u => have := h p u hp; show u.length + 1 ≤ _; omega) (fun q w h => by cases h) q w hw
        omega
theorem wordsW_len {n one q : Nat} {w : List Bool} (h : wordsW n one q = some w) : w.length ≤ n + 1 := by
  refine bfsW_len (n + 1) _ _ (Nat.le_refl _) (fun q w hw => ?_) q w h
  split at hw
  · cases hw; simp
  · cases hw
theorem nodupW_below {n : Nat} {l : List Nat} (h : l.Nodup) (b : ∀ x ∈ l, x < n) : l.length ≤ n := by
  have := nodup_below (n := n) (l := l.map fun (k : Nat) => (k : Int)) (by
    unfold List.Nodup at *
    rw [List.pairwise_map]
    exact h.imp fun h e => h (Int.ofNat.inj e)) (by
    intro x hx
    obtain ⟨k, hk, rfl⟩ := List.mem_map.mp hx
    have := b k hk
    omega)
  rwa [List.length_map] at this
theorem word_snoc {w : List Bool} {b : Bool} : wordS w ++ sgn b = wordS (w ++ [b]) := by
  unfold sgn wordS
  show (⟨_⟩ : Str) = _
  congr 1
  simp
theorem word_len {w : List Bool} : (wordS w).length = w.length := by unfold wordS; show Array.size _ = _; simp
def R_words_there : Ct := fun ds M Q => ∃ (n one : Nat), ds = [.int n, .int one] ∧ one < n ∧ n < 100000 ∧ ∀ (p : Addr) (ks : List Int) (xs : List D) (M2 : Mp), MLe M M2 → M p = none → M2 p = some (.dK (ks.map .inl) xs) → MapOf n (wordsW n one) ks xs → Q (.ref p) M2
theorem len_words_there : ∀ ds M Q, R_words_there ds M Q → ds.length = ["many", "one"].length := by
  rintro ds M Q ⟨a, b, rfl, _⟩; rfl
def R_shortest_word : Ct := fun ds M Q => ∃ (n one other : Nat) (w : List Bool), ds = [.int n, .int one, .int other] ∧ one < n ∧ other < n ∧ n < 100000 ∧ wordsW n one other = some w ∧ Q (.str (wordS w)) M
theorem len_shortest_word : ∀ ds M Q, R_shortest_word ds M Q → ds.length = ["many", "one", "other"].length := by
  rintro ds M Q ⟨a, b, c, d, rfl, _⟩; rfl
def lensW (n one : Nat) : List Int := (rngI 0 1 n).map fun q => (((wordsW n one q.toNat).getD []).length : Int)
def R_word_lengths : Ct := fun ds M Q => ∃ (n one : Nat), ds = [.int n, .int one] ∧ one < n ∧ n < 100000 ∧ (∀ q, q < n → (wordsW n one q).isSome = true) ∧ ∀ a, M a = none → Q (.ref a) (M.set a (.lst ((lensW n one).map .int)))
theorem len_word_lengths : ∀ ds M Q, R_word_lengths ds M Q → ds.length = ["many", "one"].length := by
  rintro ds M Q ⟨a, b, rfl, _⟩; rfl
def R_law_purse (K : PySem.W.Frag) : Ct := fun ds M Q => ∃ (ns : List Int) (e : Int), ds = [.scr K (ns.map .int), .int e] ∧ (0 ≤ e ∧ e < 100) ∧ ∀ p xs, M p = none → PurseOk 0 xs → Q (.ref p) (M.set p (.lst xs))
theorem len_law_purse (K : PySem.W.Frag) : ∀ ds M Q, R_law_purse K ds M Q → ds.length = ["script", "at"].length := by
  rintro ds M Q ⟨ns, e, rfl, _⟩; rfl
def R_law_mixed : Ct := fun ds M Q => ∃ a b c : Int, ds = [.int a, .int b, .int c] ∧ (0 ≤ a ∧ a < 2147483629) ∧ (0 ≤ b ∧ b < 2 ^ 62) ∧ ∀ r : Int, 0 ≤ r → r < 2147483587 → Q (.int r) M
theorem len_law_mixed : ∀ ds M Q, R_law_mixed ds M Q → ds.length = ["seed", "spin", "at"].length := by
  rintro ds M Q ⟨a, b, c, rfl, _⟩; rfl
def R_law_draw : Ct := fun ds M Q => ∃ (p : Addr) (xs : List D) (m B : Int), ds = [.ref p, .int m] ∧ M p = some (.lst xs) ∧ PurseOk B xs ∧ B ≤ 2 ^ 60 ∧ 0 < m ∧ m < 2 ^ 83 ∧ ∀ (k : Int) (ys : List D), 0 ≤ k → k < m → PurseOk (B + 3) ys → Q (.int k) (M.set p (.lst ys))
theorem len_law_draw : ∀ ds M Q, R_law_draw ds M Q → ds.length = ["purse", "many"].length := by
  rintro ds M Q ⟨a, b, c, d, rfl, _⟩; rfl
def R_law_one_of : Ct := fun ds M Q => ∃ (p : Addr) (xs : List D) (B : Int) (ss : List D), ds = [.ref p, .lst ss] ∧ M p = some (.lst xs) ∧ PurseOk B xs ∧ B ≤ 2 ^ 60 ∧ 0 < ss.length ∧ ss.length < 2 ^ 60 ∧ ∀ (x : D) (ys : List D), x ∈ ss → PurseOk (B + 3) ys → Q x (M.set p (.lst ys))
theorem len_law_one_of : ∀ ds M Q, R_law_one_of ds M Q → ds.length = ["purse", "some"].length := by
  rintro ds M Q ⟨a, b, c, d, rfl, _⟩; rfl
def Rn_law_exact : Nat → Ct
  | 0 => fun _ _ _ => False
  | n + 1 => fun ds M Q => ∃ d, ds = [d, d] ∧ okD (n + 1) d = true ∧ Q (.bl true) M
abbrev R_law_exact := Rn_law_exact 8
theorem never_law_exact : ∀ ds M Q, ¬ Rn_law_exact 0 ds M Q := fun _ _ _ h => h
theorem len_law_exact : ∀ n ds M Q, Rn_law_exact n ds M Q → ds.length = ["mine", "theirs"].length
  | 0 => fun _ _ _ h => h.elim
  | _ + 1 => by rintro ds M Q ⟨d, rfl, _⟩; rfl
def lawFaro (n : Nat) (out : Bool) : List Int :=
  let cut := if out then (n + 1) / 2 else n / 2
  let fs := if out then (rngI 0 1 n).take cut else (rngI 0 1 n).drop cut
  let ss := if out then (rngI 0 1 n).drop cut else (rngI 0 1 n).take cut
  (List.range n).map fun a => if a % 2 = 0 then fs.getD (a / 2) 0 else ss.getD (a / 2) 0
def R_law_faro : Ct := fun ds M Q => ∃ (n : Nat) (out : Bool), ds = [.int n, .str (kindS out)] ∧ n ≤ 1000000 ∧ Q (.lst ((lawFaro n out).map .int)) M
theorem len_law_faro : ∀ ds M Q, R_law_faro ds M Q → ds.length = ["many", "kind"].length := by
  rintro ds M Q ⟨a, b, rfl, _⟩; rfl
def R_law_then : Ct := fun ds M Q => ∃ (ns ms : List Int), ds = [.lst (ns.map .int), .lst (ms.map .int)] ∧ ms.length ≤ 1000000 ∧ (∀ m ∈ ms, 0 ≤ m ∧ m < ns.length) ∧ Q (.lst ((movedI ns ms).map .int)) M
theorem len_law_then : ∀ ds M Q, R_law_then ds M Q → ds.length = ["one", "other"].length := by
  rintro ds M Q ⟨a, b, rfl, _⟩; rfl
/-- places put one after another -/
def backGo (acc : List Int) : Nat → List Int → List Int
  | _, [] => acc
  | i, p :: ps => backGo (acc.set p.toNat i) (i + 1) ps
def backI (ns : List Int) : List Int := backGo (List.replicate ns.length 0) 0 ns
theorem backGo_length : ∀ (ps acc : List Int) (i : Nat), (backGo acc i ps).length = acc.length
  | [], _, _ => rfl
  | p :: ps, acc, i => by rw [backGo, backGo_length ps, List.length_set]
theorem backI_length (ns : List Int) : (backI ns).length = ns.length := by rw [backI, backGo_length, List.length_replicate]
theorem backGo_mem {n : Nat} : ∀ (ps acc : List Int) (i : Nat), (∀ x ∈ acc, 0 ≤ x ∧ x < n) → i + ps.length ≤ n → ∀ x ∈ backGo acc i ps, 0 ≤ x ∧ x < n
  | [], _, _, h, _ => h
  | p :: ps, acc, i, h, hl => by
    simp only [List.length_cons] at hl
    refine backGo_mem ps _ (i + 1) (fun x hx => ?_) (by omega)
    rcases List.mem_or_eq_of_mem_set hx with hx | rfl
    · exact h x hx
    · omega
theorem backI_mem {ns : List Int} : ∀ x ∈ backI ns, 0 ≤ x ∧ x < ns.length := by
  unfold backI
  refine backGo_mem ns _ 0 (fun x hx => ?_) (by omega)
  obtain ⟨h1, rfl⟩ := List.mem_replicate.mp hx
  have : 0 < ns.length := Nat.pos_of_ne_zero h1
  omega
def R_law_back : Ct := fun ds M Q => ∃ (x : D) (ns : List Int), ds = [x] ∧ nrm M x = .lst (ns.map .int) ∧ Sz ns.length ∧ (∀ x ∈ ns, 0 ≤ x ∧ x < ns.length) ∧ Q (.lst ((backI ns).map .int)) M
theorem len_law_back : ∀ ds M Q, R_law_back ds M Q → ds.length = ["move"].length := by
  rintro ds M Q ⟨d, d', rfl, _⟩; rfl
def lawDone (n : Nat) (bs : List Bool) : List Int := bs.foldl (fun acc b => movedI acc (lawFaro n (!b))) (rngI 0 1 n)
theorem lawFaro_len2 {n : Nat} {out : Bool} : (lawFaro n out).length = n := by unfold lawFaro; simp
theorem lawFaro_bd {n : Nat} {out : Bool} : ∀ x ∈ lawFaro n out, 0 ≤ x ∧ x < n := by
  intro x hx
  unfold lawFaro at hx
  obtain ⟨a, ha, rfl⟩ := List.mem_map.mp hx
  rw [List.mem_range] at ha
  have ht : ∀ c i : Nat, 0 ≤ ((rngI 0 1 n).take c).getD i 0 ∧ ((rngI 0 1 n).take c).getD i 0 < n := fun c i => by
    rw [List.getD_eq_getElem?_getD]
    cases h : ((rngI 0 1 n).take c)[i]? with
    | none => simp; omega
    | some v => exact mem_rngI.mp (List.mem_of_mem_take (List.mem_of_getElem? h)) 
  have hd : ∀ c i : Nat, 0 ≤ ((rngI 0 1 n).drop c).getD i 0 ∧ ((rngI 0 1 n).drop c).getD i 0 < n := fun c i => by
    rw [List.getD_eq_getElem?_getD]
    cases h : ((rngI 0 1 n).drop c)[i]? with
    | none => simp; omega
    | some v => exact mem_rngI.mp (List.mem_of_mem_drop (List.mem_of_getElem? h))
  cases out
  · simp only [Bool.false_eq_true, if_false]
    split
    · exact hd _ _
    · exact ht _ _
  · simp only [if_true]
    split
    · exact ht _ _
    · exact hd _ _
theorem lawDone_len {n : Nat} : ∀ (bs : List Bool) (acc : List Int), acc.length = n → (bs.foldl (fun acc b => movedI acc (lawFaro n (!b))) acc).length = n
  | [], _, h => h
  | b :: bs, acc, h => lawDone_len bs _ (by rw [movedI_length, lawFaro_len2])
def R_law_done : Ct := fun ds M Q => ∃ (n : Nat) (bs : List Bool), ds = [.int n, .str (wordS bs)] ∧ n ≤ 10000 ∧ bs.length ≤ 10000 ∧ Q (.lst ((lawDone n bs).map .int)) M
theorem len_law_done : ∀ ds M Q, R_law_done ds M Q → ds.length = ["many", "word"].length := by
  rintro ds M Q ⟨a, b, rfl, _⟩; rfl
/-- where a card of a place lies behind a shuffle, without a remainder -/
theorem nxF_out {n p : Nat} (h : p < n) : nxF n true p = if p < (n + 1) / 2 then 2 * p else 2 * (p - (n + 1) / 2) + 1 := by
  unfold nxF numN
  simp only [Bool.true_and, if_true, Nat.add_zero]
  by_cases h2 : n % 2 = 1
  · rw [if_neg (by simp [h2]), if_pos h2]
    split
    · rw [Nat.mod_eq_of_lt (by omega)]
    · rw [Nat.mod_eq_sub_mod (by omega), Nat.mod_eq_of_lt (by omega)]; omega
  · by_cases h3 : p = n - 1
    · rw [if_pos (by simp [h3]; omega), if_neg (by omega)]; omega
    · rw [if_neg (by simp [h3]), if_neg h2, show max (n - 1) 1 = n - 1 by omega]
      split
      · rw [Nat.mod_eq_of_lt (by omega)]
      · rw [Nat.mod_eq_sub_mod (by omega), Nat.mod_eq_of_lt (by omega)]; omega
theorem nxF_in {n p : Nat} (h : p < n) : nxF n false p = if p < n / 2 then 2 * p + 1 else 2 * (p - n / 2) := by
  unfold nxF numN
  simp only [Bool.false_and, Bool.false_eq_true, if_false]
  by_cases h2 : n % 2 = 1
  · rw [if_pos h2]
    split
    · rw [Nat.mod_eq_of_lt (by omega)]
    · rw [Nat.mod_eq_sub_mod (by omega), Nat.mod_eq_of_lt (by omega)]; omega
  · rw [if_neg h2, show max (n + 1) 1 = n + 1 by omega]
    split
    · rw [Nat.mod_eq_of_lt (by omega)]
    · rw [Nat.mod_eq_sub_mod (by omega), Nat.mod_eq_of_lt (by omega)]; omega
theorem lawFaro_len {n : Nat} {out : Bool} : (lawFaro n out).length = n := by
  unfold lawFaro; simp
theorem lawFaro_at {n a : Nat} {out : Bool} (h : a < n) : (lawFaro n out)[a]? = some (if out = true then (if a % 2 = 0 then ((a / 2 : Nat) : Int) else (((n + 1) / 2 + a / 2 : Nat) : Int)) else (if a % 2 = 0 then ((n / 2 + a / 2 : Nat) : Int) else ((a / 2 : Nat) : Int))) := by
  have ht : ∀ c i : Nat, i < c → c ≤ n → ((rngI 0 1 n).take c).getD i 0 = (i : Int) := fun c i h1 h2 => by
    rw [List.getD_eq_getElem?_getD, List.getElem?_take_of_lt h1]
    simp [rngI, show i < n by omega]
  have hd : ∀ c i : Nat, c + i < n → ((rngI 0 1 n).drop c).getD i 0 = ((c + i : Nat) : Int) := fun c i h1 => by
    rw [List.getD_eq_getElem?_getD, List.getElem?_drop]
    simp [rngI, h1]
  unfold lawFaro
  rw [List.getElem?_map, List.getElem?_range h]
  simp only [Option.map_some, Option.some.injEq]
  cases out
  · simp only [Bool.false_eq_true, if_false]
    split
    · rw [hd _ _ (by omega)]
    · rw [ht _ _ (by omega) (by omega)]
  · simp only [if_true]
    split
    · rw [ht _ _ (by omega) (by omega)]
    · rw [hd _ _ (by omega)]
theorem lawFaro_nx {n p : Nat} {out : Bool} (h : p < n) : (lawFaro n out)[nxF n out p]? = some (p : Int) := by
  have hb : nxF n out p < n := nxF_lt h
  rw [lawFaro_at hb]
  cases out
  · rw [nxF_in h]
    simp only [Bool.false_eq_true, if_false, Option.some.injEq]
    split <;> split <;> omega
  · rw [nxF_out h]
    simp only [if_true, Option.some.injEq]
    split <;> split <;> omega
theorem lawFaro_mem {n : Nat} {out : Bool} : ∀ x ∈ lawFaro n out, 0 ≤ x ∧ x < n := by
  intro x hx
  obtain ⟨a, ha⟩ := List.getElem?_of_mem hx
  have hl := (List.getElem?_eq_some_iff.mp ha).1
  rw [lawFaro_len] at hl
  rw [lawFaro_at hl] at ha
  cases ha
  cases out
  · simp only [Bool.false_eq_true, if_false]; split <;> omega
  · simp only [if_true]; split <;> omega
theorem backGo_ne25 : ∀ (ps acc : List Int) (i v : Nat), (∀ p ∈ ps, p.toNat ≠ v) → (backGo acc i ps).getD v 0 = acc.getD v 0
  | [], _, _, _, _ => rfl
  | p :: ps, acc, i, v, h => by
    rw [backGo, backGo_ne25 ps _ _ _ fun q hq => h q (List.mem_cons_of_mem _ hq)]
    have := h p List.mem_cons_self
    rw [List.getD_eq_getElem?_getD, List.getD_eq_getElem?_getD, List.getElem?_set_ne this]
theorem backGo_at25 : ∀ (ps acc : List Int) (i k : Nat) (v : Int), ps.Nodup → (∀ p ∈ ps, 0 ≤ p ∧ p < acc.length) → ps[k]? = some v → (backGo acc i ps).getD v.toNat 0 = ((i + k : Nat) : Int)
  | [], _, _, _, _, _, _, h => by simp at h
  | p :: ps, acc, i, 0, v, hn, hb, h => by
    cases h
    rw [backGo, backGo_ne25 ps _ _ _ fun q hq e => ?_]
    · have := hb p List.mem_cons_self
      rw [List.getD_eq_getElem?_getD, List.getElem?_set_self (by omega)]
      rfl
    · have h1 := hb q (List.mem_cons_of_mem _ hq)
      have h2 := hb p List.mem_cons_self
      have : q = p := by omega
      subst this
      exact (List.nodup_cons.mp hn).1 hq
  | p :: ps, acc, i, k + 1, v, hn, hb, h => by
    rw [backGo, backGo_at25 ps _ (i + 1) k v (List.nodup_cons.mp hn).2 (fun q hq => by rw [List.length_set]; exact hb q (List.mem_cons_of_mem _ hq)) (by simpa using h)]
    congr 1; omega
theorem lawFaro_nodup {n : Nat} {out : Bool} : (lawFaro n out).Nodup := by
  unfold List.Nodup
  rw [List.pairwise_iff_getElem]
  intro i j hi hj hij e
  rw [lawFaro_len] at hi hj
  have h1 := lawFaro_at (out := out) hi
  have h2 := lawFaro_at (out := out) hj
  rw [List.getElem?_eq_getElem (by rw [lawFaro_len]; exact hi)] at h1
  rw [List.getElem?_eq_getElem (by rw [lawFaro_len]; exact hj)] at h2
  rw [e] at h1
  have h3 := h1.symm.trans h2
  simp only [Option.some.injEq] at h3
  cases out
  · simp only [Bool.false_eq_true, if_false] at h3
    split at h3 <;> split at h3 <;> omega
  · simp only [if_true] at h3
    split at h3 <;> split at h3 <;> omega
theorem back_nx {n p : Nat} {out : Bool} (h : p < n) : (backI (lawFaro n out)).getD p 0 = (nxF n out p : Nat) := by
  have := backGo_at25 (lawFaro n out) (List.replicate n 0) 0 (nxF n out p) p lawFaro_nodup (fun x hx => by rw [List.length_replicate]; exact lawFaro_mem x hx) (lawFaro_nx h)
  rw [Nat.zero_add, Int.toNat_natCast] at this
  unfold backI
  rw [lawFaro_len]
  exact this
theorem ltS_X {w : List Bool} (h : w ≠ []) : ltS (wordS w) "X" = true := by
  unfold ltS wordS
  cases w with
  | nil => exact absurd rfl h
  | cons a w =>
    have e : (Str.ofString "X").cps.toList = [88] := by decide
    show decide ((_ : List Nat) < (Str.ofString "X").cps.toList) = true
    rw [e]
    simp only [List.map_cons, decide_eq_true_eq]
    refine List.cons_lt_cons_iff.mpr (.inl ?_)
    cases a <;> decide
def R_law_words : Ct := R_words_there
theorem len_law_words : ∀ ds M Q, R_law_words ds M Q → ds.length = ["many", "one"].length := len_words_there
def R_law_figures : Ct := fun ds M Q => ∃ (p : Nat), ds = [.int p] ∧ p < 2 ^ 40 ∧ Q (.str (wordS (figs p))) M
theorem len_law_figures : ∀ ds M Q, R_law_figures ds M Q → ds.length = ["place"].length := by
  rintro ds M Q ⟨a, rfl, _⟩; rfl
theorem strsD_sgn : ∀ bs : List Bool, strsD (bs.map fun b => D.str (sgn b)) = some (bs.map sgn)
  | [] => rfl
  | b :: bs => by show (strsD (bs.map fun b => D.str (sgn b))).map (sgn b :: ·) = _; rw [strsD_sgn bs]; rfl
theorem joinL_nil : ∀ bs : List Bool, TL.joinL [] (bs.map fun b => [if b then 73 else 79]) = bs.map fun b => if b then 73 else 79
  | [] => rfl
  | [_] => rfl
  | b :: c :: bs => by
    have := joinL_nil (c :: bs)
    simp only [List.map_cons] at this ⊢
    rw [TL.joinL, this]
    rfl
theorem join_word (bs : List Bool) : Txt.join (Str.ofString "") (bs.map sgn) = wordS bs := by
  rw [TL.join_eq]
  refine TL.ext_tl ?_
  rw [TL.tl_join, List.map_map]
  rw [show TL.tl (Str.ofString "") = [] from rfl]
  exact joinL_nil bs
theorem sum_sgn : ∀ bs : List Bool, ((bs.map sgn).map (·.length)).sum = bs.length
  | [] => rfl
  | b :: bs => by simp only [List.map_cons, List.sum_cons, sum_sgn bs, List.length_cons]; have : (sgn b).length = 1 := rfl; omega
/-- where a card of a place lies behind a word's shuffles -/
def walkW (n : Nat) (bs : List Bool) (p : Nat) : Nat := bs.foldl (fun p b => nxF n (!b) p) p
theorem walkW_lt {n : Nat} : ∀ (bs : List Bool) (p : Nat), p < n → walkW n bs p < n
  | [], _, h => h
  | b :: bs, p, h => walkW_lt bs _ (nxF_lt h)
theorem walkW_app {n : Nat} (a b : List Bool) (p : Nat) : walkW n (a ++ b) p = walkW n b (walkW n a p) := by unfold walkW; rw [List.foldl_append]
theorem nxF_injW {n : Nat} {out : Bool} {p q : Nat} (h1 : p < n) (h2 : q < n) (e : nxF n out p = nxF n out q) : p = q := by
  cases out
  · rw [nxF_in h1, nxF_in h2] at e
    split at e <;> split at e <;> omega
  · rw [nxF_out h1, nxF_out h2] at e
    split at e <;> split at e <;> omega
theorem walkW_inj {n : Nat} : ∀ (bs : List Bool) (p q : Nat), p < n → q < n → walkW n bs p = walkW n bs q → p = q
  | [], _, _, _, _, e => e
  | b :: bs, p, q, h1, h2, e => nxF_injW h1 h2 (walkW_inj bs _ _ (nxF_lt h1) (nxF_lt h2) e)
/-- the card is found where it went -/
theorem done_walk {n : Nat} : ∀ (bs : List Bool) (acc : List Int) (p : Nat), p < n → acc.length = n → (bs.foldl (fun acc b => movedI acc (lawFaro n (!b))) acc).getD (walkW n bs p) 0 = acc.getD p 0
  | [], _, _, _, _ => rfl
  | b :: bs, acc, p, h, hl => by
    show (bs.foldl _ (movedI acc (lawFaro n (!b)))).getD (walkW n bs (nxF n (!b) p)) 0 = _
    rw [done_walk bs _ _ (nxF_lt h) (by rw [movedI_length, lawFaro_len])]
    have hx := lawFaro_nx (out := !b) h
    unfold movedI
    rw [List.getD_eq_getElem?_getD, List.getElem?_map, hx]
    simp
theorem lawDone_at {n : Nat} {bs : List Bool} {p : Nat} (h : p < n) : (lawDone n bs).getD (walkW n bs p) 0 = (p : Int) := by
  unfold lawDone
  rw [done_walk bs _ _ h rngI_length, rngI_getD h]; omega
/-- a place's figures lead from the first place to it -/
theorem fig_walk {n : Nat} : ∀ (t p : Nat) (acc : List Bool), p < n → p < 2 ^ t → walkW n (figGo t p acc) 0 = walkW n acc p
  | 0, p, acc, _, h => by
    have : p = 0 := by omega
    subst this; rfl
  | t + 1, p, acc, hn, h => by
    rw [figGo]
    by_cases h0 : p = 0
    · rw [if_pos h0, h0]
    · rw [if_neg h0, fig_walk t (p / 2) _ (by omega) (by rw [Nat.pow_succ] at h; omega)]
      show walkW n acc (nxF n (!(decide (p % 2 = 1))) (p / 2)) = _
      congr 1
      by_cases h1 : p % 2 = 1
      · rw [decide_eq_true h1, Bool.not_true, nxF_in (by omega), if_pos (by omega)]; omega
      · rw [decide_eq_false h1, Bool.not_false, nxF_out (by omega), if_pos (by omega)]; omega
theorem figs_walk {n p : Nat} (h : p < n) (h2 : n < 2 ^ 40) : walkW n (figs p) 0 = p := fig_walk 64 p [] h (by omega)
/-- the words lead to their places -/
def Leads (n one : Nat) (f : WMap) : Prop := ∀ q w, f q = some w → walkW n w one = q
theorem lay_leads {n one : Nat} {f : WMap} (hf : Leads n one f) : ∀ (L : List Nat) (g : WMap), (∀ p ∈ L, (f p).isSome = true) → Leads n one g → Leads n one (L.foldl (stepW n f) g)
  | [], _, _, h => h
  | p :: L, g, hL, h => by
    obtain ⟨w, hw⟩ := Option.isSome_iff_exists.mp (hL p List.mem_cons_self)
    have key : ∀ (g : WMap) (b : Bool), Leads n one g → Leads n one (updW f g (nxF n (!b) p) ((f p).getD [] ++ [b])) := by
      intro g b hg q u hq
      have hwb : walkW n (w ++ [b]) one = nxF n (!b) p := by
        rw [walkW_app, hf p w hw]; rfl
      unfold updW at hq
      split at hq
      · exact hg q u hq
      · dsimp only at hq
        split at hq
        · rename_i e
          subst e
          rw [hw] at hq
          cases hgr : g (nxF n (!b) p) with
          | none => rw [hgr] at hq; cases hq; exact hwb
          | some c =>
            rw [hgr] at hq
            simp only [Option.some.injEq] at hq
            subst hq
            unfold bminW
            split
            · exact hwb
            · exact hg _ c hgr
        · exact hg q u hq
    exact lay_leads hf L _ (fun x hx => hL x (List.mem_cons_of_mem _ hx)) (key _ false (key _ true h))
theorem lay_has {n : Nat} {f : WMap} : ∀ (L : List Nat) (g : WMap) (p : Nat) (b : Bool), (p ∈ L ∨ (g (nxF n (!b) p)).isSome = true) → (f (nxF n (!b) p)).isSome = true ∨ (L.foldl (stepW n f) g (nxF n (!b) p)).isSome = true
  | [], g, p, b, h => by
    rcases h with h | h
    · simp at h
    · exact .inr h
  | r :: L, g, p, b, h => by
    by_cases hf : (f (nxF n (!b) p)).isSome = true
    · exact .inl hf
    have mono : ∀ (g : WMap) (q : Nat) (w : List Bool) (x : Nat), (g x).isSome = true → (updW f g q w x).isSome = true := by
      intro g q w x hx
      unfold updW
      split
      · exact hx
      · dsimp only
        split
        · rfl
        · exact hx
    refine lay_has L _ p b ?_
    rcases h with h | h
    · rcases List.mem_cons.mp h with e | h
      · subst e
        right
        unfold stepW
        cases b
        · rw [updW]
          rw [if_neg (by simpa using hf)]
          simp
        · refine mono _ _ _ _ ?_
          rw [updW]
          rw [if_neg (by simpa using hf)]
          simp
      · exact .inl h
    · exact .inr (mono _ _ _ _ (mono _ _ _ _ h))
def cntW (n : Nat) (f : WMap) : Nat := ((List.range n).filter fun q => (f q).isSome).length
theorem cnt_add {f g : WMap} (hd : ∀ q, (g q).isSome = true → f q = none) : ∀ l : List Nat, (l.filter fun q => ((f q).or (g q)).isSome).length = (l.filter fun q => (f q).isSome).length + (l.filter fun q => (g q).isSome).length
  | [] => rfl
  | q :: l => by
    have ih := cnt_add hd l
    simp only [List.filter_cons]
    cases hg : g q with
    | none =>
      cases hf : f q with
      | none => simpa using ih
      | some w => simp at ih ⊢; omega
    | some u =>
      have := hd q (by rw [hg]; rfl)
      rw [this]
      simp at ih ⊢; omega
theorem bfs_all {n one : Nat} : ∀ (t : Nat) (f : WMap) (L : List Nat), (∀ p ∈ L, p < n ∧ (f p).isSome = true) → (∀ p, (f p).isSome = true → p ∉ L → ∀ b, (f (nxF n (!b) p)).isSome = true) → (L = [] ∨ cntW n f + t ≥ n + 2) → Leads n one f →
    (∀ p, (bfsW n t f L p).isSome = true → ∀ b, (bfsW n t f L (nxF n (!b) p)).isSome = true) ∧ (∀ p, (f p).isSome = true → (bfsW n t f L p).isSome = true) ∧ Leads n one (bfsW n t f L)
  | 0, f, L, hL, hc, hu, hl => by
    have hle : cntW n f ≤ n := by
      unfold cntW
      have := List.length_filter_le (fun q => (f q).isSome) (List.range n)
      rwa [List.length_range] at this
    have hLe : L = [] := by
      rcases hu with h | h
      · exact h
      · omega
    subst hLe
    exact ⟨fun p hp b => hc p hp (by simp) b, fun p hp => hp, hl⟩
  | t + 1, f, L, hL, hc, hu, hl => by
    rw [bfsW]
    by_cases hLe : L = []
    · rw [if_pos hLe]
      subst hLe
      exact ⟨fun p hp b => hc p hp (by simp) b, fun p hp => hp, hl⟩
    · rw [if_neg hLe]
      have hdis : ∀ q, (layW n f L q).isSome = true → f q = none := layW_disj L _ (fun q h => by cases h)
      have hlt : ∀ q, (layW n f L q).isSome = true → q < n := layW_lt (fun o q hq => nxF_lt hq) L _ (fun q hq => (hL q hq).1) (fun q h => by cases h)
      have hleads : Leads n one (layW n f L) := lay_leads hl L _ (fun p hp => (hL p hp).2) (fun q w h => by cases h)
      have key := bfs_all (n := n) (one := one) t (fun q => (f q).or (layW n f L q)) ((List.range n).filter fun q => (layW n f L q).isSome) (fun p hp => ?_) (fun p hp hn b => ?_) ?_ (fun q w hw => ?_)
      · refine ⟨key.1, fun p hp => key.2.1 p ?_, key.2.2⟩
        obtain ⟨w, hw⟩ := Option.isSome_iff_exists.mp hp
        rw [hw]; rfl
      · obtain ⟨q1, q2⟩ := List.mem_filter.mp hp
        refine ⟨List.mem_range.mp q1, ?_⟩
        rw [hdis p q2]
        exact q2
      · have hfp : (f p).isSome = true := by
          cases h : f p with
          | some w => rfl
          | none =>
            rw [h] at hp
            have hp : (layW n f L p).isSome = true := hp
            exact absurd (List.mem_filter.mpr ⟨List.mem_range.mpr (hlt p hp), hp⟩) hn
        by_cases hpL : p ∈ L
        · rcases lay_has (f := f) L (fun _ => none) p b (.inl hpL) with h | h
          · obtain ⟨w, hw⟩ := Option.isSome_iff_exists.mp h
            rw [hw]; rfl
          · have h : (layW n f L (nxF n (!b) p)).isSome = true := h
            rw [hdis _ h]
            exact h
        · obtain ⟨w, hw⟩ := Option.isSome_iff_exists.mp (hc p hfp hpL b)
          rw [hw]; rfl
      · by_cases e : (List.range n).filter (fun q => (layW n f L q).isSome) = []
        · exact .inl e
        · right
          have h1 := List.length_pos_iff.mpr e
          have h2 := cnt_add hdis (List.range n)
          unfold cntW at hu ⊢
          rw [h2]
          have := hu.resolve_left hLe
          omega
      · dsimp only at hw
        cases hf : f q with
        | some u => rw [hf] at hw; cases hw; exact hl q _ hf
        | none => rw [hf] at hw; exact hleads q w hw
theorem words_all {n one : Nat} (h : one < n) : (∀ p, (wordsW n one p).isSome = true → ∀ b, (wordsW n one (nxF n (!b) p)).isSome = true) ∧ (wordsW n one one).isSome = true ∧ Leads n one (wordsW n one) := by
  have := bfs_all (n := n) (one := one) (n + 1) (fun q => if q = one then some [] else none) [one] (fun p hp => by simp at hp; subst hp; exact ⟨h, by simp⟩) (fun p hp hn => by
    by_cases e : p = one
    · subst e; simp at hn
    · rw [if_neg e] at hp; cases hp) ?_ (fun q w hw => by
      dsimp only at hw
      by_cases e : q = one
      · rw [if_pos e] at hw; cases hw; exact e.symm
      · rw [if_neg e] at hw; cases hw)
  · exact ⟨this.1, this.2.1 one (by simp), this.2.2⟩
  · right
    have : 0 < cntW n (fun q => if q = one then some [] else none) := by
      unfold cntW
      rw [List.length_pos_iff]
      intro e
      have hm : one ∈ (List.range n).filter fun q => ((if q = one then some [] else none : Option (List Bool))).isSome := List.mem_filter.mpr ⟨List.mem_range.mpr h, by simp⟩
      rw [e] at hm
      simp at hm
    omega
theorem walk_has {n one : Nat} (h : one < n) : ∀ (bs : List Bool) (p : Nat), (wordsW n one p).isSome = true → (wordsW n one (walkW n bs p)).isSome = true
  | [], _, hp => hp
  | b :: bs, p, hp => walk_has h bs _ ((words_all h).1 p hp b)
/-- a way back -/
def itF (f : Nat → Nat) : Nat → Nat → Nat
  | 0, p => p
  | k + 1, p => f (itF f k p)
theorem back_of {n : Nat} {f : Nat → Nat} (h0 : ∀ p, p < n → f p < n) (hi : ∀ p q, p < n → q < n → f p = f q → p = q) {p : Nat} (hp : p < n) : ∃ k, itF f (k + 1) p = p := by
  have hlt : ∀ k, itF f k p < n := fun k => by
    induction k with
    | zero => exact hp
    | succ k ih => exact h0 _ ih
  have down : ∀ i j, itF f i p = itF f (i + (j + 1)) p → itF f (j + 1) p = p := by
    intro i
    induction i with
    | zero => intro j e; rw [Nat.zero_add] at e; exact e.symm
    | succ i ih =>
      intro j e
      refine ih j (hi _ _ (hlt _) (hlt _) ?_)
      have : i + 1 + (j + 1) = (i + (j + 1)) + 1 := by omega
      rw [this] at e
      exact e
  refine Classical.byContradiction fun hc => ?_
  have hne : ∀ i j, i < j → itF f i p ≠ itF f j p := fun i j hij e => by
    refine hc ⟨j - i - 1, down i (j - i - 1) ?_⟩
    rw [show i + (j - i - 1 + 1) = j by omega]
    exact e
  have hnd : ((List.range (n + 1)).map fun k => itF f k p).Nodup := by
    unfold List.Nodup
    rw [List.pairwise_map]
    exact List.pairwise_lt_range.imp fun h => hne _ _ h
  have := nodupW_below hnd (n := n) (fun x hx => by
    obtain ⟨k, _, rfl⟩ := List.mem_map.mp hx
    exact hlt k)
  rw [List.length_map, List.length_range] at this
  omega
theorem it_walk {n : Nat} (w : List Bool) : ∀ (k p : Nat), ∃ bs, itF (walkW n w) k p = walkW n bs p
  | 0, p => ⟨[], rfl⟩
  | k + 1, p => by
    obtain ⟨bs, e⟩ := it_walk (n := n) w k p
    refine ⟨bs ++ w, ?_⟩
    rw [walkW_app, ← e]; rfl
theorem it_first (f : Nat → Nat) : ∀ (k p : Nat), itF f (k + 1) p = itF f k (f p)
  | 0, _ => rfl
  | k + 1, p => by
    show f (itF f (k + 1) p) = f (itF f k (f p))
    rw [it_first f k p]
theorem to_first {n one : Nat} (h : one < n) (hn : n < 2 ^ 40) : ∃ bs, walkW n bs one = 0 := by
  obtain ⟨k, hk⟩ := back_of (n := n) (f := walkW n (figs one)) (fun p hp => walkW_lt _ p hp) (fun p q h1 h2 e => walkW_inj _ p q h1 h2 e) (p := 0) (by omega)
  rw [it_first, figs_walk h hn] at hk
  obtain ⟨bs, e⟩ := it_walk (n := n) (figs one) k one
  exact ⟨bs, e.symm.trans hk⟩
theorem words_tot {n one q : Nat} (h : one < n) (hq : q < n) (hn : n < 2 ^ 40) : (wordsW n one q).isSome = true := by
  obtain ⟨bs, e⟩ := to_first h hn
  have := walk_has h (bs ++ figs q) one (words_all h).2.1
  rw [walkW_app, e, figs_walk hq hn] at this
  exact this
theorem faroEq : (List.range 61).all (fun n => decide (lawFaro n true = faroI n true) && decide (lawFaro n false = faroI n false)) = true := by decide +kernel
theorem faro_eq {n : Nat} (h : n < 61) (o : Bool) : lawFaro n o = faroI n o := by
  have := List.all_eq_true.mp faroEq n (List.mem_range.mpr h)
  simp only [Bool.and_eq_true, decide_eq_true_eq] at this
  cases o
  · exact this.2
  · exact this.1
theorem lawDone_eq {n : Nat} (h : n < 61) (bs : List Bool) : lawDone n bs = doneI n bs := by
  unfold lawDone doneI
  simp only [faro_eq h]
theorem okW {k : Nat} {w : List Bool} : okD (k + 1) (.str (wordS w)) = true := by
  unfold okD PyData.canLay0 PyData.strOk wordS
  simp only [List.all_toArray', List.size_toArray, List.all_map, List.all_eq_true]
  intro b _
  cases b <;> rfl
def R_law_right : Ct := fun ds M Q => ∃ (p : Addr) (xs : List D) (B : Int) (n : Nat), ds = [.ref p, .int n] ∧ M p = some (.lst xs) ∧ PurseOk B xs ∧ B ≤ 2 ^ 57 ∧ n < 61 ∧ ∀ ys, PurseOk (B + 100) ys → Q (.bl true) (M.set p (.lst ys))
theorem len_law_right : ∀ ds M Q, R_law_right ds M Q → ds.length = ["purse", "many"].length := by
  rintro ds M Q ⟨a, b, c, d, rfl, _⟩; rfl
theorem bfs_keep {n : Nat} : ∀ (t : Nat) (f : WMap) (L : List Nat) (q : Nat) (w : List Bool), f q = some w → bfsW n t f L q = some w
  | 0, _, _, _, _, h => h
  | t + 1, f, L, q, w, h => by
    rw [bfsW]
    split
    · exact h
    · exact bfs_keep t _ _ q w (by rw [h]; rfl)
theorem w52 : wordsW 52 13 13 = some [] := bfs_keep _ _ _ _ _ rfl
theorem w10 : wordsW 10 7 0 = some [false, true] := by decide +kernel
theorem l10 : lensW 10 0 = [0, 1, 2, 2, 3, 3, 3, 3, 4, 4] := by decide +kernel
theorem figs14 : figs 14 = [true, true, true, false] := by decide +kernel
theorem figs0 : figs 0 = [] := by decide +kernel
theorem d4 : doneI 4 [true, false] = [2, 3, 0, 1] := by decide +kernel
theorem d3 : doneI 3 [] = [0, 1, 2] := by decide +kernel
def R_law (K : PySem.W.Frag) : Ct := fun ds M Q => ∃ ns : List Int, ds = [.scr K (ns.map .int)] ∧ ns.length ≤ 63 ∧ ∀ M', Q (.bl true) M'
theorem len_law (K : PySem.W.Frag) : ∀ ds M Q, R_law K ds M Q → ds.length = ["script"].length := by
  rintro ds M Q ⟨ns, rfl, _⟩; rfl
section
variable {P : Program} {w : World} {K : PySem.W.Frag} {mg : Str → Option Value} {base : Heap}
abbrev s_is_whole : Stmt := topS 1
theorem sc_is_whole : FnScope ["value"] ["value"] (defScope s_is_whole) := ⟨rfl, rfl, rfl, by decide +kernel, rfl, by decide +kernel, by decide +kernel⟩
theorem ok_is_whole {f : Addr} {fd : FuncData} (F : FnP K "is_whole" s_is_whole [] f fd)
    (m_isinstance : mg "isinstance" = none)
    (m_int : mg "int" = none)
    (m_bool : mg "bool" = none) :
    FnG P w K mg base 1 f fd ["value"] (spD R_is_whole) := by
  have nd := sc_is_whole.nd
  refine fnD (k := 0) F sc_is_whole len_is_whole fun cdv A outer s H E hr hq => ?_
  have hu := hu_of hr
  have hr65 := room65 hr
  have hr66 := room66 hr
  refine ⟨_, _, pss_one (ps_ret (pe_and (pe_callB call_isiA (by rfl) m_isinstance (by decide +kernel) (pa_cons (pv 0) (pa_cons (pe_bltn (v := .ty "int") (by rfl) m_int (by decide +kernel) rfl) (pa_nil)))) (pe_one (pe_not (pe_callB call_isiA (by rfl) m_isinstance (by decide +kernel) (pa_cons (pv 0) (pa_cons (pe_bltn (v := .ty "bool") (by rfl) m_bool (by decide +kernel) rfl) (pa_nil)))))))),
    ts_ret (tr_and (tr_cb ct_isi (ta_cons (tr_var (i := 0)) (ta_cons (tr_ty) (ta_nil)))) (tr_not (tr_cb ct_isi (ta_cons (tr_var (i := 0)) (ta_cons (tr_ty) (ta_nil)))))), ?_⟩
  rintro ds M Q ⟨d, rfl, h, q⟩
  cases d <;> first | cases h | skip
  all_goals (simp only [sSeq, sRet, sRetN, sIf, sDrop, sNever, sNext, sBreak, sCont, sAsg, sPar, sPar3, sAug, dName, dNil, dCons, dTup, dSub, sSetL, wVar, wC, wFrz, wFrzK, wOp, wAdd, nAdd, nI, nI0, wMul, nMul, wNeg, wEq, nEq, wIsN, wB, wAndT, wOrT, wNotT, wAndV, wOrV, wNotV, wIfE, wChain, aNil, aCons, aStar, wLst, wTup, wIx, nIx, pNo, pSo, wSl, wRev, wRevE, mIndex, wLenSet, cRepr, wIsB, wCB, cLen, cAll, cSum, cMax, cMin, cSorted, cInt, cList, cTuple, cIsi, wBits, wLRg, wBM, wBM0, mChg, wDGet, wDIn, wDNew, sDPutD, wIn, nIn, wCall, wCallK, wNew, tYesD, startD, List.map_cons, List.map_nil, List.length_cons, List.length_nil, List.replicate, Nat.sub_self, List.append_nil, List.cons_append, List.nil_append, List.getElem?_cons_zero, List.getElem?_cons_succ, List.set_cons_zero, List.set_cons_succ, Nat.reduceSub, Nat.reduceAdd, ite_true, ite_false, if_true, if_false, Bool.false_eq_true, Bool.true_eq_false, Bool.not_true, Bool.not_false, Option.some.injEq, nrm_non, nrm_bl, nrm_int, nrm_str, nrm_ty, nrm_lst, nrm_tupC, nrm_dct, nrm_scr, nrm_setL, wFgt, tyN_non, tyN_bl, tyN_int, tyN_str, tyN_lst, tyN_tup, tyN_dct, keyD_int, keyD_str, isA, okT, beq_self_eq_true, String.reduceBEq, Bool.or_false, Bool.or_true, Bool.and_false, Bool.and_true, Bool.true_or, Bool.false_or, Bool.true_and, Bool.false_and, true_and, and_true, List.any_cons, List.any_nil, tyNames, Option.map_some, iRn1, iRn2, iRn3, iLst, nIt, iTp, iEn, iZp, iSt, wipeD, atI0, atI1, atI2, atI3, ixN0, ixN1, ixN2, ixN3, wSub, wLt, wLe, wGt, wGe, wDiv, wMod, wPow, wShl, Mp.set_same, Mp.set_set, cSortedA, cDictP, wNewD, wEqS, nEqS, wFrzT, mExt, mCnt, nIxL, sAugS, wSlS, wJoin, cSumL, dUnl, cSortLL, cMinLL, wLenSetT, wLenDictT, mIndexB, wLenSetJ, wAddT, wSortSet, wDNewT, sDPutT, cSortDT, wBMd, wDGet1, wDGet2, mUpd, wPairs, wDisp, wLtS, cMinS, cListD]; exact q)
abbrev s_faro_there : Stmt := topS 13
theorem sc_faro_there : FnScope ["many", "kind", "cut", "upper", "lower", "first", "second", "found", "at", "place"] ["many", "kind"] (defScope s_faro_there) := ⟨rfl, rfl, rfl, by decide +kernel, rfl, by decide +kernel, by decide +kernel⟩
theorem ok_faro_there {f : Addr} {fd : FuncData} (F : FnP K "faro_there" s_faro_there [] f fd)
    (m_list : mg "list" = none)
    (m_range : mg "range" = none)
    (m_enumerate : mg "enumerate" = none) :
    FnG P w K mg base 1 f fd ["many", "kind"] (spD R_faro_there) := by
  have nd := sc_faro_there.nd
  refine fnD (k := 0) F sc_faro_there len_faro_there fun cdv A outer s H E hr hq => ?_
  have hu := hu_of hr
  have hr65 := room65 hr
  have hr66 := room66 hr
  refine ⟨_, _, pss_cons (ps_set (i := 2) nd rfl (by first | exact .inl rfl | exact .inr rfl) (pe_ifExp (pt_cmpR ((op_eqD hr.units).or op_eq) (pv 1) (pe_str) (nomark _)) (pe_op op_fdivW (pe_op op_addA (pv 0) (pe_int)) (pe_int)) (pe_op op_fdivW (pv 0) (pe_int))))
      (pss_cons (ps_par (i := 3) (j := 4) (by rfl) nd rfl rfl (by decide) rfl rfl (pa_cons (pe_listRgC rfl (by rfl) m_list (prgA (by rfl) m_range (pa_cons (pv 2) (pa_nil)))) (pa_cons (pe_listRgC rfl (by rfl) m_list (prgA (by rfl) m_range (pa_cons (pv 2) (pa_cons (pv 0) (pa_nil))))) (pa_nil))) (by rfl))
      (pss_cons (ps_asg (pe_ifExp (pt_cmpR ((op_eqD hr.units).or op_eq) (pv 1) (pe_str) (nomark _)) (pe_tup (pa_cons (pv 3) (pa_cons (pv 4) (pa_nil)))) (pe_tup (pa_cons (pv 4) (pa_cons (pv 3) (pa_nil))))) (pg_tup (n := 2) rfl (pgs_cons (pg_name (i := 5) nd rfl (by first | exact .inl rfl | exact .inr rfl)) (pgs_cons (pg_name (i := 6) nd rfl (by first | exact .inl rfl | exact .inr rfl)) (pgs_nil)))))
      (pss_cons (ps_set (i := 7) nd rfl (by first | exact .inl rfl | exact .inr rfl) (pe_lst (pa_nil)))
      (pss_cons (ps_for PassesOwn.never rfl (pi_enum (by rfl) m_enumerate (pa_cons (pv 5) (pa_nil))) (pg_tup (n := 2) rfl (pgs_cons (pg_name (i := 8) nd rfl (by first | exact .inl rfl | exact .inr rfl)) (pgs_cons (pg_name (i := 9) nd rfl (by first | exact .inl rfl | exact .inr rfl)) (pgs_nil)))) (pss_one (ps_expr (pe_bm PySem.F.plainAttrs_list PySem.F.slot_list_extend PySem.F.type_list_extend mt_extendR (pv 7) (pa_cons (pe_lst (pa_cons (pv 9) (StX.pa_star (pe_slice sl_list (pv 6) (po_some (pv 8)) (po_some (pe_op op_addA (pv 8) (pe_int)))) (pa_nil)))) (pa_nil))))))
      (pss_one (ps_ret (pv 7))))))),
    ts_seq (ts_asg (tr_if (tt_test (tr_op ot_eqS (tr_var (i := 1)) (tr_str))) (tr_op (ot_div) (tr_op (ot_add (K := K) (md := .frz)) (tr_var (i := 0)) (tr_int)) (tr_int)) (tr_op (ot_div) (tr_var (i := 0)) (tr_int))) (tg_name (i := 2)))
      (ts_seq (ts_par (i := 3) (j := 4) (ta_cons (tr_lrg (md := .frz) (ta_cons (tr_var (i := 2)) (ta_nil))) (ta_cons (tr_lrg (md := .frz) (ta_cons (tr_var (i := 2)) (ta_cons (tr_var (i := 0)) (ta_nil)))) (ta_nil))))
      (ts_seq (ts_asg (tr_if (tt_test (tr_op ot_eqS (tr_var (i := 1)) (tr_str))) (tr_tup (ta_cons (tr_var (i := 3)) (ta_cons (tr_var (i := 4)) (ta_nil)))) (tr_tup (ta_cons (tr_var (i := 4)) (ta_cons (tr_var (i := 3)) (ta_nil))))) (tg_tup (n := 2) (tgs_cons (tg_name (i := 5)) (tgs_cons (tg_name (i := 6)) (tgs_nil)))))
      (ts_seq (ts_asg (tr_lst (md := .own) (ta_nil)) (tg_name (i := 7)))
      (ts_seq (ts_for (ti_enum (ta_cons (tr_var (i := 5)) (ta_nil))) (tg_tup (n := 2) (tgs_cons (tg_name (i := 8)) (tgs_cons (tg_name (i := 9)) (tgs_nil)))) (ts_drop (tr_bm mt_extendD (tr_var (i := 7)) (ta_cons (tr_lst (md := .frz) (ta_cons (tr_var (i := 9)) (ta_star (tr_sl (md := .frz) (tr_var (i := 6)) (tp_so (tr_var (i := 8))) (tp_so (tr_op (ot_add (K := K) (md := .frz)) (tr_var (i := 8)) (tr_int)))) (ta_nil)))) (ta_nil)))))
      (ts_ret (tr_var (i := 7))))))), ?_⟩
  rintro ds M Q ⟨n, out, rfl, hn, q⟩
  have hc := faroCut_le n out
  have ek : decide (kindS out = "out") = out := by cases out <;> decide
  refine seq_mid (fun ρ' M' => ρ' = [some (.int n), some (.str (kindS out)), some (.int (faroCut n out)), none, none, none, none, none, none, none] ∧ M = M') (fun nx hnx => ?_) (fun ρ' M' w => ?_)
  · simp only [sRet, sRetN, sIf, sDrop, sNever, sNext, sBreak, sCont, sAsg, sPar, sPar3, sAug, dName, dNil, dCons, dTup, dSub, sSetL, wVar, wC, wFrz, wFrzK, wOp, wAdd, nAdd, nI, nI0, wMul, nMul, wNeg, wEq, nEq, wIsN, wB, wAndT, wOrT, wNotT, wAndV, wOrV, wNotV, wIfE, wChain, aNil, aCons, aStar, wLst, wTup, wIx, nIx, pNo, pSo, wSl, wRev, wRevE, mIndex, wLenSet, cRepr, wIsB, wCB, cLen, cAll, cSum, cMax, cMin, cSorted, cInt, cList, cTuple, cIsi, wBits, wLRg, wBM, wBM0, mChg, wDGet, wDIn, wDNew, sDPutD, wIn, nIn, wCall, wCallK, wNew, tYesD, startD, List.map_cons, List.map_nil, List.length_cons, List.length_nil, List.replicate, Nat.sub_self, List.append_nil, List.cons_append, List.nil_append, List.getElem?_cons_zero, List.getElem?_cons_succ, List.set_cons_zero, List.set_cons_succ, Nat.reduceSub, Nat.reduceAdd, ite_true, ite_false, if_true, if_false, Bool.false_eq_true, Bool.true_eq_false, Bool.not_true, Bool.not_false, Option.some.injEq, nrm_non, nrm_bl, nrm_int, nrm_str, nrm_ty, nrm_lst, nrm_tupC, nrm_dct, nrm_scr, nrm_setL, wFgt, tyN_non, tyN_bl, tyN_int, tyN_str, tyN_lst, tyN_tup, tyN_dct, keyD_int, keyD_str, isA, okT, beq_self_eq_true, String.reduceBEq, Bool.or_false, Bool.or_true, Bool.and_false, Bool.and_true, Bool.true_or, Bool.false_or, Bool.true_and, Bool.false_and, true_and, and_true, List.any_cons, List.any_nil, tyNames, Option.map_some, iRn1, iRn2, iRn3, iLst, nIt, iTp, iEn, iZp, iSt, wipeD, atI0, atI1, atI2, atI3, ixN0, ixN1, ixN2, ixN3, wSub, wLt, wLe, wGt, wGe, wDiv, wMod, wPow, wShl, Mp.set_same, Mp.set_set, cSortedA, cDictP, wNewD, wEqS, nEqS, wFrzT, mExt, mCnt, nIxL, sAugS, wSlS, wJoin, cSumL, dUnl, cSortLL, cMinLL, wLenSetT, wLenDictT, mIndexB, wLenSetJ, wAddT, wSortSet, wDNewT, sDPutT, cSortDT, wBMd, wDGet1, wDGet2, mUpd, wPairs, wDisp, wLtS, cMinS, cListD, ek]
    cases out
    · simp only [sRet, sRetN, sIf, sDrop, sNever, sNext, sBreak, sCont, sAsg, sPar, sPar3, sAug, dName, dNil, dCons, dTup, dSub, sSetL, wVar, wC, wFrz, wFrzK, wOp, wAdd, nAdd, nI, nI0, wMul, nMul, wNeg, wEq, nEq, wIsN, wB, wAndT, wOrT, wNotT, wAndV, wOrV, wNotV, wIfE, wChain, aNil, aCons, aStar, wLst, wTup, wIx, nIx, pNo, pSo, wSl, wRev, wRevE, mIndex, wLenSet, cRepr, wIsB, wCB, cLen, cAll, cSum, cMax, cMin, cSorted, cInt, cList, cTuple, cIsi, wBits, wLRg, wBM, wBM0, mChg, wDGet, wDIn, wDNew, sDPutD, wIn, nIn, wCall, wCallK, wNew, tYesD, startD, List.map_cons, List.map_nil, List.length_cons, List.length_nil, List.replicate, Nat.sub_self, List.append_nil, List.cons_append, List.nil_append, List.getElem?_cons_zero, List.getElem?_cons_succ, List.set_cons_zero, List.set_cons_succ, Nat.reduceSub, Nat.reduceAdd, ite_true, ite_false, if_true, if_false, Bool.false_eq_true, Bool.true_eq_false, Bool.not_true, Bool.not_false, Option.some.injEq, nrm_non, nrm_bl, nrm_int, nrm_str, nrm_ty, nrm_lst, nrm_tupC, nrm_dct, nrm_scr, nrm_setL, wFgt, tyN_non, tyN_bl, tyN_int, tyN_str, tyN_lst, tyN_tup, tyN_dct, keyD_int, keyD_str, isA, okT, beq_self_eq_true, String.reduceBEq, Bool.or_false, Bool.or_true, Bool.and_false, Bool.and_true, Bool.true_or, Bool.false_or, Bool.true_and, Bool.false_and, true_and, and_true, List.any_cons, List.any_nil, tyNames, Option.map_some, iRn1, iRn2, iRn3, iLst, nIt, iTp, iEn, iZp, iSt, wipeD, atI0, atI1, atI2, atI3, ixN0, ixN1, ixN2, ixN3, wSub, wLt, wLe, wGt, wGe, wDiv, wMod, wPow, wShl, Mp.set_same, Mp.set_set, cSortedA, cDictP, wNewD, wEqS, nEqS, wFrzT, mExt, mCnt, nIxL, sAugS, wSlS, wJoin, cSumL, dUnl, cSortLL, cMinLL, wLenSetT, wLenDictT, mIndexB, wLenSetJ, wAddT, wSortSet, wDNewT, sDPutT, cSortDT, wBMd, wDGet1, wDGet2, mUpd, wPairs, wDisp, wLtS, cMinS, cListD]
      exact ⟨⟨by decide, .inl (by decide)⟩, hnx _ _ ⟨by simp [faroCut], rfl⟩⟩
    · simp only [sRet, sRetN, sIf, sDrop, sNever, sNext, sBreak, sCont, sAsg, sPar, sPar3, sAug, dName, dNil, dCons, dTup, dSub, sSetL, wVar, wC, wFrz, wFrzK, wOp, wAdd, nAdd, nI, nI0, wMul, nMul, wNeg, wEq, nEq, wIsN, wB, wAndT, wOrT, wNotT, wAndV, wOrV, wNotV, wIfE, wChain, aNil, aCons, aStar, wLst, wTup, wIx, nIx, pNo, pSo, wSl, wRev, wRevE, mIndex, wLenSet, cRepr, wIsB, wCB, cLen, cAll, cSum, cMax, cMin, cSorted, cInt, cList, cTuple, cIsi, wBits, wLRg, wBM, wBM0, mChg, wDGet, wDIn, wDNew, sDPutD, wIn, nIn, wCall, wCallK, wNew, tYesD, startD, List.map_cons, List.map_nil, List.length_cons, List.length_nil, List.replicate, Nat.sub_self, List.append_nil, List.cons_append, List.nil_append, List.getElem?_cons_zero, List.getElem?_cons_succ, List.set_cons_zero, List.set_cons_succ, Nat.reduceSub, Nat.reduceAdd, ite_true, ite_false, if_true, if_false, Bool.false_eq_true, Bool.true_eq_false, Bool.not_true, Bool.not_false, Option.some.injEq, nrm_non, nrm_bl, nrm_int, nrm_str, nrm_ty, nrm_lst, nrm_tupC, nrm_dct, nrm_scr, nrm_setL, wFgt, tyN_non, tyN_bl, tyN_int, tyN_str, tyN_lst, tyN_tup, tyN_dct, keyD_int, keyD_str, isA, okT, beq_self_eq_true, String.reduceBEq, Bool.or_false, Bool.or_true, Bool.and_false, Bool.and_true, Bool.true_or, Bool.false_or, Bool.true_and, Bool.false_and, true_and, and_true, List.any_cons, List.any_nil, tyNames, Option.map_some, iRn1, iRn2, iRn3, iLst, nIt, iTp, iEn, iZp, iSt, wipeD, atI0, atI1, atI2, atI3, ixN0, ixN1, ixN2, ixN3, wSub, wLt, wLe, wGt, wGe, wDiv, wMod, wPow, wShl, Mp.set_same, Mp.set_set, cSortedA, cDictP, wNewD, wEqS, nEqS, wFrzT, mExt, mCnt, nIxL, sAugS, wSlS, wJoin, cSumL, dUnl, cSortLL, cMinLL, wLenSetT, wLenDictT, mIndexB, wLenSetJ, wAddT, wSortSet, wDNewT, sDPutT, cSortDT, wBMd, wDGet1, wDGet2, mUpd, wPairs, wDisp, wLtS, cMinS, cListD]
      exact ⟨⟨by decide, .inl (by decide)⟩, hnx _ _ ⟨by simp [faroCut], rfl⟩⟩
  obtain ⟨rfl, rfl⟩ := w
  ((try simp only [sSeq]); simp only [sRet, sRetN, sIf, sDrop, sNever, sNext, sBreak, sCont, sAsg, sPar, sPar3, sAug, dName, dNil, dCons, dTup, dSub, sSetL, wVar, wC, wFrz, wFrzK, wOp, wAdd, nAdd, nI, nI0, wMul, nMul, wNeg, wEq, nEq, wIsN, wB, wAndT, wOrT, wNotT, wAndV, wOrV, wNotV, wIfE, wChain, aNil, aCons, aStar, wLst, wTup, wIx, nIx, pNo, pSo, wSl, wRev, wRevE, mIndex, wLenSet, cRepr, wIsB, wCB, cLen, cAll, cSum, cMax, cMin, cSorted, cInt, cList, cTuple, cIsi, wBits, wLRg, wBM, wBM0, mChg, wDGet, wDIn, wDNew, sDPutD, wIn, nIn, wCall, wCallK, wNew, tYesD, startD, List.map_cons, List.map_nil, List.length_cons, List.length_nil, List.replicate, Nat.sub_self, List.append_nil, List.cons_append, List.nil_append, List.getElem?_cons_zero, List.getElem?_cons_succ, List.set_cons_zero, List.set_cons_succ, Nat.reduceSub, Nat.reduceAdd, ite_true, ite_false, if_true, if_false, Bool.false_eq_true, Bool.true_eq_false, Bool.not_true, Bool.not_false, Option.some.injEq, nrm_non, nrm_bl, nrm_int, nrm_str, nrm_ty, nrm_lst, nrm_tupC, nrm_dct, nrm_scr, nrm_setL, wFgt, tyN_non, tyN_bl, tyN_int, tyN_str, tyN_lst, tyN_tup, tyN_dct, keyD_int, keyD_str, isA, okT, beq_self_eq_true, String.reduceBEq, Bool.or_false, Bool.or_true, Bool.and_false, Bool.and_true, Bool.true_or, Bool.false_or, Bool.true_and, Bool.false_and, true_and, and_true, List.any_cons, List.any_nil, tyNames, Option.map_some, iRn1, iRn2, iRn3, iLst, nIt, iTp, iEn, iZp, iSt, wipeD, atI0, atI1, atI2, atI3, ixN0, ixN1, ixN2, ixN3, wSub, wLt, wLe, wGt, wGe, wDiv, wMod, wPow, wShl, Mp.set_same, Mp.set_set, cSortedA, cDictP, wNewD, wEqS, nEqS, wFrzT, mExt, mCnt, nIxL, sAugS, wSlS, wJoin, cSumL, dUnl, cSortLL, cMinLL, wLenSetT, wLenDictT, mIndexB, wLenSetJ, wAddT, wSortSet, wDNewT, sDPutT, cSortDT, wBMd, wDGet1, wDGet2, mUpd, wPairs, wDisp, wLtS, cMinS, cListD])
  refine ⟨⟨⟨by omega, by omega⟩, (by first | omega | (unfold Sz; omega) | (simp only [List.length_map, List.length_append, List.length_cons, List.length_nil, rngI_length, List.length_take, List.length_drop, List.length_reverse]; unfold Sz; omega))⟩, ⟨⟨by omega, by omega⟩, ⟨by omega, by omega⟩, (by first | omega | (unfold Sz; omega) | (simp only [List.length_map, List.length_append, List.length_cons, List.length_nil, rngI_length, List.length_take, List.length_drop, List.length_reverse]; unfold Sz; omega))⟩, ?_⟩
  refine seq_mid (fun ρ' M' => ∃ (fs ss : List Int) (y2 y3 y4 : Option D), ρ' = [some (.int n), some (.str (kindS out)), y2, y3, y4, some (.lst (fs.map .int)), some (.lst (ss.map .int)), none, none, none] ∧ M = M' ∧ fs.length ≤ n ∧ ss.length ≤ n ∧ inL fs ss = faroI n out) (fun nx hnx => ?_) (fun ρ' M' w => ?_)
  · rw [rngD_ints, rngD_ints]
    cases out
    · simp only [sRet, sRetN, sIf, sDrop, sNever, sNext, sBreak, sCont, sAsg, sPar, sPar3, sAug, dName, dNil, dCons, dTup, dSub, sSetL, wVar, wC, wFrz, wFrzK, wOp, wAdd, nAdd, nI, nI0, wMul, nMul, wNeg, wEq, nEq, wIsN, wB, wAndT, wOrT, wNotT, wAndV, wOrV, wNotV, wIfE, wChain, aNil, aCons, aStar, wLst, wTup, wIx, nIx, pNo, pSo, wSl, wRev, wRevE, mIndex, wLenSet, cRepr, wIsB, wCB, cLen, cAll, cSum, cMax, cMin, cSorted, cInt, cList, cTuple, cIsi, wBits, wLRg, wBM, wBM0, mChg, wDGet, wDIn, wDNew, sDPutD, wIn, nIn, wCall, wCallK, wNew, tYesD, startD, List.map_cons, List.map_nil, List.length_cons, List.length_nil, List.replicate, Nat.sub_self, List.append_nil, List.cons_append, List.nil_append, List.getElem?_cons_zero, List.getElem?_cons_succ, List.set_cons_zero, List.set_cons_succ, Nat.reduceSub, Nat.reduceAdd, ite_true, ite_false, if_true, if_false, Bool.false_eq_true, Bool.true_eq_false, Bool.not_true, Bool.not_false, Option.some.injEq, nrm_non, nrm_bl, nrm_int, nrm_str, nrm_ty, nrm_lst, nrm_tupC, nrm_dct, nrm_scr, nrm_setL, wFgt, tyN_non, tyN_bl, tyN_int, tyN_str, tyN_lst, tyN_tup, tyN_dct, keyD_int, keyD_str, isA, okT, beq_self_eq_true, String.reduceBEq, Bool.or_false, Bool.or_true, Bool.and_false, Bool.and_true, Bool.true_or, Bool.false_or, Bool.true_and, Bool.false_and, true_and, and_true, List.any_cons, List.any_nil, tyNames, Option.map_some, iRn1, iRn2, iRn3, iLst, nIt, iTp, iEn, iZp, iSt, wipeD, atI0, atI1, atI2, atI3, ixN0, ixN1, ixN2, ixN3, wSub, wLt, wLe, wGt, wGe, wDiv, wMod, wPow, wShl, Mp.set_same, Mp.set_set, cSortedA, cDictP, wNewD, wEqS, nEqS, wFrzT, mExt, mCnt, nIxL, sAugS, wSlS, wJoin, cSumL, dUnl, cSortLL, cMinLL, wLenSetT, wLenDictT, mIndexB, wLenSetJ, wAddT, wSortSet, wDNewT, sDPutT, cSortDT, wBMd, wDGet1, wDGet2, mUpd, wPairs, wDisp, wLtS, cMinS, cListD, ek]
      refine ⟨(by first | omega | (unfold Sz; omega) | (simp only [List.length_map, List.length_append, List.length_cons, List.length_nil, rngI_length, List.length_take, List.length_drop, List.length_reverse]; unfold Sz; omega)), hnx _ _ ⟨_, _, _, _, _, rfl, rfl, ?_, ?_, ?_⟩⟩
      · rw [rngI_length]; omega
      · rw [rngI_length]; omega
      · unfold faroI
        rw [if_neg (by decide), show ((n : Int) - (faroCut n false : Nat)).toNat = n - faroCut n false by omega]
        rfl
    · simp only [sRet, sRetN, sIf, sDrop, sNever, sNext, sBreak, sCont, sAsg, sPar, sPar3, sAug, dName, dNil, dCons, dTup, dSub, sSetL, wVar, wC, wFrz, wFrzK, wOp, wAdd, nAdd, nI, nI0, wMul, nMul, wNeg, wEq, nEq, wIsN, wB, wAndT, wOrT, wNotT, wAndV, wOrV, wNotV, wIfE, wChain, aNil, aCons, aStar, wLst, wTup, wIx, nIx, pNo, pSo, wSl, wRev, wRevE, mIndex, wLenSet, cRepr, wIsB, wCB, cLen, cAll, cSum, cMax, cMin, cSorted, cInt, cList, cTuple, cIsi, wBits, wLRg, wBM, wBM0, mChg, wDGet, wDIn, wDNew, sDPutD, wIn, nIn, wCall, wCallK, wNew, tYesD, startD, List.map_cons, List.map_nil, List.length_cons, List.length_nil, List.replicate, Nat.sub_self, List.append_nil, List.cons_append, List.nil_append, List.getElem?_cons_zero, List.getElem?_cons_succ, List.set_cons_zero, List.set_cons_succ, Nat.reduceSub, Nat.reduceAdd, ite_true, ite_false, if_true, if_false, Bool.false_eq_true, Bool.true_eq_false, Bool.not_true, Bool.not_false, Option.some.injEq, nrm_non, nrm_bl, nrm_int, nrm_str, nrm_ty, nrm_lst, nrm_tupC, nrm_dct, nrm_scr, nrm_setL, wFgt, tyN_non, tyN_bl, tyN_int, tyN_str, tyN_lst, tyN_tup, tyN_dct, keyD_int, keyD_str, isA, okT, beq_self_eq_true, String.reduceBEq, Bool.or_false, Bool.or_true, Bool.and_false, Bool.and_true, Bool.true_or, Bool.false_or, Bool.true_and, Bool.false_and, true_and, and_true, List.any_cons, List.any_nil, tyNames, Option.map_some, iRn1, iRn2, iRn3, iLst, nIt, iTp, iEn, iZp, iSt, wipeD, atI0, atI1, atI2, atI3, ixN0, ixN1, ixN2, ixN3, wSub, wLt, wLe, wGt, wGe, wDiv, wMod, wPow, wShl, Mp.set_same, Mp.set_set, cSortedA, cDictP, wNewD, wEqS, nEqS, wFrzT, mExt, mCnt, nIxL, sAugS, wSlS, wJoin, cSumL, dUnl, cSortLL, cMinLL, wLenSetT, wLenDictT, mIndexB, wLenSetJ, wAddT, wSortSet, wDNewT, sDPutT, cSortDT, wBMd, wDGet1, wDGet2, mUpd, wPairs, wDisp, wLtS, cMinS, cListD, ek]
      refine ⟨(by first | omega | (unfold Sz; omega) | (simp only [List.length_map, List.length_append, List.length_cons, List.length_nil, rngI_length, List.length_take, List.length_drop, List.length_reverse]; unfold Sz; omega)), hnx _ _ ⟨_, _, _, _, _, rfl, rfl, ?_, ?_, ?_⟩⟩
      · rw [rngI_length]; omega
      · rw [rngI_length]; omega
      · unfold faroI
        rw [if_pos rfl, show ((n : Int) - (faroCut n true : Nat)).toNat = n - faroCut n true by omega]
        rfl
  obtain ⟨fs, ss, y2, y3, y4, rfl, rfl, hf, hs, hg⟩ := w
  ((try simp only [sSeq]); simp only [sRet, sRetN, sIf, sDrop, sNever, sNext, sBreak, sCont, sAsg, sPar, sPar3, sAug, dName, dNil, dCons, dTup, dSub, sSetL, wVar, wC, wFrz, wFrzK, wOp, wAdd, nAdd, nI, nI0, wMul, nMul, wNeg, wEq, nEq, wIsN, wB, wAndT, wOrT, wNotT, wAndV, wOrV, wNotV, wIfE, wChain, aNil, aCons, aStar, wLst, wTup, wIx, nIx, pNo, pSo, wSl, wRev, wRevE, mIndex, wLenSet, cRepr, wIsB, wCB, cLen, cAll, cSum, cMax, cMin, cSorted, cInt, cList, cTuple, cIsi, wBits, wLRg, wBM, wBM0, mChg, wDGet, wDIn, wDNew, sDPutD, wIn, nIn, wCall, wCallK, wNew, tYesD, startD, List.map_cons, List.map_nil, List.length_cons, List.length_nil, List.replicate, Nat.sub_self, List.append_nil, List.cons_append, List.nil_append, List.getElem?_cons_zero, List.getElem?_cons_succ, List.set_cons_zero, List.set_cons_succ, Nat.reduceSub, Nat.reduceAdd, ite_true, ite_false, if_true, if_false, Bool.false_eq_true, Bool.true_eq_false, Bool.not_true, Bool.not_false, Option.some.injEq, nrm_non, nrm_bl, nrm_int, nrm_str, nrm_ty, nrm_lst, nrm_tupC, nrm_dct, nrm_scr, nrm_setL, wFgt, tyN_non, tyN_bl, tyN_int, tyN_str, tyN_lst, tyN_tup, tyN_dct, keyD_int, keyD_str, isA, okT, beq_self_eq_true, String.reduceBEq, Bool.or_false, Bool.or_true, Bool.and_false, Bool.and_true, Bool.true_or, Bool.false_or, Bool.true_and, Bool.false_and, true_and, and_true, List.any_cons, List.any_nil, tyNames, Option.map_some, iRn1, iRn2, iRn3, iLst, nIt, iTp, iEn, iZp, iSt, wipeD, atI0, atI1, atI2, atI3, ixN0, ixN1, ixN2, ixN3, wSub, wLt, wLe, wGt, wGe, wDiv, wMod, wPow, wShl, Mp.set_same, Mp.set_set, cSortedA, cDictP, wNewD, wEqS, nEqS, wFrzT, mExt, mCnt, nIxL, sAugS, wSlS, wJoin, cSumL, dUnl, cSortLL, cMinLL, wLenSetT, wLenDictT, mIndexB, wLenSetJ, wAddT, wSortSet, wDNewT, sDPutT, cSortDT, wBMd, wDGet1, wDGet2, mUpd, wPairs, wDisp, wLtS, cMinS, cListD])
  refine ⟨sz0, fun p hp => ?_⟩
  refine for_of (xs := enumD (fs.map .int)) (P := fun _ => True) (fun i ρ M' => ∃ (y8 y9 : Option D), ρ = [some (.int n), some (.str (kindS out)), y2, y3, y4, some (.lst (fs.map .int)), some (.lst (ss.map .int)), some (.ref p), y8, y9] ∧ M' = M.set p (.lst ((inL (fs.take i) ss).map .int)))
    (fun R h => by simp only [sSeq, sRet, sRetN, sIf, sDrop, sNever, sNext, sBreak, sCont, sAsg, sPar, sPar3, sAug, dName, dNil, dCons, dTup, dSub, sSetL, wVar, wC, wFrz, wFrzK, wOp, wAdd, nAdd, nI, nI0, wMul, nMul, wNeg, wEq, nEq, wIsN, wB, wAndT, wOrT, wNotT, wAndV, wOrV, wNotV, wIfE, wChain, aNil, aCons, aStar, wLst, wTup, wIx, nIx, pNo, pSo, wSl, wRev, wRevE, mIndex, wLenSet, cRepr, wIsB, wCB, cLen, cAll, cSum, cMax, cMin, cSorted, cInt, cList, cTuple, cIsi, wBits, wLRg, wBM, wBM0, mChg, wDGet, wDIn, wDNew, sDPutD, wIn, nIn, wCall, wCallK, wNew, tYesD, startD, List.map_cons, List.map_nil, List.length_cons, List.length_nil, List.replicate, Nat.sub_self, List.append_nil, List.cons_append, List.nil_append, List.getElem?_cons_zero, List.getElem?_cons_succ, List.set_cons_zero, List.set_cons_succ, Nat.reduceSub, Nat.reduceAdd, ite_true, ite_false, if_true, if_false, Bool.false_eq_true, Bool.true_eq_false, Bool.not_true, Bool.not_false, Option.some.injEq, nrm_non, nrm_bl, nrm_int, nrm_str, nrm_ty, nrm_lst, nrm_tupC, nrm_dct, nrm_scr, nrm_setL, wFgt, tyN_non, tyN_bl, tyN_int, tyN_str, tyN_lst, tyN_tup, tyN_dct, keyD_int, keyD_str, isA, okT, beq_self_eq_true, String.reduceBEq, Bool.or_false, Bool.or_true, Bool.and_false, Bool.and_true, Bool.true_or, Bool.false_or, Bool.true_and, Bool.false_and, true_and, and_true, List.any_cons, List.any_nil, tyNames, Option.map_some, iRn1, iRn2, iRn3, iLst, nIt, iTp, iEn, iZp, iSt, wipeD, atI0, atI1, atI2, atI3, ixN0, ixN1, ixN2, ixN3, wSub, wLt, wLe, wGt, wGe, wDiv, wMod, wPow, wShl, Mp.set_same, Mp.set_set, cSortedA, cDictP, wNewD, wEqS, nEqS, wFrzT, mExt, mCnt, nIxL, sAugS, wSlS, wJoin, cSumL, dUnl, cSortLL, cMinLL, wLenSetT, wLenDictT, mIndexB, wLenSetJ, wAddT, wSortSet, wDNewT, sDPutT, cSortDT, wBMd, wDGet1, wDGet2, mUpd, wPairs, wDisp, wLtS, cMinS, cListD]; exact h) ⟨_, _, rfl, rfl⟩ (fun i ρ M' _ w => trivial) (fun i d ρ M' hi w => ?_) (fun ρ M' w => ?_)
  · obtain ⟨y8, y9, rfl, rfl⟩ := w
    rw [enumD_rng, List.getElem?_map] at hi
    obtain ⟨j, hj, rfl⟩ := Option.map_eq_some_iff.mp hi
    obtain ⟨hi2, rfl⟩ := rngI_get hj
    have hMp : (M.set p (.lst ((inL (fs.take i) ss).map .int))) p = some (.lst ((inL (fs.take i) ss).map .int)) := Mp.set_same
    rw [show (0 : Int) + (i : Int) * 1 = (i : Int) by omega, Int.toNat_natCast]
    have hc1 : cutD (ss.map D.int) (some (i : Int)) (some ((i : Int) + 1)) = ((ss.drop i).take 1).map D.int := by
      rw [cut_ab (by omega) (by omega), List.map_take, List.map_drop, show ((i : Int) + 1).toNat - (i : Int).toNat = 1 by omega, Int.toNat_natCast]
    have hfi : fs[i]? = some (fs.getD i 0) := by rw [List.getD_eq_getElem?_getD, List.getElem?_eq_getElem hi2]; rfl
    have hsu := inL_succ fs ss i _ hfi
    have hlen := inL_len (fs.take i) ss
    rw [List.length_take] at hlen
    have hc2 : (((ss.drop i).take 1).map D.int).length ≤ 1 := by rw [List.length_map, List.length_take]; omega
    simp only [sSeq, sRet, sRetN, sIf, sDrop, sNever, sNext, sBreak, sCont, sAsg, sPar, sPar3, sAug, dName, dNil, dCons, dTup, dSub, sSetL, wVar, wC, wFrz, wFrzK, wOp, wAdd, nAdd, nI, nI0, wMul, nMul, wNeg, wEq, nEq, wIsN, wB, wAndT, wOrT, wNotT, wAndV, wOrV, wNotV, wIfE, wChain, aNil, aCons, aStar, wLst, wTup, wIx, nIx, pNo, pSo, wSl, wRev, wRevE, mIndex, wLenSet, cRepr, wIsB, wCB, cLen, cAll, cSum, cMax, cMin, cSorted, cInt, cList, cTuple, cIsi, wBits, wLRg, wBM, wBM0, mChg, wDGet, wDIn, wDNew, sDPutD, wIn, nIn, wCall, wCallK, wNew, tYesD, startD, List.map_cons, List.map_nil, List.length_cons, List.length_nil, List.replicate, Nat.sub_self, List.append_nil, List.cons_append, List.nil_append, List.getElem?_cons_zero, List.getElem?_cons_succ, List.set_cons_zero, List.set_cons_succ, Nat.reduceSub, Nat.reduceAdd, ite_true, ite_false, if_true, if_false, Bool.false_eq_true, Bool.true_eq_false, Bool.not_true, Bool.not_false, Option.some.injEq, nrm_non, nrm_bl, nrm_int, nrm_str, nrm_ty, nrm_lst, nrm_tupC, nrm_dct, nrm_scr, nrm_setL, wFgt, tyN_non, tyN_bl, tyN_int, tyN_str, tyN_lst, tyN_tup, tyN_dct, keyD_int, keyD_str, isA, okT, beq_self_eq_true, String.reduceBEq, Bool.or_false, Bool.or_true, Bool.and_false, Bool.and_true, Bool.true_or, Bool.false_or, Bool.true_and, Bool.false_and, true_and, and_true, List.any_cons, List.any_nil, tyNames, Option.map_some, iRn1, iRn2, iRn3, iLst, nIt, iTp, iEn, iZp, iSt, wipeD, atI0, atI1, atI2, atI3, ixN0, ixN1, ixN2, ixN3, wSub, wLt, wLe, wGt, wGe, wDiv, wMod, wPow, wShl, Mp.set_same, Mp.set_set, cSortedA, cDictP, wNewD, wEqS, nEqS, wFrzT, mExt, mCnt, nIxL, sAugS, wSlS, wJoin, cSumL, dUnl, cSortLL, cMinLL, wLenSetT, wLenDictT, mIndexB, wLenSetJ, wAddT, wSortSet, wDNewT, sDPutT, cSortDT, wBMd, wDGet1, wDGet2, mUpd, wPairs, wDisp, wLtS, cMinS, cListD, hc1, isL_lst hMp, hMp]
    refine ⟨(by first | omega | (unfold Sz; omega) | (simp only [List.length_map, List.length_append, List.length_cons, List.length_nil, rngI_length, List.length_take, List.length_drop, List.length_reverse]; unfold Sz; omega)), ?_, _, _, rfl, ?_⟩
    · rw [List.length_map]; unfold Sz; omega
    · rw [hsu, List.map_append, List.map_cons]
  · obtain ⟨y8, y9, rfl, rfl⟩ := w
    rw [enumD_length, List.length_map, List.take_length, hg]
    simp only [sSeq, sRet, sRetN, sIf, sDrop, sNever, sNext, sBreak, sCont, sAsg, sPar, sPar3, sAug, dName, dNil, dCons, dTup, dSub, sSetL, wVar, wC, wFrz, wFrzK, wOp, wAdd, nAdd, nI, nI0, wMul, nMul, wNeg, wEq, nEq, wIsN, wB, wAndT, wOrT, wNotT, wAndV, wOrV, wNotV, wIfE, wChain, aNil, aCons, aStar, wLst, wTup, wIx, nIx, pNo, pSo, wSl, wRev, wRevE, mIndex, wLenSet, cRepr, wIsB, wCB, cLen, cAll, cSum, cMax, cMin, cSorted, cInt, cList, cTuple, cIsi, wBits, wLRg, wBM, wBM0, mChg, wDGet, wDIn, wDNew, sDPutD, wIn, nIn, wCall, wCallK, wNew, tYesD, startD, List.map_cons, List.map_nil, List.length_cons, List.length_nil, List.replicate, Nat.sub_self, List.append_nil, List.cons_append, List.nil_append, List.getElem?_cons_zero, List.getElem?_cons_succ, List.set_cons_zero, List.set_cons_succ, Nat.reduceSub, Nat.reduceAdd, ite_true, ite_false, if_true, if_false, Bool.false_eq_true, Bool.true_eq_false, Bool.not_true, Bool.not_false, Option.some.injEq, nrm_non, nrm_bl, nrm_int, nrm_str, nrm_ty, nrm_lst, nrm_tupC, nrm_dct, nrm_scr, nrm_setL, wFgt, tyN_non, tyN_bl, tyN_int, tyN_str, tyN_lst, tyN_tup, tyN_dct, keyD_int, keyD_str, isA, okT, beq_self_eq_true, String.reduceBEq, Bool.or_false, Bool.or_true, Bool.and_false, Bool.and_true, Bool.true_or, Bool.false_or, Bool.true_and, Bool.false_and, true_and, and_true, List.any_cons, List.any_nil, tyNames, Option.map_some, iRn1, iRn2, iRn3, iLst, nIt, iTp, iEn, iZp, iSt, wipeD, atI0, atI1, atI2, atI3, ixN0, ixN1, ixN2, ixN3, wSub, wLt, wLe, wGt, wGe, wDiv, wMod, wPow, wShl, Mp.set_same, Mp.set_set, cSortedA, cDictP, wNewD, wEqS, nEqS, wFrzT, mExt, mCnt, nIxL, sAugS, wSlS, wJoin, cSumL, dUnl, cSortLL, cMinLL, wLenSetT, wLenDictT, mIndexB, wLenSetJ, wAddT, wSortSet, wDNewT, sDPutT, cSortDT, wBMd, wDGet1, wDGet2, mUpd, wPairs, wDisp, wLtS, cMinS, cListD]
    exact q p hp
abbrev s_number_of : Stmt := topS 14
theorem sc_number_of : FnScope ["many", "kind"] ["many", "kind"] (defScope s_number_of) := ⟨rfl, rfl, rfl, by decide +kernel, rfl, by decide +kernel, by decide +kernel⟩
theorem ok_number_of {f : Addr} {fd : FuncData} (F : FnP K "number_of" s_number_of [] f fd)
    (m_max : mg "max" = none) :
    FnG P w K mg base 1 f fd ["many", "kind"] (spD R_number_of) := by
  have nd := sc_number_of.nd
  refine fnD (k := 0) F sc_number_of len_number_of fun cdv A outer s H E hr hq => ?_
  have hu := hu_of hr
  have hr65 := room65 hr
  have hr66 := room66 hr
  refine ⟨_, _, pss_cons (ps_if (pt_cmpR ((op_eqD hr.units).or op_eq) (pe_op op_mod (pv 0) (pe_int)) (pe_int) (nomark _)) (pss_one (ps_ret (pv 0))) (pss_nil))
      (pss_one (ps_ret (pe_callB (call_maxA rfl) (by rfl) m_max (by decide +kernel) (pa_cons (pe_ifExp (pt_cmpR ((op_eqD hr.units).or op_eq) (pv 1) (pe_str) (nomark _)) (pe_op op_sub (pv 0) (pe_int)) (pe_op op_addA (pv 0) (pe_int))) (pa_cons (pe_int) (pa_nil)))))),
    ts_seq (ts_if (tt_test (tr_op ot_eqS (tr_op (ot_mod) (tr_var (i := 0)) (tr_int)) (tr_int))) (ts_ret (tr_var (i := 0))) (ts_next))
      (ts_ret (tr_cb ct_max (ta_cons (tr_if (tt_test (tr_op ot_eqS (tr_var (i := 1)) (tr_str))) (tr_op (ot_sub) (tr_var (i := 0)) (tr_int)) (tr_op (ot_add (K := K) (md := .frz)) (tr_var (i := 0)) (tr_int))) (ta_cons (tr_int) (ta_nil))))), ?_⟩
  rintro ds M Q ⟨n, out, rfl, q⟩
  have ek : decide (kindS out = "out") = out := by cases out <;> decide
  unfold numI at q
  by_cases h : n % 2 = 1
  · rw [if_pos h] at q
    simp only [sSeq, sRet, sRetN, sIf, sDrop, sNever, sNext, sBreak, sCont, sAsg, sPar, sPar3, sAug, dName, dNil, dCons, dTup, dSub, sSetL, wVar, wC, wFrz, wFrzK, wOp, wAdd, nAdd, nI, nI0, wMul, nMul, wNeg, wEq, nEq, wIsN, wB, wAndT, wOrT, wNotT, wAndV, wOrV, wNotV, wIfE, wChain, aNil, aCons, aStar, wLst, wTup, wIx, nIx, pNo, pSo, wSl, wRev, wRevE, mIndex, wLenSet, cRepr, wIsB, wCB, cLen, cAll, cSum, cMax, cMin, cSorted, cInt, cList, cTuple, cIsi, wBits, wLRg, wBM, wBM0, mChg, wDGet, wDIn, wDNew, sDPutD, wIn, nIn, wCall, wCallK, wNew, tYesD, startD, List.map_cons, List.map_nil, List.length_cons, List.length_nil, List.replicate, Nat.sub_self, List.append_nil, List.cons_append, List.nil_append, List.getElem?_cons_zero, List.getElem?_cons_succ, List.set_cons_zero, List.set_cons_succ, Nat.reduceSub, Nat.reduceAdd, ite_true, ite_false, if_true, if_false, Bool.false_eq_true, Bool.true_eq_false, Bool.not_true, Bool.not_false, Option.some.injEq, nrm_non, nrm_bl, nrm_int, nrm_str, nrm_ty, nrm_lst, nrm_tupC, nrm_dct, nrm_scr, nrm_setL, wFgt, tyN_non, tyN_bl, tyN_int, tyN_str, tyN_lst, tyN_tup, tyN_dct, keyD_int, keyD_str, isA, okT, beq_self_eq_true, String.reduceBEq, Bool.or_false, Bool.or_true, Bool.and_false, Bool.and_true, Bool.true_or, Bool.false_or, Bool.true_and, Bool.false_and, true_and, and_true, List.any_cons, List.any_nil, tyNames, Option.map_some, iRn1, iRn2, iRn3, iLst, nIt, iTp, iEn, iZp, iSt, wipeD, atI0, atI1, atI2, atI3, ixN0, ixN1, ixN2, ixN3, wSub, wLt, wLe, wGt, wGe, wDiv, wMod, wPow, wShl, Mp.set_same, Mp.set_set, cSortedA, cDictP, wNewD, wEqS, nEqS, wFrzT, mExt, mCnt, nIxL, sAugS, wSlS, wJoin, cSumL, dUnl, cSortLL, cMinLL, wLenSetT, wLenDictT, mIndexB, wLenSetJ, wAddT, wSortSet, wDNewT, sDPutT, cSortDT, wBMd, wDGet1, wDGet2, mUpd, wPairs, wDisp, wLtS, cMinS, cListD, h, decide_true]
    exact ⟨by decide, q⟩
  · rw [if_neg h] at q
    simp only [sSeq, sRet, sRetN, sIf, sDrop, sNever, sNext, sBreak, sCont, sAsg, sPar, sPar3, sAug, dName, dNil, dCons, dTup, dSub, sSetL, wVar, wC, wFrz, wFrzK, wOp, wAdd, nAdd, nI, nI0, wMul, nMul, wNeg, wEq, nEq, wIsN, wB, wAndT, wOrT, wNotT, wAndV, wOrV, wNotV, wIfE, wChain, aNil, aCons, aStar, wLst, wTup, wIx, nIx, pNo, pSo, wSl, wRev, wRevE, mIndex, wLenSet, cRepr, wIsB, wCB, cLen, cAll, cSum, cMax, cMin, cSorted, cInt, cList, cTuple, cIsi, wBits, wLRg, wBM, wBM0, mChg, wDGet, wDIn, wDNew, sDPutD, wIn, nIn, wCall, wCallK, wNew, tYesD, startD, List.map_cons, List.map_nil, List.length_cons, List.length_nil, List.replicate, Nat.sub_self, List.append_nil, List.cons_append, List.nil_append, List.getElem?_cons_zero, List.getElem?_cons_succ, List.set_cons_zero, List.set_cons_succ, Nat.reduceSub, Nat.reduceAdd, ite_true, ite_false, if_true, if_false, Bool.false_eq_true, Bool.true_eq_false, Bool.not_true, Bool.not_false, Option.some.injEq, nrm_non, nrm_bl, nrm_int, nrm_str, nrm_ty, nrm_lst, nrm_tupC, nrm_dct, nrm_scr, nrm_setL, wFgt, tyN_non, tyN_bl, tyN_int, tyN_str, tyN_lst, tyN_tup, tyN_dct, keyD_int, keyD_str, isA, okT, beq_self_eq_true, String.reduceBEq, Bool.or_false, Bool.or_true, Bool.and_false, Bool.and_true, Bool.true_or, Bool.false_or, Bool.true_and, Bool.false_and, true_and, and_true, List.any_cons, List.any_nil, tyNames, Option.map_some, iRn1, iRn2, iRn3, iLst, nIt, iTp, iEn, iZp, iSt, wipeD, atI0, atI1, atI2, atI3, ixN0, ixN1, ixN2, ixN3, wSub, wLt, wLe, wGt, wGe, wDiv, wMod, wPow, wShl, Mp.set_same, Mp.set_set, cSortedA, cDictP, wNewD, wEqS, nEqS, wFrzT, mExt, mCnt, nIxL, sAugS, wSlS, wJoin, cSumL, dUnl, cSortLL, cMinLL, wLenSetT, wLenDictT, mIndexB, wLenSetJ, wAddT, wSortSet, wDNewT, sDPutT, cSortDT, wBMd, wDGet1, wDGet2, mUpd, wPairs, wDisp, wLtS, cMinS, cListD, h, decide_false, ek]
    refine ⟨by decide, ?_⟩
    cases out
    · (try simp only [sSeq, sRet, sRetN, sIf, sDrop, sNever, sNext, sBreak, sCont, sAsg, sPar, sPar3, sAug, dName, dNil, dCons, dTup, dSub, sSetL, wVar, wC, wFrz, wFrzK, wOp, wAdd, nAdd, nI, nI0, wMul, nMul, wNeg, wEq, nEq, wIsN, wB, wAndT, wOrT, wNotT, wAndV, wOrV, wNotV, wIfE, wChain, aNil, aCons, aStar, wLst, wTup, wIx, nIx, pNo, pSo, wSl, wRev, wRevE, mIndex, wLenSet, cRepr, wIsB, wCB, cLen, cAll, cSum, cMax, cMin, cSorted, cInt, cList, cTuple, cIsi, wBits, wLRg, wBM, wBM0, mChg, wDGet, wDIn, wDNew, sDPutD, wIn, nIn, wCall, wCallK, wNew, tYesD, startD, List.map_cons, List.map_nil, List.length_cons, List.length_nil, List.replicate, Nat.sub_self, List.append_nil, List.cons_append, List.nil_append, List.getElem?_cons_zero, List.getElem?_cons_succ, List.set_cons_zero, List.set_cons_succ, Nat.reduceSub, Nat.reduceAdd, ite_true, ite_false, if_true, if_false, Bool.false_eq_true, Bool.true_eq_false, Bool.not_true, Bool.not_false, Option.some.injEq, nrm_non, nrm_bl, nrm_int, nrm_str, nrm_ty, nrm_lst, nrm_tupC, nrm_dct, nrm_scr, nrm_setL, wFgt, tyN_non, tyN_bl, tyN_int, tyN_str, tyN_lst, tyN_tup, tyN_dct, keyD_int, keyD_str, isA, okT, beq_self_eq_true, String.reduceBEq, Bool.or_false, Bool.or_true, Bool.and_false, Bool.and_true, Bool.true_or, Bool.false_or, Bool.true_and, Bool.false_and, true_and, and_true, List.any_cons, List.any_nil, tyNames, Option.map_some, iRn1, iRn2, iRn3, iLst, nIt, iTp, iEn, iZp, iSt, wipeD, atI0, atI1, atI2, atI3, ixN0, ixN1, ixN2, ixN3, wSub, wLt, wLe, wGt, wGe, wDiv, wMod, wPow, wShl, Mp.set_same, Mp.set_set, cSortedA, cDictP, wNewD, wEqS, nEqS, wFrzT, mExt, mCnt, nIxL, sAugS, wSlS, wJoin, cSumL, dUnl, cSortLL, cMinLL, wLenSetT, wLenDictT, mIndexB, wLenSetJ, wAddT, wSortSet, wDNewT, sDPutT, cSortDT, wBMd, wDGet1, wDGet2, mUpd, wPairs, wDisp, wLtS, cMinS, cListD])
      exact q
    · (try simp only [sSeq, sRet, sRetN, sIf, sDrop, sNever, sNext, sBreak, sCont, sAsg, sPar, sPar3, sAug, dName, dNil, dCons, dTup, dSub, sSetL, wVar, wC, wFrz, wFrzK, wOp, wAdd, nAdd, nI, nI0, wMul, nMul, wNeg, wEq, nEq, wIsN, wB, wAndT, wOrT, wNotT, wAndV, wOrV, wNotV, wIfE, wChain, aNil, aCons, aStar, wLst, wTup, wIx, nIx, pNo, pSo, wSl, wRev, wRevE, mIndex, wLenSet, cRepr, wIsB, wCB, cLen, cAll, cSum, cMax, cMin, cSorted, cInt, cList, cTuple, cIsi, wBits, wLRg, wBM, wBM0, mChg, wDGet, wDIn, wDNew, sDPutD, wIn, nIn, wCall, wCallK, wNew, tYesD, startD, List.map_cons, List.map_nil, List.length_cons, List.length_nil, List.replicate, Nat.sub_self, List.append_nil, List.cons_append, List.nil_append, List.getElem?_cons_zero, List.getElem?_cons_succ, List.set_cons_zero, List.set_cons_succ, Nat.reduceSub, Nat.reduceAdd, ite_true, ite_false, if_true, if_false, Bool.false_eq_true, Bool.true_eq_false, Bool.not_true, Bool.not_false, Option.some.injEq, nrm_non, nrm_bl, nrm_int, nrm_str, nrm_ty, nrm_lst, nrm_tupC, nrm_dct, nrm_scr, nrm_setL, wFgt, tyN_non, tyN_bl, tyN_int, tyN_str, tyN_lst, tyN_tup, tyN_dct, keyD_int, keyD_str, isA, okT, beq_self_eq_true, String.reduceBEq, Bool.or_false, Bool.or_true, Bool.and_false, Bool.and_true, Bool.true_or, Bool.false_or, Bool.true_and, Bool.false_and, true_and, and_true, List.any_cons, List.any_nil, tyNames, Option.map_some, iRn1, iRn2, iRn3, iLst, nIt, iTp, iEn, iZp, iSt, wipeD, atI0, atI1, atI2, atI3, ixN0, ixN1, ixN2, ixN3, wSub, wLt, wLe, wGt, wGe, wDiv, wMod, wPow, wShl, Mp.set_same, Mp.set_set, cSortedA, cDictP, wNewD, wEqS, nEqS, wFrzT, mExt, mCnt, nIxL, sAugS, wSlS, wJoin, cSumL, dUnl, cSortLL, cMinLL, wLenSetT, wLenDictT, mIndexB, wLenSetJ, wAddT, wSortSet, wDNewT, sDPutT, cSortDT, wBMd, wDGet1, wDGet2, mUpd, wPairs, wDisp, wLtS, cMinS, cListD])
      exact q
abbrev s_is_word : Stmt := topS 15
theorem sc_is_word : FnScope ["value", "sign"] ["value"] (defScope s_is_word) := ⟨rfl, rfl, rfl, by decide +kernel, rfl, by decide +kernel, by decide +kernel⟩
theorem ok_is_word {f : Addr} {fd : FuncData} (F : FnP K "is_word" s_is_word [] f fd)
    (m_isinstance : mg "isinstance" = none)
    (m_str : mg "str" = none)
    (m_all : mg "all" = none) :
    FnG P w K mg base 1 f fd ["value"] (spD R_is_word) := by
  have nd := sc_is_word.nd
  refine fnD (k := 0) F sc_is_word len_is_word fun cdv A outer s H E hr hq => ?_
  have hu := hu_of hr
  have hr65 := room65 hr
  have hr66 := room66 hr
  refine ⟨_, _, pss_one (ps_ret (pe_and (pe_callB call_isiA (by rfl) m_isinstance (by decide +kernel) (pa_cons (pv 0) (pa_cons (pe_bltn (v := .ty "str") (by rfl) m_str (by decide +kernel) rfl) (pa_nil)))) (pe_one (pe_callB (cr_all rfl) (by rfl) m_all (by decide +kernel) (pa_cons (pe_lc (own := [("sign", 1)]) (by rfl) nd (pi_str (pv 0)) (blkOk_by (by kernel_rfl)) (fun _ _ _ _ _ => pg_name (i := 1) nd rfl (by first | exact .inl rfl | exact .inr rfl)) (fun _ _ _ _ _ => pts_nil) (fun _ _ _ _ _ => pe_cmpR (op_inA hr65) (pv 1) (pe_tup (pa_cons (pe_str) (pa_cons (pe_str) (pa_nil)))) (by rfl))) (pa_nil)))))),
    ts_ret (tr_and (tr_cb ct_isi (ta_cons (tr_var (i := 0)) (ta_cons (tr_ty) (ta_nil)))) (tr_cb ct_all (ta_cons (tr_lc (md := .frz) (ti_str (tr_var (i := 0))) (tc_name (i := 1) (by decide)) (tt_yes) (tr_op ot_in (tr_var (i := 1)) (tr_tup (ta_cons (tr_str) (ta_cons (tr_str) (ta_nil)))))) (ta_nil)))), ?_⟩
  rintro ds M Q ⟨bs, rfl, hl, q⟩
  simp only [sSeq, sRet, sRetN, sIf, sDrop, sNever, sNext, sBreak, sCont, sAsg, sPar, sPar3, sAug, dName, dNil, dCons, dTup, dSub, sSetL, wVar, wC, wFrz, wFrzK, wOp, wAdd, nAdd, nI, nI0, wMul, nMul, wNeg, wEq, nEq, wIsN, wB, wAndT, wOrT, wNotT, wAndV, wOrV, wNotV, wIfE, wChain, aNil, aCons, aStar, wLst, wTup, wIx, nIx, pNo, pSo, wSl, wRev, wRevE, mIndex, wLenSet, cRepr, wIsB, wCB, cLen, cAll, cSum, cMax, cMin, cSorted, cInt, cList, cTuple, cIsi, wBits, wLRg, wBM, wBM0, mChg, wDGet, wDIn, wDNew, sDPutD, wIn, nIn, wCall, wCallK, wNew, tYesD, startD, List.map_cons, List.map_nil, List.length_cons, List.length_nil, List.replicate, Nat.sub_self, List.append_nil, List.cons_append, List.nil_append, List.getElem?_cons_zero, List.getElem?_cons_succ, List.set_cons_zero, List.set_cons_succ, Nat.reduceSub, Nat.reduceAdd, ite_true, ite_false, if_true, if_false, Bool.false_eq_true, Bool.true_eq_false, Bool.not_true, Bool.not_false, Option.some.injEq, nrm_non, nrm_bl, nrm_int, nrm_str, nrm_ty, nrm_lst, nrm_tupC, nrm_dct, nrm_scr, nrm_setL, wFgt, tyN_non, tyN_bl, tyN_int, tyN_str, tyN_lst, tyN_tup, tyN_dct, keyD_int, keyD_str, isA, okT, beq_self_eq_true, String.reduceBEq, Bool.or_false, Bool.or_true, Bool.and_false, Bool.and_true, Bool.true_or, Bool.false_or, Bool.true_and, Bool.false_and, true_and, and_true, List.any_cons, List.any_nil, tyNames, Option.map_some, iRn1, iRn2, iRn3, iLst, nIt, iTp, iEn, iZp, iSt, wipeD, atI0, atI1, atI2, atI3, ixN0, ixN1, ixN2, ixN3, wSub, wLt, wLe, wGt, wGe, wDiv, wMod, wPow, wShl, Mp.set_same, Mp.set_set, cSortedA, cDictP, wNewD, wEqS, nEqS, wFrzT, mExt, mCnt, nIxL, sAugS, wSlS, wJoin, cSumL, dUnl, cSortLL, cMinLL, wLenSetT, wLenDictT, mIndexB, wLenSetJ, wAddT, wSortSet, wDNewT, sDPutT, cSortDT, wBMd, wDGet1, wDGet2, mUpd, wPairs, wDisp, wLtS, cMinS, cListD]
  refine lc_map (xs := bs.map fun b => D.str (sgn b)) (P := fun _ => True) (fun _ => .bl true) (fun R h => by rw [← signs_word] at h; simp only [sSeq, sRet, sRetN, sIf, sDrop, sNever, sNext, sBreak, sCont, sAsg, sPar, sPar3, sAug, dName, dNil, dCons, dTup, dSub, sSetL, wVar, wC, wFrz, wFrzK, wOp, wAdd, nAdd, nI, nI0, wMul, nMul, wNeg, wEq, nEq, wIsN, wB, wAndT, wOrT, wNotT, wAndV, wOrV, wNotV, wIfE, wChain, aNil, aCons, aStar, wLst, wTup, wIx, nIx, pNo, pSo, wSl, wRev, wRevE, mIndex, wLenSet, cRepr, wIsB, wCB, cLen, cAll, cSum, cMax, cMin, cSorted, cInt, cList, cTuple, cIsi, wBits, wLRg, wBM, wBM0, mChg, wDGet, wDIn, wDNew, sDPutD, wIn, nIn, wCall, wCallK, wNew, tYesD, startD, List.map_cons, List.map_nil, List.length_cons, List.length_nil, List.replicate, Nat.sub_self, List.append_nil, List.cons_append, List.nil_append, List.getElem?_cons_zero, List.getElem?_cons_succ, List.set_cons_zero, List.set_cons_succ, Nat.reduceSub, Nat.reduceAdd, ite_true, ite_false, if_true, if_false, Bool.false_eq_true, Bool.true_eq_false, Bool.not_true, Bool.not_false, Option.some.injEq, nrm_non, nrm_bl, nrm_int, nrm_str, nrm_ty, nrm_lst, nrm_tupC, nrm_dct, nrm_scr, nrm_setL, wFgt, tyN_non, tyN_bl, tyN_int, tyN_str, tyN_lst, tyN_tup, tyN_dct, keyD_int, keyD_str, isA, okT, beq_self_eq_true, String.reduceBEq, Bool.or_false, Bool.or_true, Bool.and_false, Bool.and_true, Bool.true_or, Bool.false_or, Bool.true_and, Bool.false_and, true_and, and_true, List.any_cons, List.any_nil, tyNames, Option.map_some, iRn1, iRn2, iRn3, iLst, nIt, iTp, iEn, iZp, iSt, wipeD, atI0, atI1, atI2, atI3, ixN0, ixN1, ixN2, ixN3, wSub, wLt, wLe, wGt, wGe, wDiv, wMod, wPow, wShl, Mp.set_same, Mp.set_set, cSortedA, cDictP, wNewD, wEqS, nEqS, wFrzT, mExt, mCnt, nIxL, sAugS, wSlS, wJoin, cSumL, dUnl, cSortLL, cMinLL, wLenSetT, wLenDictT, mIndexB, wLenSetJ, wAddT, wSortSet, wDNewT, sDPutT, cSortDT, wBMd, wDGet1, wDGet2, mUpd, wPairs, wDisp, wLtS, cMinS, cListD]; exact h) trivial (by rw [List.length_map]; exact (by first | omega | (unfold Sz; omega) | (simp only [List.length_map, List.length_append, List.length_cons, List.length_nil, rngI_length, List.length_take, List.length_drop, List.length_reverse]; unfold Sz; omega))) (fun d hd C c => ?_) ?_
  · obtain ⟨b, hb, rfl⟩ := List.mem_map.mp hd
    have e : (deq (.str "I") (.str (sgn b)) || deq (.str "O") (.str (sgn b))) = true := by
      rw [deq_sgn, deq_sgn]; cases b <;> decide
    simp only [sSeq, sRet, sRetN, sIf, sDrop, sNever, sNext, sBreak, sCont, sAsg, sPar, sPar3, sAug, dName, dNil, dCons, dTup, dSub, sSetL, wVar, wC, wFrz, wFrzK, wOp, wAdd, nAdd, nI, nI0, wMul, nMul, wNeg, wEq, nEq, wIsN, wB, wAndT, wOrT, wNotT, wAndV, wOrV, wNotV, wIfE, wChain, aNil, aCons, aStar, wLst, wTup, wIx, nIx, pNo, pSo, wSl, wRev, wRevE, mIndex, wLenSet, cRepr, wIsB, wCB, cLen, cAll, cSum, cMax, cMin, cSorted, cInt, cList, cTuple, cIsi, wBits, wLRg, wBM, wBM0, mChg, wDGet, wDIn, wDNew, sDPutD, wIn, nIn, wCall, wCallK, wNew, tYesD, startD, List.map_cons, List.map_nil, List.length_cons, List.length_nil, List.replicate, Nat.sub_self, List.append_nil, List.cons_append, List.nil_append, List.getElem?_cons_zero, List.getElem?_cons_succ, List.set_cons_zero, List.set_cons_succ, Nat.reduceSub, Nat.reduceAdd, ite_true, ite_false, if_true, if_false, Bool.false_eq_true, Bool.true_eq_false, Bool.not_true, Bool.not_false, Option.some.injEq, nrm_non, nrm_bl, nrm_int, nrm_str, nrm_ty, nrm_lst, nrm_tupC, nrm_dct, nrm_scr, nrm_setL, wFgt, tyN_non, tyN_bl, tyN_int, tyN_str, tyN_lst, tyN_tup, tyN_dct, keyD_int, keyD_str, isA, okT, beq_self_eq_true, String.reduceBEq, Bool.or_false, Bool.or_true, Bool.and_false, Bool.and_true, Bool.true_or, Bool.false_or, Bool.true_and, Bool.false_and, true_and, and_true, List.any_cons, List.any_nil, tyNames, Option.map_some, iRn1, iRn2, iRn3, iLst, nIt, iTp, iEn, iZp, iSt, wipeD, atI0, atI1, atI2, atI3, ixN0, ixN1, ixN2, ixN3, wSub, wLt, wLe, wGt, wGe, wDiv, wMod, wPow, wShl, Mp.set_same, Mp.set_set, cSortedA, cDictP, wNewD, wEqS, nEqS, wFrzT, mExt, mCnt, nIxL, sAugS, wSlS, wJoin, cSumL, dUnl, cSortLL, cMinLL, wLenSetT, wLenDictT, mIndexB, wLenSetJ, wAddT, wSortSet, wDNewT, sDPutT, cSortDT, wBMd, wDGet1, wDGet2, mUpd, wPairs, wDisp, wLtS, cMinS, cListD, e]
    exact ⟨(by first | omega | (unfold Sz; omega) | (simp only [List.length_map, List.length_append, List.length_cons, List.length_nil, rngI_length, List.length_take, List.length_drop, List.length_reverse]; unfold Sz; omega)), ⟨rfl, rfl⟩, c⟩
  · have e : ((bs.map fun b => D.str (sgn b)).map fun _ => true).all id = true := by rw [List.all_map]; exact List.all_eq_true.mpr fun _ _ => rfl
    simp only [sSeq, sRet, sRetN, sIf, sDrop, sNever, sNext, sBreak, sCont, sAsg, sPar, sPar3, sAug, dName, dNil, dCons, dTup, dSub, sSetL, wVar, wC, wFrz, wFrzK, wOp, wAdd, nAdd, nI, nI0, wMul, nMul, wNeg, wEq, nEq, wIsN, wB, wAndT, wOrT, wNotT, wAndV, wOrV, wNotV, wIfE, wChain, aNil, aCons, aStar, wLst, wTup, wIx, nIx, pNo, pSo, wSl, wRev, wRevE, mIndex, wLenSet, cRepr, wIsB, wCB, cLen, cAll, cSum, cMax, cMin, cSorted, cInt, cList, cTuple, cIsi, wBits, wLRg, wBM, wBM0, mChg, wDGet, wDIn, wDNew, sDPutD, wIn, nIn, wCall, wCallK, wNew, tYesD, startD, List.map_cons, List.map_nil, List.length_cons, List.length_nil, List.replicate, Nat.sub_self, List.append_nil, List.cons_append, List.nil_append, List.getElem?_cons_zero, List.getElem?_cons_succ, List.set_cons_zero, List.set_cons_succ, Nat.reduceSub, Nat.reduceAdd, ite_true, ite_false, if_true, if_false, Bool.false_eq_true, Bool.true_eq_false, Bool.not_true, Bool.not_false, Option.some.injEq, nrm_non, nrm_bl, nrm_int, nrm_str, nrm_ty, nrm_lst, nrm_tupC, nrm_dct, nrm_scr, nrm_setL, wFgt, tyN_non, tyN_bl, tyN_int, tyN_str, tyN_lst, tyN_tup, tyN_dct, keyD_int, keyD_str, isA, okT, beq_self_eq_true, String.reduceBEq, Bool.or_false, Bool.or_true, Bool.and_false, Bool.and_true, Bool.true_or, Bool.false_or, Bool.true_and, Bool.false_and, true_and, and_true, List.any_cons, List.any_nil, tyNames, Option.map_some, iRn1, iRn2, iRn3, iLst, nIt, iTp, iEn, iZp, iSt, wipeD, atI0, atI1, atI2, atI3, ixN0, ixN1, ixN2, ixN3, wSub, wLt, wLe, wGt, wGe, wDiv, wMod, wPow, wShl, Mp.set_same, Mp.set_set, cSortedA, cDictP, wNewD, wEqS, nEqS, wFrzT, mExt, mCnt, nIxL, sAugS, wSlS, wJoin, cSumL, dUnl, cSortLL, cMinLL, wLenSetT, wLenDictT, mIndexB, wLenSetJ, wAddT, wSortSet, wDNewT, sDPutT, cSortDT, wBMd, wDGet1, wDGet2, mUpd, wPairs, wDisp, wLtS, cMinS, cListD, bools_trues, e]
    exact q
abbrev s_kind_of : Stmt := topS 16
theorem sc_kind_of : FnScope ["sign"] ["sign"] (defScope s_kind_of) := ⟨rfl, rfl, rfl, by decide +kernel, rfl, by decide +kernel, by decide +kernel⟩
theorem ok_kind_of {f : Addr} {fd : FuncData} (F : FnP K "kind_of" s_kind_of [] f fd)
     :
    FnG P w K mg base 1 f fd ["sign"] (spD R_kind_of) := by
  have nd := sc_kind_of.nd
  refine fnD (k := 0) F sc_kind_of len_kind_of fun cdv A outer s H E hr hq => ?_
  have hu := hu_of hr
  have hr65 := room65 hr
  have hr66 := room66 hr
  refine ⟨_, _, pss_one (ps_ret (pe_ifExp (pt_cmpR ((op_eqD hr.units).or op_eq) (pv 0) (pe_str) (nomark _)) (pe_str) (pe_str))),
    ts_ret (tr_if (tt_test (tr_op ot_eqS (tr_var (i := 0)) (tr_str))) (tr_str) (tr_str)), ?_⟩
  rintro ds M Q ⟨b, rfl, q⟩
  have ek : decide (sgn b = "I") = b := by cases b <;> decide
  simp only [sSeq, sRet, sRetN, sIf, sDrop, sNever, sNext, sBreak, sCont, sAsg, sPar, sPar3, sAug, dName, dNil, dCons, dTup, dSub, sSetL, wVar, wC, wFrz, wFrzK, wOp, wAdd, nAdd, nI, nI0, wMul, nMul, wNeg, wEq, nEq, wIsN, wB, wAndT, wOrT, wNotT, wAndV, wOrV, wNotV, wIfE, wChain, aNil, aCons, aStar, wLst, wTup, wIx, nIx, pNo, pSo, wSl, wRev, wRevE, mIndex, wLenSet, cRepr, wIsB, wCB, cLen, cAll, cSum, cMax, cMin, cSorted, cInt, cList, cTuple, cIsi, wBits, wLRg, wBM, wBM0, mChg, wDGet, wDIn, wDNew, sDPutD, wIn, nIn, wCall, wCallK, wNew, tYesD, startD, List.map_cons, List.map_nil, List.length_cons, List.length_nil, List.replicate, Nat.sub_self, List.append_nil, List.cons_append, List.nil_append, List.getElem?_cons_zero, List.getElem?_cons_succ, List.set_cons_zero, List.set_cons_succ, Nat.reduceSub, Nat.reduceAdd, ite_true, ite_false, if_true, if_false, Bool.false_eq_true, Bool.true_eq_false, Bool.not_true, Bool.not_false, Option.some.injEq, nrm_non, nrm_bl, nrm_int, nrm_str, nrm_ty, nrm_lst, nrm_tupC, nrm_dct, nrm_scr, nrm_setL, wFgt, tyN_non, tyN_bl, tyN_int, tyN_str, tyN_lst, tyN_tup, tyN_dct, keyD_int, keyD_str, isA, okT, beq_self_eq_true, String.reduceBEq, Bool.or_false, Bool.or_true, Bool.and_false, Bool.and_true, Bool.true_or, Bool.false_or, Bool.true_and, Bool.false_and, true_and, and_true, List.any_cons, List.any_nil, tyNames, Option.map_some, iRn1, iRn2, iRn3, iLst, nIt, iTp, iEn, iZp, iSt, wipeD, atI0, atI1, atI2, atI3, ixN0, ixN1, ixN2, ixN3, wSub, wLt, wLe, wGt, wGe, wDiv, wMod, wPow, wShl, Mp.set_same, Mp.set_set, cSortedA, cDictP, wNewD, wEqS, nEqS, wFrzT, mExt, mCnt, nIxL, sAugS, wSlS, wJoin, cSumL, dUnl, cSortLL, cMinLL, wLenSetT, wLenDictT, mIndexB, wLenSetJ, wAddT, wSortSet, wDNewT, sDPutT, cSortDT, wBMd, wDGet1, wDGet2, mUpd, wPairs, wDisp, wLtS, cMinS, cListD, ek]
  cases b
  · simp only [sSeq, sRet, sRetN, sIf, sDrop, sNever, sNext, sBreak, sCont, sAsg, sPar, sPar3, sAug, dName, dNil, dCons, dTup, dSub, sSetL, wVar, wC, wFrz, wFrzK, wOp, wAdd, nAdd, nI, nI0, wMul, nMul, wNeg, wEq, nEq, wIsN, wB, wAndT, wOrT, wNotT, wAndV, wOrV, wNotV, wIfE, wChain, aNil, aCons, aStar, wLst, wTup, wIx, nIx, pNo, pSo, wSl, wRev, wRevE, mIndex, wLenSet, cRepr, wIsB, wCB, cLen, cAll, cSum, cMax, cMin, cSorted, cInt, cList, cTuple, cIsi, wBits, wLRg, wBM, wBM0, mChg, wDGet, wDIn, wDNew, sDPutD, wIn, nIn, wCall, wCallK, wNew, tYesD, startD, List.map_cons, List.map_nil, List.length_cons, List.length_nil, List.replicate, Nat.sub_self, List.append_nil, List.cons_append, List.nil_append, List.getElem?_cons_zero, List.getElem?_cons_succ, List.set_cons_zero, List.set_cons_succ, Nat.reduceSub, Nat.reduceAdd, ite_true, ite_false, if_true, if_false, Bool.false_eq_true, Bool.true_eq_false, Bool.not_true, Bool.not_false, Option.some.injEq, nrm_non, nrm_bl, nrm_int, nrm_str, nrm_ty, nrm_lst, nrm_tupC, nrm_dct, nrm_scr, nrm_setL, wFgt, tyN_non, tyN_bl, tyN_int, tyN_str, tyN_lst, tyN_tup, tyN_dct, keyD_int, keyD_str, isA, okT, beq_self_eq_true, String.reduceBEq, Bool.or_false, Bool.or_true, Bool.and_false, Bool.and_true, Bool.true_or, Bool.false_or, Bool.true_and, Bool.false_and, true_and, and_true, List.any_cons, List.any_nil, tyNames, Option.map_some, iRn1, iRn2, iRn3, iLst, nIt, iTp, iEn, iZp, iSt, wipeD, atI0, atI1, atI2, atI3, ixN0, ixN1, ixN2, ixN3, wSub, wLt, wLe, wGt, wGe, wDiv, wMod, wPow, wShl, Mp.set_same, Mp.set_set, cSortedA, cDictP, wNewD, wEqS, nEqS, wFrzT, mExt, mCnt, nIxL, sAugS, wSlS, wJoin, cSumL, dUnl, cSortLL, cMinLL, wLenSetT, wLenDictT, mIndexB, wLenSetJ, wAddT, wSortSet, wDNewT, sDPutT, cSortDT, wBMd, wDGet1, wDGet2, mUpd, wPairs, wDisp, wLtS, cMinS, cListD]
    exact q
  · simp only [sSeq, sRet, sRetN, sIf, sDrop, sNever, sNext, sBreak, sCont, sAsg, sPar, sPar3, sAug, dName, dNil, dCons, dTup, dSub, sSetL, wVar, wC, wFrz, wFrzK, wOp, wAdd, nAdd, nI, nI0, wMul, nMul, wNeg, wEq, nEq, wIsN, wB, wAndT, wOrT, wNotT, wAndV, wOrV, wNotV, wIfE, wChain, aNil, aCons, aStar, wLst, wTup, wIx, nIx, pNo, pSo, wSl, wRev, wRevE, mIndex, wLenSet, cRepr, wIsB, wCB, cLen, cAll, cSum, cMax, cMin, cSorted, cInt, cList, cTuple, cIsi, wBits, wLRg, wBM, wBM0, mChg, wDGet, wDIn, wDNew, sDPutD, wIn, nIn, wCall, wCallK, wNew, tYesD, startD, List.map_cons, List.map_nil, List.length_cons, List.length_nil, List.replicate, Nat.sub_self, List.append_nil, List.cons_append, List.nil_append, List.getElem?_cons_zero, List.getElem?_cons_succ, List.set_cons_zero, List.set_cons_succ, Nat.reduceSub, Nat.reduceAdd, ite_true, ite_false, if_true, if_false, Bool.false_eq_true, Bool.true_eq_false, Bool.not_true, Bool.not_false, Option.some.injEq, nrm_non, nrm_bl, nrm_int, nrm_str, nrm_ty, nrm_lst, nrm_tupC, nrm_dct, nrm_scr, nrm_setL, wFgt, tyN_non, tyN_bl, tyN_int, tyN_str, tyN_lst, tyN_tup, tyN_dct, keyD_int, keyD_str, isA, okT, beq_self_eq_true, String.reduceBEq, Bool.or_false, Bool.or_true, Bool.and_false, Bool.and_true, Bool.true_or, Bool.false_or, Bool.true_and, Bool.false_and, true_and, and_true, List.any_cons, List.any_nil, tyNames, Option.map_some, iRn1, iRn2, iRn3, iLst, nIt, iTp, iEn, iZp, iSt, wipeD, atI0, atI1, atI2, atI3, ixN0, ixN1, ixN2, ixN3, wSub, wLt, wLe, wGt, wGe, wDiv, wMod, wPow, wShl, Mp.set_same, Mp.set_set, cSortedA, cDictP, wNewD, wEqS, nEqS, wFrzT, mExt, mCnt, nIxL, sAugS, wSlS, wJoin, cSumL, dUnl, cSortLL, cMinLL, wLenSetT, wLenDictT, mIndexB, wLenSetJ, wAddT, wSortSet, wDNewT, sDPutT, cSortDT, wBMd, wDGet1, wDGet2, mUpd, wPairs, wDisp, wLtS, cMinS, cListD]
    exact q
abbrev s_law_purse : Stmt := topS 25
theorem sc_law_purse : FnScope ["script", "at", "seed"] ["script", "at"] (defScope s_law_purse) := ⟨rfl, rfl, rfl, by decide +kernel, rfl, by decide +kernel, by decide +kernel⟩
theorem ok_law_purse {f : Addr} {fd : FuncData} (F : FnP K "_law_purse" s_law_purse [] f fd)
    (m_sum : mg "sum" = none)
    (m_int : mg "int" = none)
    (m_max : mg "max" = none) :
    FnG P w K mg base 1 f fd ["script", "at"] (spD (R_law_purse K)) := by
  have nd := sc_law_purse.nd
  refine fnD (k := 0) F sc_law_purse (len_law_purse K) fun cdv A outer s H E hr hq => ?_
  have hu := hu_of hr
  have hr65 := room65 hr
  have hr66 := room66 hr
  refine ⟨_, _, pss_cons (ps_set (i := 2) nd rfl (by first | exact .inl rfl | exact .inr rfl) (pe_callB (cr_sum rfl) (by rfl) m_sum (by decide +kernel) (pa_cons (pe_slice sl_list (pv 0) (po_some (pv 1)) (po_some (pe_op op_addA (pv 1) (pe_int)))) (pa_nil))))
      (pss_one (ps_ret (pe_lst (pa_cons (pe_op op_mod (pe_callTy call_int1 (by rfl) m_int (by decide +kernel) (pa_cons (pe_callB (call_maxA rfl) (by rfl) m_max (by decide +kernel) (pa_cons (pe_op op_sub (pv 2) (pe_op op_powW (pe_int) (pe_int))) (pa_cons (pe_int) (pa_nil)))) (pa_nil))) (pe_op op_powW (pe_op op_powW (pe_int) (pe_int)) (pe_int))) (pa_cons (pe_op op_mod (pe_callTy call_int1 (by rfl) m_int (by decide +kernel) (pa_cons (pv 2) (pa_nil))) (pe_int)) (pa_cons (pe_int) (pa_cons (pv 1) (pa_nil)))))))),
    ts_seq (ts_asg (tr_cb ct_sum (ta_cons (tr_sl (md := .frz) (tr_var (i := 0)) (tp_so (tr_var (i := 1))) (tp_so (tr_op (ot_add (K := K) (md := .frz)) (tr_var (i := 1)) (tr_int)))) (ta_nil))) (tg_name (i := 2)))
      (ts_ret (tr_lst (md := .own) (ta_cons (tr_op (ot_mod) (tr_cb ct_int (ta_cons (tr_cb ct_max (ta_cons (tr_op (ot_sub) (tr_var (i := 2)) (tr_op (ot_pow) (tr_int) (tr_int))) (ta_cons (tr_int) (ta_nil)))) (ta_nil))) (tr_op (ot_pow) (tr_op (ot_pow) (tr_int) (tr_int)) (tr_int))) (ta_cons (tr_op (ot_mod) (tr_cb ct_int (ta_cons (tr_var (i := 2)) (ta_nil))) (tr_int)) (ta_cons (tr_int) (ta_cons (tr_var (i := 1)) (ta_nil))))))), ?_⟩
  rintro ds M Q ⟨ns, e, rfl, he, q⟩
  simp only [sSeq, sRet, sRetN, sIf, sDrop, sNever, sNext, sBreak, sCont, sAsg, sPar, sPar3, sAug, dName, dNil, dCons, dTup, dSub, sSetL, wVar, wC, wFrz, wFrzK, wOp, wAdd, nAdd, nI, nI0, wMul, nMul, wNeg, wEq, nEq, wIsN, wB, wAndT, wOrT, wNotT, wAndV, wOrV, wNotV, wIfE, wChain, aNil, aCons, aStar, wLst, wTup, wIx, nIx, pNo, pSo, wSl, wRev, wRevE, mIndex, wLenSet, cRepr, wIsB, wCB, cLen, cAll, cSum, cMax, cMin, cSorted, cInt, cList, cTuple, cIsi, wBits, wLRg, wBM, wBM0, mChg, wDGet, wDIn, wDNew, sDPutD, wIn, nIn, wCall, wCallK, wNew, tYesD, startD, List.map_cons, List.map_nil, List.length_cons, List.length_nil, List.replicate, Nat.sub_self, List.append_nil, List.cons_append, List.nil_append, List.getElem?_cons_zero, List.getElem?_cons_succ, List.set_cons_zero, List.set_cons_succ, Nat.reduceSub, Nat.reduceAdd, ite_true, ite_false, if_true, if_false, Bool.false_eq_true, Bool.true_eq_false, Bool.not_true, Bool.not_false, Option.some.injEq, nrm_non, nrm_bl, nrm_int, nrm_str, nrm_ty, nrm_lst, nrm_tupC, nrm_dct, nrm_scr, nrm_setL, wFgt, tyN_non, tyN_bl, tyN_int, tyN_str, tyN_lst, tyN_tup, tyN_dct, keyD_int, keyD_str, isA, okT, beq_self_eq_true, String.reduceBEq, Bool.or_false, Bool.or_true, Bool.and_false, Bool.and_true, Bool.true_or, Bool.false_or, Bool.true_and, Bool.false_and, true_and, and_true, List.any_cons, List.any_nil, tyNames, Option.map_some, iRn1, iRn2, iRn3, iLst, nIt, iTp, iEn, iZp, iSt, wipeD, atI0, atI1, atI2, atI3, ixN0, ixN1, ixN2, ixN3, wSub, wLt, wLe, wGt, wGe, wDiv, wMod, wPow, wShl, Mp.set_same, Mp.set_set, cSortedA, cDictP, wNewD, wEqS, nEqS, wFrzT, mExt, mCnt, nIxL, sAugS, wSlS, wJoin, cSumL, dUnl, cSortLL, cMinLL, wLenSetT, wLenDictT, mIndexB, wLenSetJ, wAddT, wSortSet, wDNewT, sDPutT, cSortDT, wBMd, wDGet1, wDGet2, mUpd, wPairs, wDisp, wLtS, cMinS, cListD, cut_ints, ints_map]
  have p1 : (0 : Int) < (10 ^ Int.toNat 60) ^ Int.toNat 8 := by decide +kernel
  refine ⟨rfl, ⟨by decide, by decide⟩, ⟨by decide, by decide⟩, ⟨by decide, by decide +kernel⟩, p1, by decide, by unfold Sz; omega, fun p hp => q p _ hp ⟨_, _, _, _, rfl, Int.emod_nonneg _ (by omega), ⟨by omega, by omega⟩, ⟨by omega, by omega⟩, by omega⟩⟩
abbrev s_law_mixed : Stmt := topS 26
theorem sc_law_mixed : FnScope ["seed", "spin", "at", "mixed"] ["seed", "spin", "at"] (defScope s_law_mixed) := ⟨rfl, rfl, rfl, by decide +kernel, rfl, by decide +kernel, by decide +kernel⟩
theorem ok_law_mixed {f : Addr} {fd : FuncData} (F : FnP K "_law_mixed" s_law_mixed [] f fd)
    (m_int : mg "int" = none) :
    FnG P w K mg base 1 f fd ["seed", "spin", "at"] (spD R_law_mixed) := by
  have nd := sc_law_mixed.nd
  refine fnD (k := 0) F sc_law_mixed len_law_mixed fun cdv A outer s H E hr hq => ?_
  have hu := hu_of hr
  have hr65 := room65 hr
  have hr66 := room66 hr
  refine ⟨_, _, pss_cons (ps_set (i := 3) nd rfl (by first | exact .inl rfl | exact .inr rfl) (pe_op op_addA (pe_op op_mulA (pv 0) (pe_int)) (pe_op op_mulA (pe_op op_mulA (pe_int) (pv 1)) (pv 1))))
      (pss_cons (ps_set (i := 3) nd rfl (by first | exact .inl rfl | exact .inr rfl) (pe_op op_mod (pe_callTy call_int1 (by rfl) m_int (by decide +kernel) (pa_cons (pe_op op_addA (pe_op op_addA (pv 3) (pe_op op_mulA (pe_int) (pv 2))) (pv 1)) (pa_nil))) (pe_int)))
      (pss_cons (ps_set (i := 3) nd rfl (by first | exact .inl rfl | exact .inr rfl) (pe_op op_mod (pe_callTy call_int1 (by rfl) m_int (by decide +kernel) (pa_cons (pe_op op_addA (pe_op op_mulA (pv 3) (pv 3)) (pe_int)) (pa_nil))) (pe_int)))
      (pss_one (ps_ret (pe_op op_mod (pe_callTy call_int1 (by rfl) m_int (by decide +kernel) (pa_cons (pe_op op_mulA (pv 3) (pe_int)) (pa_nil))) (pe_int)))))),
    ts_seq (ts_asg (tr_op (ot_add (K := K) (md := .frz)) (tr_op (ot_mul (md := .frz)) (tr_var (i := 0)) (tr_int)) (tr_op (ot_mul (md := .frz)) (tr_op (ot_mul (md := .frz)) (tr_int) (tr_var (i := 1))) (tr_var (i := 1)))) (tg_name (i := 3)))
      (ts_seq (ts_asg (tr_op (ot_mod) (tr_cb ct_int (ta_cons (tr_op (ot_add (K := K) (md := .frz)) (tr_op (ot_add (K := K) (md := .frz)) (tr_var (i := 3)) (tr_op (ot_mul (md := .frz)) (tr_int) (tr_var (i := 2)))) (tr_var (i := 1))) (ta_nil))) (tr_int)) (tg_name (i := 3)))
      (ts_seq (ts_asg (tr_op (ot_mod) (tr_cb ct_int (ta_cons (tr_op (ot_add (K := K) (md := .frz)) (tr_op (ot_mul (md := .frz)) (tr_var (i := 3)) (tr_var (i := 3))) (tr_int)) (ta_nil))) (tr_int)) (tg_name (i := 3)))
      (ts_ret (tr_op (ot_mod) (tr_cb ct_int (ta_cons (tr_op (ot_mul (md := .frz)) (tr_var (i := 3)) (tr_int)) (ta_nil))) (tr_int))))), ?_⟩
  rintro ds M Q ⟨a, b, c, rfl, ha, hb, q⟩
  simp only [sSeq, sRet, sRetN, sIf, sDrop, sNever, sNext, sBreak, sCont, sAsg, sPar, sPar3, sAug, dName, dNil, dCons, dTup, dSub, sSetL, wVar, wC, wFrz, wFrzK, wOp, wAdd, nAdd, nI, nI0, wMul, nMul, wNeg, wEq, nEq, wIsN, wB, wAndT, wOrT, wNotT, wAndV, wOrV, wNotV, wIfE, wChain, aNil, aCons, aStar, wLst, wTup, wIx, nIx, pNo, pSo, wSl, wRev, wRevE, mIndex, wLenSet, cRepr, wIsB, wCB, cLen, cAll, cSum, cMax, cMin, cSorted, cInt, cList, cTuple, cIsi, wBits, wLRg, wBM, wBM0, mChg, wDGet, wDIn, wDNew, sDPutD, wIn, nIn, wCall, wCallK, wNew, tYesD, startD, List.map_cons, List.map_nil, List.length_cons, List.length_nil, List.replicate, Nat.sub_self, List.append_nil, List.cons_append, List.nil_append, List.getElem?_cons_zero, List.getElem?_cons_succ, List.set_cons_zero, List.set_cons_succ, Nat.reduceSub, Nat.reduceAdd, ite_true, ite_false, if_true, if_false, Bool.false_eq_true, Bool.true_eq_false, Bool.not_true, Bool.not_false, Option.some.injEq, nrm_non, nrm_bl, nrm_int, nrm_str, nrm_ty, nrm_lst, nrm_tupC, nrm_dct, nrm_scr, nrm_setL, wFgt, tyN_non, tyN_bl, tyN_int, tyN_str, tyN_lst, tyN_tup, tyN_dct, keyD_int, keyD_str, isA, okT, beq_self_eq_true, String.reduceBEq, Bool.or_false, Bool.or_true, Bool.and_false, Bool.and_true, Bool.true_or, Bool.false_or, Bool.true_and, Bool.false_and, true_and, and_true, List.any_cons, List.any_nil, tyNames, Option.map_some, iRn1, iRn2, iRn3, iLst, nIt, iTp, iEn, iZp, iSt, wipeD, atI0, atI1, atI2, atI3, ixN0, ixN1, ixN2, ixN3, wSub, wLt, wLe, wGt, wGe, wDiv, wMod, wPow, wShl, Mp.set_same, Mp.set_set, cSortedA, cDictP, wNewD, wEqS, nEqS, wFrzT, mExt, mCnt, nIxL, sAugS, wSlS, wJoin, cSumL, dUnl, cSortLL, cMinLL, wLenSetT, wLenDictT, mIndexB, wLenSetJ, wAddT, wSortSet, wDNewT, sDPutT, cSortDT, wBMd, wDGet1, wDGet2, mUpd, wPairs, wDisp, wLtS, cMinS, cListD]
  generalize a * 69069 + 104729 * b * b + 7919 * c + b = x0
  have h1 : 0 ≤ x0 % 2147483647 ∧ x0 % 2147483647 < 2147483647 := by omega
  generalize x0 % 2147483647 = x1 at h1
  generalize x1 * x1 + 40503 = x2
  have h2 : 0 ≤ x2 % 2147483629 ∧ x2 % 2147483629 < 2147483629 := by omega
  generalize x2 % 2147483629 = x3 at h2
  exact ⟨.inl (by omega), .inl (by omega), .inr (.inl (by omega)), .inl (by omega), by omega, .inl (by omega), by omega, .inl (by omega), by omega, q _ (by omega) (by omega)⟩
abbrev s_law_faro : Stmt := topS 30
theorem sc_law_faro : FnScope ["many", "kind", "cut", "upper", "lower", "first", "second", "found", "at"] ["many", "kind"] (defScope s_law_faro) := ⟨rfl, rfl, rfl, by decide +kernel, rfl, by decide +kernel, by decide +kernel⟩
theorem ok_law_faro {f : Addr} {fd : FuncData} (F : FnP K "_law_faro" s_law_faro [] f fd)
    (m_list : mg "list" = none)
    (m_range : mg "range" = none)
    (m_int : mg "int" = none) :
    FnG P w K mg base 1 f fd ["many", "kind"] (spD R_law_faro) := by
  have nd := sc_law_faro.nd
  refine fnD (k := 0) F sc_law_faro len_law_faro fun cdv A outer s H E hr hq => ?_
  have hu := hu_of hr
  have hr65 := room65 hr
  have hr66 := room66 hr
  refine ⟨_, _, pss_cons (ps_set (i := 2) nd rfl (by first | exact .inl rfl | exact .inr rfl) (pe_ifExp (pt_cmpR ((op_eqD hr.units).or op_eq) (pv 1) (pe_str) (nomark _)) (pe_op op_fdivW (pe_op op_addA (pv 0) (pe_int)) (pe_int)) (pe_op op_fdivW (pv 0) (pe_int))))
      (pss_cons (ps_par (i := 3) (j := 4) (by rfl) nd rfl rfl (by decide) rfl rfl (pa_cons (pe_slice sl_list (pe_listRgC rfl (by rfl) m_list (prgA (by rfl) m_range (pa_cons (pv 0) (pa_nil)))) (po_none) (po_some (pv 2))) (pa_cons (pe_slice sl_list (pe_listRgC rfl (by rfl) m_list (prgA (by rfl) m_range (pa_cons (pv 0) (pa_nil)))) (po_some (pv 2)) (po_none)) (pa_nil))) (by rfl))
      (pss_cons (ps_par3 (i := 5) (j := 6) (l := 7) (by rfl) nd rfl rfl rfl (by decide) (by decide) (by decide) rfl rfl rfl (pa_cons (pe_ifExp (pt_cmpR ((op_eqD hr.units).or op_eq) (pv 1) (pe_str) (nomark _)) (pv 3) (pv 4)) (pa_cons (pe_ifExp (pt_cmpR ((op_eqD hr.units).or op_eq) (pv 1) (pe_str) (nomark _)) (pv 4) (pv 3)) (pa_cons (pe_lst (pa_nil)) (pa_nil)))) (by rfl))
      (pss_cons (ps_for PassesOwn.never rfl (pi_range1 (by rfl) m_range (pa_cons (pv 0) (pa_nil))) (pg_name (i := 8) nd rfl (by first | exact .inl rfl | exact .inr rfl)) (pss_one (ps_expr (pe_bm PySem.F.plainAttrs_list PySem.F.slot_list_append PySem.F.type_list_append mt_append (pv 7) (pa_cons (pe_ifExp (pt_cmpR ((op_eqD hr.units).or op_eq) (pe_op op_mod (pe_callTy call_int1 (by rfl) m_int (by decide +kernel) (pa_cons (pv 8) (pa_nil))) (pe_int)) (pe_int) (nomark _)) (pe_ix ix_seq (pv 5) (pe_op op_fdivW (pv 8) (pe_int)) (fun _ _ => rfl)) (pe_ix ix_seq (pv 6) (pe_op op_fdivW (pv 8) (pe_int)) (fun _ _ => rfl))) (pa_nil))))))
      (pss_one (ps_ret (pv 7)))))),
    ts_seq (ts_asg (tr_if (tt_test (tr_op ot_eqS (tr_var (i := 1)) (tr_str))) (tr_op (ot_div) (tr_op (ot_add (K := K) (md := .frz)) (tr_var (i := 0)) (tr_int)) (tr_int)) (tr_op (ot_div) (tr_var (i := 0)) (tr_int))) (tg_name (i := 2)))
      (ts_seq (ts_par (i := 3) (j := 4) (ta_cons (tr_sl (md := .frz) (tr_lrg (md := .frz) (ta_cons (tr_var (i := 0)) (ta_nil))) (tp_no) (tp_so (tr_var (i := 2)))) (ta_cons (tr_sl (md := .frz) (tr_lrg (md := .frz) (ta_cons (tr_var (i := 0)) (ta_nil))) (tp_so (tr_var (i := 2))) (tp_no)) (ta_nil))))
      (ts_seq (ts_par3 (i := 5) (j := 6) (l := 7) (ta_cons (tr_if (tt_test (tr_op ot_eqS (tr_var (i := 1)) (tr_str))) (tr_var (i := 3)) (tr_var (i := 4))) (ta_cons (tr_if (tt_test (tr_op ot_eqS (tr_var (i := 1)) (tr_str))) (tr_var (i := 4)) (tr_var (i := 3))) (ta_cons (tr_lst (md := .own) (ta_nil)) (ta_nil)))))
      (ts_seq (ts_for (ti_rng1 (ta_cons (tr_var (i := 0)) (ta_nil))) (tg_name (i := 8)) (ts_drop (tr_bm mt_appendD (tr_var (i := 7)) (ta_cons (tr_if (tt_test (tr_op ot_eqS (tr_op (ot_mod) (tr_cb ct_int (ta_cons (tr_var (i := 8)) (ta_nil))) (tr_int)) (tr_int))) (tr_op ot_ix (tr_var (i := 5)) (tr_op (ot_div) (tr_var (i := 8)) (tr_int))) (tr_op ot_ix (tr_var (i := 6)) (tr_op (ot_div) (tr_var (i := 8)) (tr_int)))) (ta_nil)))))
      (ts_ret (tr_frz (tr_var (i := 7))))))), ?_⟩
  rintro ds M Q ⟨n, out, rfl, hn, q⟩
  have ek : decide (kindS out = "out") = out := by cases out <;> decide
  refine seq_mid (fun ρ' M' => ρ' = [some (.int n), some (.str (kindS out)), some (.int (if out then (n + 1) / 2 else n / 2 : Nat)), none, none, none, none, none, none] ∧ M = M') (fun nx hnx => ?_) (fun ρ' M' w => ?_)
  · simp only [sRet, sRetN, sIf, sDrop, sNever, sNext, sBreak, sCont, sAsg, sPar, sPar3, sAug, dName, dNil, dCons, dTup, dSub, sSetL, wVar, wC, wFrz, wFrzK, wOp, wAdd, nAdd, nI, nI0, wMul, nMul, wNeg, wEq, nEq, wIsN, wB, wAndT, wOrT, wNotT, wAndV, wOrV, wNotV, wIfE, wChain, aNil, aCons, aStar, wLst, wTup, wIx, nIx, pNo, pSo, wSl, wRev, wRevE, mIndex, wLenSet, cRepr, wIsB, wCB, cLen, cAll, cSum, cMax, cMin, cSorted, cInt, cList, cTuple, cIsi, wBits, wLRg, wBM, wBM0, mChg, wDGet, wDIn, wDNew, sDPutD, wIn, nIn, wCall, wCallK, wNew, tYesD, startD, List.map_cons, List.map_nil, List.length_cons, List.length_nil, List.replicate, Nat.sub_self, List.append_nil, List.cons_append, List.nil_append, List.getElem?_cons_zero, List.getElem?_cons_succ, List.set_cons_zero, List.set_cons_succ, Nat.reduceSub, Nat.reduceAdd, ite_true, ite_false, if_true, if_false, Bool.false_eq_true, Bool.true_eq_false, Bool.not_true, Bool.not_false, Option.some.injEq, nrm_non, nrm_bl, nrm_int, nrm_str, nrm_ty, nrm_lst, nrm_tupC, nrm_dct, nrm_scr, nrm_setL, wFgt, tyN_non, tyN_bl, tyN_int, tyN_str, tyN_lst, tyN_tup, tyN_dct, keyD_int, keyD_str, isA, okT, beq_self_eq_true, String.reduceBEq, Bool.or_false, Bool.or_true, Bool.and_false, Bool.and_true, Bool.true_or, Bool.false_or, Bool.true_and, Bool.false_and, true_and, and_true, List.any_cons, List.any_nil, tyNames, Option.map_some, iRn1, iRn2, iRn3, iLst, nIt, iTp, iEn, iZp, iSt, wipeD, atI0, atI1, atI2, atI3, ixN0, ixN1, ixN2, ixN3, wSub, wLt, wLe, wGt, wGe, wDiv, wMod, wPow, wShl, Mp.set_same, Mp.set_set, cSortedA, cDictP, wNewD, wEqS, nEqS, wFrzT, mExt, mCnt, nIxL, sAugS, wSlS, wJoin, cSumL, dUnl, cSortLL, cMinLL, wLenSetT, wLenDictT, mIndexB, wLenSetJ, wAddT, wSortSet, wDNewT, sDPutT, cSortDT, wBMd, wDGet1, wDGet2, mUpd, wPairs, wDisp, wLtS, cMinS, cListD, ek]
    cases out
    · simp only [sRet, sRetN, sIf, sDrop, sNever, sNext, sBreak, sCont, sAsg, sPar, sPar3, sAug, dName, dNil, dCons, dTup, dSub, sSetL, wVar, wC, wFrz, wFrzK, wOp, wAdd, nAdd, nI, nI0, wMul, nMul, wNeg, wEq, nEq, wIsN, wB, wAndT, wOrT, wNotT, wAndV, wOrV, wNotV, wIfE, wChain, aNil, aCons, aStar, wLst, wTup, wIx, nIx, pNo, pSo, wSl, wRev, wRevE, mIndex, wLenSet, cRepr, wIsB, wCB, cLen, cAll, cSum, cMax, cMin, cSorted, cInt, cList, cTuple, cIsi, wBits, wLRg, wBM, wBM0, mChg, wDGet, wDIn, wDNew, sDPutD, wIn, nIn, wCall, wCallK, wNew, tYesD, startD, List.map_cons, List.map_nil, List.length_cons, List.length_nil, List.replicate, Nat.sub_self, List.append_nil, List.cons_append, List.nil_append, List.getElem?_cons_zero, List.getElem?_cons_succ, List.set_cons_zero, List.set_cons_succ, Nat.reduceSub, Nat.reduceAdd, ite_true, ite_false, if_true, if_false, Bool.false_eq_true, Bool.true_eq_false, Bool.not_true, Bool.not_false, Option.some.injEq, nrm_non, nrm_bl, nrm_int, nrm_str, nrm_ty, nrm_lst, nrm_tupC, nrm_dct, nrm_scr, nrm_setL, wFgt, tyN_non, tyN_bl, tyN_int, tyN_str, tyN_lst, tyN_tup, tyN_dct, keyD_int, keyD_str, isA, okT, beq_self_eq_true, String.reduceBEq, Bool.or_false, Bool.or_true, Bool.and_false, Bool.and_true, Bool.true_or, Bool.false_or, Bool.true_and, Bool.false_and, true_and, and_true, List.any_cons, List.any_nil, tyNames, Option.map_some, iRn1, iRn2, iRn3, iLst, nIt, iTp, iEn, iZp, iSt, wipeD, atI0, atI1, atI2, atI3, ixN0, ixN1, ixN2, ixN3, wSub, wLt, wLe, wGt, wGe, wDiv, wMod, wPow, wShl, Mp.set_same, Mp.set_set, cSortedA, cDictP, wNewD, wEqS, nEqS, wFrzT, mExt, mCnt, nIxL, sAugS, wSlS, wJoin, cSumL, dUnl, cSortLL, cMinLL, wLenSetT, wLenDictT, mIndexB, wLenSetJ, wAddT, wSortSet, wDNewT, sDPutT, cSortDT, wBMd, wDGet1, wDGet2, mUpd, wPairs, wDisp, wLtS, cMinS, cListD]
      exact ⟨⟨by decide, .inl (by decide)⟩, hnx _ _ ⟨by simp, rfl⟩⟩
    · simp only [sRet, sRetN, sIf, sDrop, sNever, sNext, sBreak, sCont, sAsg, sPar, sPar3, sAug, dName, dNil, dCons, dTup, dSub, sSetL, wVar, wC, wFrz, wFrzK, wOp, wAdd, nAdd, nI, nI0, wMul, nMul, wNeg, wEq, nEq, wIsN, wB, wAndT, wOrT, wNotT, wAndV, wOrV, wNotV, wIfE, wChain, aNil, aCons, aStar, wLst, wTup, wIx, nIx, pNo, pSo, wSl, wRev, wRevE, mIndex, wLenSet, cRepr, wIsB, wCB, cLen, cAll, cSum, cMax, cMin, cSorted, cInt, cList, cTuple, cIsi, wBits, wLRg, wBM, wBM0, mChg, wDGet, wDIn, wDNew, sDPutD, wIn, nIn, wCall, wCallK, wNew, tYesD, startD, List.map_cons, List.map_nil, List.length_cons, List.length_nil, List.replicate, Nat.sub_self, List.append_nil, List.cons_append, List.nil_append, List.getElem?_cons_zero, List.getElem?_cons_succ, List.set_cons_zero, List.set_cons_succ, Nat.reduceSub, Nat.reduceAdd, ite_true, ite_false, if_true, if_false, Bool.false_eq_true, Bool.true_eq_false, Bool.not_true, Bool.not_false, Option.some.injEq, nrm_non, nrm_bl, nrm_int, nrm_str, nrm_ty, nrm_lst, nrm_tupC, nrm_dct, nrm_scr, nrm_setL, wFgt, tyN_non, tyN_bl, tyN_int, tyN_str, tyN_lst, tyN_tup, tyN_dct, keyD_int, keyD_str, isA, okT, beq_self_eq_true, String.reduceBEq, Bool.or_false, Bool.or_true, Bool.and_false, Bool.and_true, Bool.true_or, Bool.false_or, Bool.true_and, Bool.false_and, true_and, and_true, List.any_cons, List.any_nil, tyNames, Option.map_some, iRn1, iRn2, iRn3, iLst, nIt, iTp, iEn, iZp, iSt, wipeD, atI0, atI1, atI2, atI3, ixN0, ixN1, ixN2, ixN3, wSub, wLt, wLe, wGt, wGe, wDiv, wMod, wPow, wShl, Mp.set_same, Mp.set_set, cSortedA, cDictP, wNewD, wEqS, nEqS, wFrzT, mExt, mCnt, nIxL, sAugS, wSlS, wJoin, cSumL, dUnl, cSortLL, cMinLL, wLenSetT, wLenDictT, mIndexB, wLenSetJ, wAddT, wSortSet, wDNewT, sDPutT, cSortDT, wBMd, wDGet1, wDGet2, mUpd, wPairs, wDisp, wLtS, cMinS, cListD]
      exact ⟨⟨by decide, .inl (by decide)⟩, hnx _ _ ⟨by simp, rfl⟩⟩
  obtain ⟨rfl, rfl⟩ := w
  generalize hcut : (if out = true then (n + 1) / 2 else n / 2) = cut
  have hcl : cut ≤ n := by rw [← hcut]; split <;> omega
  have c1 := cut_take (xs := (rngI 0 1 n).map D.int) (b := (cut : Int)) (by omega)
  have c2 := cut_drop (xs := (rngI 0 1 n).map D.int) (b := (cut : Int)) (by omega)
  rw [Int.toNat_natCast] at c1 c2
  ((try simp only [sSeq]); simp only [sRet, sRetN, sIf, sDrop, sNever, sNext, sBreak, sCont, sAsg, sPar, sPar3, sAug, dName, dNil, dCons, dTup, dSub, sSetL, wVar, wC, wFrz, wFrzK, wOp, wAdd, nAdd, nI, nI0, wMul, nMul, wNeg, wEq, nEq, wIsN, wB, wAndT, wOrT, wNotT, wAndV, wOrV, wNotV, wIfE, wChain, aNil, aCons, aStar, wLst, wTup, wIx, nIx, pNo, pSo, wSl, wRev, wRevE, mIndex, wLenSet, cRepr, wIsB, wCB, cLen, cAll, cSum, cMax, cMin, cSorted, cInt, cList, cTuple, cIsi, wBits, wLRg, wBM, wBM0, mChg, wDGet, wDIn, wDNew, sDPutD, wIn, nIn, wCall, wCallK, wNew, tYesD, startD, List.map_cons, List.map_nil, List.length_cons, List.length_nil, List.replicate, Nat.sub_self, List.append_nil, List.cons_append, List.nil_append, List.getElem?_cons_zero, List.getElem?_cons_succ, List.set_cons_zero, List.set_cons_succ, Nat.reduceSub, Nat.reduceAdd, ite_true, ite_false, if_true, if_false, Bool.false_eq_true, Bool.true_eq_false, Bool.not_true, Bool.not_false, Option.some.injEq, nrm_non, nrm_bl, nrm_int, nrm_str, nrm_ty, nrm_lst, nrm_tupC, nrm_dct, nrm_scr, nrm_setL, wFgt, tyN_non, tyN_bl, tyN_int, tyN_str, tyN_lst, tyN_tup, tyN_dct, keyD_int, keyD_str, isA, okT, beq_self_eq_true, String.reduceBEq, Bool.or_false, Bool.or_true, Bool.and_false, Bool.and_true, Bool.true_or, Bool.false_or, Bool.true_and, Bool.false_and, true_and, and_true, List.any_cons, List.any_nil, tyNames, Option.map_some, iRn1, iRn2, iRn3, iLst, nIt, iTp, iEn, iZp, iSt, wipeD, atI0, atI1, atI2, atI3, ixN0, ixN1, ixN2, ixN3, wSub, wLt, wLe, wGt, wGe, wDiv, wMod, wPow, wShl, Mp.set_same, Mp.set_set, cSortedA, cDictP, wNewD, wEqS, nEqS, wFrzT, mExt, mCnt, nIxL, sAugS, wSlS, wJoin, cSumL, dUnl, cSortLL, cMinLL, wLenSetT, wLenDictT, mIndexB, wLenSetJ, wAddT, wSortSet, wDNewT, sDPutT, cSortDT, wBMd, wDGet1, wDGet2, mUpd, wPairs, wDisp, wLtS, cMinS, cListD, rngD_ints, c1, c2])
  refine ⟨⟨⟨by omega, by omega⟩, (by first | omega | (unfold Sz; omega) | (simp only [List.length_map, List.length_append, List.length_cons, List.length_nil, rngI_length, List.length_take, List.length_drop, List.length_reverse]; unfold Sz; omega))⟩, ⟨⟨by omega, by omega⟩, (by first | omega | (unfold Sz; omega) | (simp only [List.length_map, List.length_append, List.length_cons, List.length_nil, rngI_length, List.length_take, List.length_drop, List.length_reverse]; unfold Sz; omega))⟩, ?_⟩
  have hq : (List.range n).map (fun a => if a % 2 = 0 then (if out then (rngI 0 1 n).take cut else (rngI 0 1 n).drop cut).getD (a / 2) 0 else (if out then (rngI 0 1 n).drop cut else (rngI 0 1 n).take cut).getD (a / 2) 0) = lawFaro n out := by
    unfold lawFaro; rw [hcut]
  have hln : (rngI 0 1 n).length = n := rngI_length
  refine seq_mid (fun ρ' M' => ∃ (fs ss : List Int) (f : Addr) (y3 y4 : Option D), ρ' = [some (.int n), some (.str (kindS out)), some (.int cut), y3, y4, some (.lst (fs.map .int)), some (.lst (ss.map .int)), some (.ref f), none] ∧ M f = none ∧ M' = M.set f (.lst []) ∧ (∀ a, a < n → (a % 2 = 0 → a / 2 < fs.length) ∧ (a % 2 ≠ 0 → a / 2 < ss.length)) ∧ (List.range n).map (fun a => if a % 2 = 0 then fs.getD (a / 2) 0 else ss.getD (a / 2) 0) = lawFaro n out) (fun nx hnx => ?_) (fun ρ' M' w => ?_)
  · rw [Int.toNat_natCast, c1, c2, ← List.map_take, ← List.map_drop]
    cases out
    · simp only [Bool.false_eq_true, if_false] at hcut hq
      simp only [sRet, sRetN, sIf, sDrop, sNever, sNext, sBreak, sCont, sAsg, sPar, sPar3, sAug, dName, dNil, dCons, dTup, dSub, sSetL, wVar, wC, wFrz, wFrzK, wOp, wAdd, nAdd, nI, nI0, wMul, nMul, wNeg, wEq, nEq, wIsN, wB, wAndT, wOrT, wNotT, wAndV, wOrV, wNotV, wIfE, wChain, aNil, aCons, aStar, wLst, wTup, wIx, nIx, pNo, pSo, wSl, wRev, wRevE, mIndex, wLenSet, cRepr, wIsB, wCB, cLen, cAll, cSum, cMax, cMin, cSorted, cInt, cList, cTuple, cIsi, wBits, wLRg, wBM, wBM0, mChg, wDGet, wDIn, wDNew, sDPutD, wIn, nIn, wCall, wCallK, wNew, tYesD, startD, List.map_cons, List.map_nil, List.length_cons, List.length_nil, List.replicate, Nat.sub_self, List.append_nil, List.cons_append, List.nil_append, List.getElem?_cons_zero, List.getElem?_cons_succ, List.set_cons_zero, List.set_cons_succ, Nat.reduceSub, Nat.reduceAdd, ite_true, ite_false, if_true, if_false, Bool.false_eq_true, Bool.true_eq_false, Bool.not_true, Bool.not_false, Option.some.injEq, nrm_non, nrm_bl, nrm_int, nrm_str, nrm_ty, nrm_lst, nrm_tupC, nrm_dct, nrm_scr, nrm_setL, wFgt, tyN_non, tyN_bl, tyN_int, tyN_str, tyN_lst, tyN_tup, tyN_dct, keyD_int, keyD_str, isA, okT, beq_self_eq_true, String.reduceBEq, Bool.or_false, Bool.or_true, Bool.and_false, Bool.and_true, Bool.true_or, Bool.false_or, Bool.true_and, Bool.false_and, true_and, and_true, List.any_cons, List.any_nil, tyNames, Option.map_some, iRn1, iRn2, iRn3, iLst, nIt, iTp, iEn, iZp, iSt, wipeD, atI0, atI1, atI2, atI3, ixN0, ixN1, ixN2, ixN3, wSub, wLt, wLe, wGt, wGe, wDiv, wMod, wPow, wShl, Mp.set_same, Mp.set_set, cSortedA, cDictP, wNewD, wEqS, nEqS, wFrzT, mExt, mCnt, nIxL, sAugS, wSlS, wJoin, cSumL, dUnl, cSortLL, cMinLL, wLenSetT, wLenDictT, mIndexB, wLenSetJ, wAddT, wSortSet, wDNewT, sDPutT, cSortDT, wBMd, wDGet1, wDGet2, mUpd, wPairs, wDisp, wLtS, cMinS, cListD, ek]
      refine ⟨sz0, fun f hf => hnx _ _ ⟨_, _, f, _, _, rfl, hf, rfl, fun a ha => ?_, hq⟩⟩
      rw [List.length_take, List.length_drop, hln]; omega
    · simp only [if_true] at hcut hq
      simp only [sRet, sRetN, sIf, sDrop, sNever, sNext, sBreak, sCont, sAsg, sPar, sPar3, sAug, dName, dNil, dCons, dTup, dSub, sSetL, wVar, wC, wFrz, wFrzK, wOp, wAdd, nAdd, nI, nI0, wMul, nMul, wNeg, wEq, nEq, wIsN, wB, wAndT, wOrT, wNotT, wAndV, wOrV, wNotV, wIfE, wChain, aNil, aCons, aStar, wLst, wTup, wIx, nIx, pNo, pSo, wSl, wRev, wRevE, mIndex, wLenSet, cRepr, wIsB, wCB, cLen, cAll, cSum, cMax, cMin, cSorted, cInt, cList, cTuple, cIsi, wBits, wLRg, wBM, wBM0, mChg, wDGet, wDIn, wDNew, sDPutD, wIn, nIn, wCall, wCallK, wNew, tYesD, startD, List.map_cons, List.map_nil, List.length_cons, List.length_nil, List.replicate, Nat.sub_self, List.append_nil, List.cons_append, List.nil_append, List.getElem?_cons_zero, List.getElem?_cons_succ, List.set_cons_zero, List.set_cons_succ, Nat.reduceSub, Nat.reduceAdd, ite_true, ite_false, if_true, if_false, Bool.false_eq_true, Bool.true_eq_false, Bool.not_true, Bool.not_false, Option.some.injEq, nrm_non, nrm_bl, nrm_int, nrm_str, nrm_ty, nrm_lst, nrm_tupC, nrm_dct, nrm_scr, nrm_setL, wFgt, tyN_non, tyN_bl, tyN_int, tyN_str, tyN_lst, tyN_tup, tyN_dct, keyD_int, keyD_str, isA, okT, beq_self_eq_true, String.reduceBEq, Bool.or_false, Bool.or_true, Bool.and_false, Bool.and_true, Bool.true_or, Bool.false_or, Bool.true_and, Bool.false_and, true_and, and_true, List.any_cons, List.any_nil, tyNames, Option.map_some, iRn1, iRn2, iRn3, iLst, nIt, iTp, iEn, iZp, iSt, wipeD, atI0, atI1, atI2, atI3, ixN0, ixN1, ixN2, ixN3, wSub, wLt, wLe, wGt, wGe, wDiv, wMod, wPow, wShl, Mp.set_same, Mp.set_set, cSortedA, cDictP, wNewD, wEqS, nEqS, wFrzT, mExt, mCnt, nIxL, sAugS, wSlS, wJoin, cSumL, dUnl, cSortLL, cMinLL, wLenSetT, wLenDictT, mIndexB, wLenSetJ, wAddT, wSortSet, wDNewT, sDPutT, cSortDT, wBMd, wDGet1, wDGet2, mUpd, wPairs, wDisp, wLtS, cMinS, cListD, ek]
      refine ⟨sz0, fun f hf => hnx _ _ ⟨_, _, f, _, _, rfl, hf, rfl, fun a ha => ?_, hq⟩⟩
      rw [List.length_take, List.length_drop, hln]; omega
  obtain ⟨fs, ss, f, y3, y4, rfl, hf, rfl, hb, hl⟩ := w
  refine for_ints (ns := rngI 0 1 n) (P := fun _ => True) (fun i ρ M' => ∃ (y8 : Option D), ρ = [some (.int n), some (.str (kindS out)), some (.int cut), y3, y4, some (.lst (fs.map .int)), some (.lst (ss.map .int)), some (.ref f), y8] ∧ M' = M.set f (.lst (((List.range i).map fun a => if a % 2 = 0 then fs.getD (a / 2) 0 else ss.getD (a / 2) 0).map .int)))
    (fun R h => by simp only [sSeq, sRet, sRetN, sIf, sDrop, sNever, sNext, sBreak, sCont, sAsg, sPar, sPar3, sAug, dName, dNil, dCons, dTup, dSub, sSetL, wVar, wC, wFrz, wFrzK, wOp, wAdd, nAdd, nI, nI0, wMul, nMul, wNeg, wEq, nEq, wIsN, wB, wAndT, wOrT, wNotT, wAndV, wOrV, wNotV, wIfE, wChain, aNil, aCons, aStar, wLst, wTup, wIx, nIx, pNo, pSo, wSl, wRev, wRevE, mIndex, wLenSet, cRepr, wIsB, wCB, cLen, cAll, cSum, cMax, cMin, cSorted, cInt, cList, cTuple, cIsi, wBits, wLRg, wBM, wBM0, mChg, wDGet, wDIn, wDNew, sDPutD, wIn, nIn, wCall, wCallK, wNew, tYesD, startD, List.map_cons, List.map_nil, List.length_cons, List.length_nil, List.replicate, Nat.sub_self, List.append_nil, List.cons_append, List.nil_append, List.getElem?_cons_zero, List.getElem?_cons_succ, List.set_cons_zero, List.set_cons_succ, Nat.reduceSub, Nat.reduceAdd, ite_true, ite_false, if_true, if_false, Bool.false_eq_true, Bool.true_eq_false, Bool.not_true, Bool.not_false, Option.some.injEq, nrm_non, nrm_bl, nrm_int, nrm_str, nrm_ty, nrm_lst, nrm_tupC, nrm_dct, nrm_scr, nrm_setL, wFgt, tyN_non, tyN_bl, tyN_int, tyN_str, tyN_lst, tyN_tup, tyN_dct, keyD_int, keyD_str, isA, okT, beq_self_eq_true, String.reduceBEq, Bool.or_false, Bool.or_true, Bool.and_false, Bool.and_true, Bool.true_or, Bool.false_or, Bool.true_and, Bool.false_and, true_and, and_true, List.any_cons, List.any_nil, tyNames, Option.map_some, iRn1, iRn2, iRn3, iLst, nIt, iTp, iEn, iZp, iSt, wipeD, atI0, atI1, atI2, atI3, ixN0, ixN1, ixN2, ixN3, wSub, wLt, wLe, wGt, wGe, wDiv, wMod, wPow, wShl, Mp.set_same, Mp.set_set, cSortedA, cDictP, wNewD, wEqS, nEqS, wFrzT, mExt, mCnt, nIxL, sAugS, wSlS, wJoin, cSumL, dUnl, cSortLL, cMinLL, wLenSetT, wLenDictT, mIndexB, wLenSetJ, wAddT, wSortSet, wDNewT, sDPutT, cSortDT, wBMd, wDGet1, wDGet2, mUpd, wPairs, wDisp, wLtS, cMinS, cListD]; exact ⟨⟨by omega, by omega⟩, rngD_ints ▸ h⟩) ⟨_, rfl, rfl⟩ (fun _ _ _ _ _ => trivial) (fun i k ρ M' hk w => ?_) (fun ρ M' w => ?_)
  · obtain ⟨y8, rfl, rfl⟩ := w
    obtain ⟨hi, rfl⟩ := rngI_get hk
    rw [show (0 : Int) + (i : Int) * 1 = (i : Int) by omega]
    have hMf : (M.set f (.lst (((List.range i).map fun a => if a % 2 = 0 then fs.getD (a / 2) 0 else ss.getD (a / 2) 0).map D.int))) f = some (.lst (((List.range i).map fun a => if a % 2 = 0 then fs.getD (a / 2) 0 else ss.getD (a / 2) 0).map D.int)) := Mp.set_same
    have hln2 : (((List.range i).map fun a => if a % 2 = 0 then fs.getD (a / 2) 0 else ss.getD (a / 2) 0).map D.int).length < 16777216 := by rw [List.length_map, List.length_map, List.length_range]; omega
    obtain ⟨b1, b2⟩ := hb i hi
    have ed : ((i : Int) / 2).toNat = i / 2 := by omega
    by_cases h : i % 2 = 0
    · have e : decide ((i : Int) % 2 = 0) = true := decide_eq_true (by omega)
      have a0 := atI_int (ns := fs) (i := (i : Int) / 2) (by omega) (by have := b1 h; omega)
      rw [ed] at a0
      simp only [sSeq, sRet, sRetN, sIf, sDrop, sNever, sNext, sBreak, sCont, sAsg, sPar, sPar3, sAug, dName, dNil, dCons, dTup, dSub, sSetL, wVar, wC, wFrz, wFrzK, wOp, wAdd, nAdd, nI, nI0, wMul, nMul, wNeg, wEq, nEq, wIsN, wB, wAndT, wOrT, wNotT, wAndV, wOrV, wNotV, wIfE, wChain, aNil, aCons, aStar, wLst, wTup, wIx, nIx, pNo, pSo, wSl, wRev, wRevE, mIndex, wLenSet, cRepr, wIsB, wCB, cLen, cAll, cSum, cMax, cMin, cSorted, cInt, cList, cTuple, cIsi, wBits, wLRg, wBM, wBM0, mChg, wDGet, wDIn, wDNew, sDPutD, wIn, nIn, wCall, wCallK, wNew, tYesD, startD, List.map_cons, List.map_nil, List.length_cons, List.length_nil, List.replicate, Nat.sub_self, List.append_nil, List.cons_append, List.nil_append, List.getElem?_cons_zero, List.getElem?_cons_succ, List.set_cons_zero, List.set_cons_succ, Nat.reduceSub, Nat.reduceAdd, ite_true, ite_false, if_true, if_false, Bool.false_eq_true, Bool.true_eq_false, Bool.not_true, Bool.not_false, Option.some.injEq, nrm_non, nrm_bl, nrm_int, nrm_str, nrm_ty, nrm_lst, nrm_tupC, nrm_dct, nrm_scr, nrm_setL, wFgt, tyN_non, tyN_bl, tyN_int, tyN_str, tyN_lst, tyN_tup, tyN_dct, keyD_int, keyD_str, isA, okT, beq_self_eq_true, String.reduceBEq, Bool.or_false, Bool.or_true, Bool.and_false, Bool.and_true, Bool.true_or, Bool.false_or, Bool.true_and, Bool.false_and, true_and, and_true, List.any_cons, List.any_nil, tyNames, Option.map_some, iRn1, iRn2, iRn3, iLst, nIt, iTp, iEn, iZp, iSt, wipeD, atI0, atI1, atI2, atI3, ixN0, ixN1, ixN2, ixN3, wSub, wLt, wLe, wGt, wGe, wDiv, wMod, wPow, wShl, Mp.set_same, Mp.set_set, cSortedA, cDictP, wNewD, wEqS, nEqS, wFrzT, mExt, mCnt, nIxL, sAugS, wSlS, wJoin, cSumL, dUnl, cSortLL, cMinLL, wLenSetT, wLenDictT, mIndexB, wLenSetJ, wAddT, wSortSet, wDNewT, sDPutT, cSortDT, wBMd, wDGet1, wDGet2, mUpd, wPairs, wDisp, wLtS, cMinS, cListD, e, a0, isL_lst hMf, hMf, gAppend_ok hln2]
      refine ⟨by decide, ⟨by decide, .inl (by decide)⟩, _, rfl, ?_⟩
      rw [List.range_succ, List.map_append, List.map_append]
      simp only [List.map_cons, List.map_nil, if_pos h]
    · have e : decide ((i : Int) % 2 = 0) = false := decide_eq_false (by omega)
      have a0 := atI_int (ns := ss) (i := (i : Int) / 2) (by omega) (by have := b2 h; omega)
      rw [ed] at a0
      simp only [sSeq, sRet, sRetN, sIf, sDrop, sNever, sNext, sBreak, sCont, sAsg, sPar, sPar3, sAug, dName, dNil, dCons, dTup, dSub, sSetL, wVar, wC, wFrz, wFrzK, wOp, wAdd, nAdd, nI, nI0, wMul, nMul, wNeg, wEq, nEq, wIsN, wB, wAndT, wOrT, wNotT, wAndV, wOrV, wNotV, wIfE, wChain, aNil, aCons, aStar, wLst, wTup, wIx, nIx, pNo, pSo, wSl, wRev, wRevE, mIndex, wLenSet, cRepr, wIsB, wCB, cLen, cAll, cSum, cMax, cMin, cSorted, cInt, cList, cTuple, cIsi, wBits, wLRg, wBM, wBM0, mChg, wDGet, wDIn, wDNew, sDPutD, wIn, nIn, wCall, wCallK, wNew, tYesD, startD, List.map_cons, List.map_nil, List.length_cons, List.length_nil, List.replicate, Nat.sub_self, List.append_nil, List.cons_append, List.nil_append, List.getElem?_cons_zero, List.getElem?_cons_succ, List.set_cons_zero, List.set_cons_succ, Nat.reduceSub, Nat.reduceAdd, ite_true, ite_false, if_true, if_false, Bool.false_eq_true, Bool.true_eq_false, Bool.not_true, Bool.not_false, Option.some.injEq, nrm_non, nrm_bl, nrm_int, nrm_str, nrm_ty, nrm_lst, nrm_tupC, nrm_dct, nrm_scr, nrm_setL, wFgt, tyN_non, tyN_bl, tyN_int, tyN_str, tyN_lst, tyN_tup, tyN_dct, keyD_int, keyD_str, isA, okT, beq_self_eq_true, String.reduceBEq, Bool.or_false, Bool.or_true, Bool.and_false, Bool.and_true, Bool.true_or, Bool.false_or, Bool.true_and, Bool.false_and, true_and, and_true, List.any_cons, List.any_nil, tyNames, Option.map_some, iRn1, iRn2, iRn3, iLst, nIt, iTp, iEn, iZp, iSt, wipeD, atI0, atI1, atI2, atI3, ixN0, ixN1, ixN2, ixN3, wSub, wLt, wLe, wGt, wGe, wDiv, wMod, wPow, wShl, Mp.set_same, Mp.set_set, cSortedA, cDictP, wNewD, wEqS, nEqS, wFrzT, mExt, mCnt, nIxL, sAugS, wSlS, wJoin, cSumL, dUnl, cSortLL, cMinLL, wLenSetT, wLenDictT, mIndexB, wLenSetJ, wAddT, wSortSet, wDNewT, sDPutT, cSortDT, wBMd, wDGet1, wDGet2, mUpd, wPairs, wDisp, wLtS, cMinS, cListD, e, a0, isL_lst hMf, hMf, gAppend_ok hln2]
      refine ⟨by decide, ⟨by decide, .inl (by decide)⟩, _, rfl, ?_⟩
      rw [List.range_succ, List.map_append, List.map_append]
      simp only [List.map_cons, List.map_nil, if_neg h]
  · obtain ⟨y8, rfl, rfl⟩ := w
    rw [rngI_length, hl]
    simp only [sSeq, sRet, sRetN, sIf, sDrop, sNever, sNext, sBreak, sCont, sAsg, sPar, sPar3, sAug, dName, dNil, dCons, dTup, dSub, sSetL, wVar, wC, wFrz, wFrzK, wOp, wAdd, nAdd, nI, nI0, wMul, nMul, wNeg, wEq, nEq, wIsN, wB, wAndT, wOrT, wNotT, wAndV, wOrV, wNotV, wIfE, wChain, aNil, aCons, aStar, wLst, wTup, wIx, nIx, pNo, pSo, wSl, wRev, wRevE, mIndex, wLenSet, cRepr, wIsB, wCB, cLen, cAll, cSum, cMax, cMin, cSorted, cInt, cList, cTuple, cIsi, wBits, wLRg, wBM, wBM0, mChg, wDGet, wDIn, wDNew, sDPutD, wIn, nIn, wCall, wCallK, wNew, tYesD, startD, List.map_cons, List.map_nil, List.length_cons, List.length_nil, List.replicate, Nat.sub_self, List.append_nil, List.cons_append, List.nil_append, List.getElem?_cons_zero, List.getElem?_cons_succ, List.set_cons_zero, List.set_cons_succ, Nat.reduceSub, Nat.reduceAdd, ite_true, ite_false, if_true, if_false, Bool.false_eq_true, Bool.true_eq_false, Bool.not_true, Bool.not_false, Option.some.injEq, nrm_non, nrm_bl, nrm_int, nrm_str, nrm_ty, nrm_lst, nrm_tupC, nrm_dct, nrm_scr, nrm_setL, wFgt, tyN_non, tyN_bl, tyN_int, tyN_str, tyN_lst, tyN_tup, tyN_dct, keyD_int, keyD_str, isA, okT, beq_self_eq_true, String.reduceBEq, Bool.or_false, Bool.or_true, Bool.and_false, Bool.and_true, Bool.true_or, Bool.false_or, Bool.true_and, Bool.false_and, true_and, and_true, List.any_cons, List.any_nil, tyNames, Option.map_some, iRn1, iRn2, iRn3, iLst, nIt, iTp, iEn, iZp, iSt, wipeD, atI0, atI1, atI2, atI3, ixN0, ixN1, ixN2, ixN3, wSub, wLt, wLe, wGt, wGe, wDiv, wMod, wPow, wShl, Mp.set_same, Mp.set_set, cSortedA, cDictP, wNewD, wEqS, nEqS, wFrzT, mExt, mCnt, nIxL, sAugS, wSlS, wJoin, cSumL, dUnl, cSortLL, cMinLL, wLenSetT, wLenDictT, mIndexB, wLenSetJ, wAddT, wSortSet, wDNewT, sDPutT, cSortDT, wBMd, wDGet1, wDGet2, mUpd, wPairs, wDisp, wLtS, cMinS, cListD, Mp.set_same, Mp.set_del hf]
    exact q
abbrev s_law_then : Stmt := topS 31
theorem sc_law_then : FnScope ["one", "other", "place"] ["one", "other"] (defScope s_law_then) := ⟨rfl, rfl, rfl, by decide +kernel, rfl, by decide +kernel, by decide +kernel⟩
theorem ok_law_then {f : Addr} {fd : FuncData} (F : FnP K "_law_then" s_law_then [] f fd)
     :
    FnG P w K mg base 1 f fd ["one", "other"] (spD R_law_then) := by
  have nd := sc_law_then.nd
  refine fnD (k := 0) F sc_law_then len_law_then fun cdv A outer s H E hr hq => ?_
  have hu := hu_of hr
  have hr65 := room65 hr
  have hr66 := room66 hr
  refine ⟨_, _, pss_one (ps_ret (pe_lc (own := [("place", 2)]) (by rfl) nd (pi_list (pv 1)) (blkOk_by (by kernel_rfl)) (fun _ _ _ _ _ => pg_name (i := 2) nd rfl (by first | exact .inl rfl | exact .inr rfl)) (fun _ _ _ _ _ => pts_nil) (fun _ _ _ _ _ => pe_ix ix_seq (pv 0) (pv 2) (fun _ _ => rfl)))),
    ts_ret (tr_lc (md := .frz) (ti_list (tr_var (i := 1))) (tc_name (i := 2) (by decide)) (tt_yes) (tr_op ot_ix (tr_var (i := 0)) (tr_var (i := 2)))), ?_⟩
  rintro ds M Q ⟨ns, ms, rfl, hl, hb, q⟩
  simp only [sSeq, sRet, sRetN, sIf, sDrop, sNever, sNext, sBreak, sCont, sAsg, sPar, sPar3, sAug, dName, dNil, dCons, dTup, dSub, sSetL, wVar, wC, wFrz, wFrzK, wOp, wAdd, nAdd, nI, nI0, wMul, nMul, wNeg, wEq, nEq, wIsN, wB, wAndT, wOrT, wNotT, wAndV, wOrV, wNotV, wIfE, wChain, aNil, aCons, aStar, wLst, wTup, wIx, nIx, pNo, pSo, wSl, wRev, wRevE, mIndex, wLenSet, cRepr, wIsB, wCB, cLen, cAll, cSum, cMax, cMin, cSorted, cInt, cList, cTuple, cIsi, wBits, wLRg, wBM, wBM0, mChg, wDGet, wDIn, wDNew, sDPutD, wIn, nIn, wCall, wCallK, wNew, tYesD, startD, List.map_cons, List.map_nil, List.length_cons, List.length_nil, List.replicate, Nat.sub_self, List.append_nil, List.cons_append, List.nil_append, List.getElem?_cons_zero, List.getElem?_cons_succ, List.set_cons_zero, List.set_cons_succ, Nat.reduceSub, Nat.reduceAdd, ite_true, ite_false, if_true, if_false, Bool.false_eq_true, Bool.true_eq_false, Bool.not_true, Bool.not_false, Option.some.injEq, nrm_non, nrm_bl, nrm_int, nrm_str, nrm_ty, nrm_lst, nrm_tupC, nrm_dct, nrm_scr, nrm_setL, wFgt, tyN_non, tyN_bl, tyN_int, tyN_str, tyN_lst, tyN_tup, tyN_dct, keyD_int, keyD_str, isA, okT, beq_self_eq_true, String.reduceBEq, Bool.or_false, Bool.or_true, Bool.and_false, Bool.and_true, Bool.true_or, Bool.false_or, Bool.true_and, Bool.false_and, true_and, and_true, List.any_cons, List.any_nil, tyNames, Option.map_some, iRn1, iRn2, iRn3, iLst, nIt, iTp, iEn, iZp, iSt, wipeD, atI0, atI1, atI2, atI3, ixN0, ixN1, ixN2, ixN3, wSub, wLt, wLe, wGt, wGe, wDiv, wMod, wPow, wShl, Mp.set_same, Mp.set_set, cSortedA, cDictP, wNewD, wEqS, nEqS, wFrzT, mExt, mCnt, nIxL, sAugS, wSlS, wJoin, cSumL, dUnl, cSortLL, cMinLL, wLenSetT, wLenDictT, mIndexB, wLenSetJ, wAddT, wSortSet, wDNewT, sDPutT, cSortDT, wBMd, wDGet1, wDGet2, mUpd, wPairs, wDisp, wLtS, cMinS, cListD]
  refine lc_ints (ns := ms) (P := fun _ => True) (fun m => ns.getD m.toNat 0) (fun R h => by simp only [sSeq, sRet, sRetN, sIf, sDrop, sNever, sNext, sBreak, sCont, sAsg, sPar, sPar3, sAug, dName, dNil, dCons, dTup, dSub, sSetL, wVar, wC, wFrz, wFrzK, wOp, wAdd, nAdd, nI, nI0, wMul, nMul, wNeg, wEq, nEq, wIsN, wB, wAndT, wOrT, wNotT, wAndV, wOrV, wNotV, wIfE, wChain, aNil, aCons, aStar, wLst, wTup, wIx, nIx, pNo, pSo, wSl, wRev, wRevE, mIndex, wLenSet, cRepr, wIsB, wCB, cLen, cAll, cSum, cMax, cMin, cSorted, cInt, cList, cTuple, cIsi, wBits, wLRg, wBM, wBM0, mChg, wDGet, wDIn, wDNew, sDPutD, wIn, nIn, wCall, wCallK, wNew, tYesD, startD, List.map_cons, List.map_nil, List.length_cons, List.length_nil, List.replicate, Nat.sub_self, List.append_nil, List.cons_append, List.nil_append, List.getElem?_cons_zero, List.getElem?_cons_succ, List.set_cons_zero, List.set_cons_succ, Nat.reduceSub, Nat.reduceAdd, ite_true, ite_false, if_true, if_false, Bool.false_eq_true, Bool.true_eq_false, Bool.not_true, Bool.not_false, Option.some.injEq, nrm_non, nrm_bl, nrm_int, nrm_str, nrm_ty, nrm_lst, nrm_tupC, nrm_dct, nrm_scr, nrm_setL, wFgt, tyN_non, tyN_bl, tyN_int, tyN_str, tyN_lst, tyN_tup, tyN_dct, keyD_int, keyD_str, isA, okT, beq_self_eq_true, String.reduceBEq, Bool.or_false, Bool.or_true, Bool.and_false, Bool.and_true, Bool.true_or, Bool.false_or, Bool.true_and, Bool.false_and, true_and, and_true, List.any_cons, List.any_nil, tyNames, Option.map_some, iRn1, iRn2, iRn3, iLst, nIt, iTp, iEn, iZp, iSt, wipeD, atI0, atI1, atI2, atI3, ixN0, ixN1, ixN2, ixN3, wSub, wLt, wLe, wGt, wGe, wDiv, wMod, wPow, wShl, Mp.set_same, Mp.set_set, cSortedA, cDictP, wNewD, wEqS, nEqS, wFrzT, mExt, mCnt, nIxL, sAugS, wSlS, wJoin, cSumL, dUnl, cSortLL, cMinLL, wLenSetT, wLenDictT, mIndexB, wLenSetJ, wAddT, wSortSet, wDNewT, sDPutT, cSortDT, wBMd, wDGet1, wDGet2, mUpd, wPairs, wDisp, wLtS, cMinS, cListD]; exact h) trivial (by first | omega | (unfold Sz; omega) | (simp only [List.length_map, List.length_append, List.length_cons, List.length_nil, rngI_length, List.length_take, List.length_drop, List.length_reverse]; unfold Sz; omega)) (fun m hm C c => ?_) ?_
  · have := hb m hm
    have a0 := atI_int (ns := ns) (i := m) (by omega) (by omega)
    simp only [sSeq, sRet, sRetN, sIf, sDrop, sNever, sNext, sBreak, sCont, sAsg, sPar, sPar3, sAug, dName, dNil, dCons, dTup, dSub, sSetL, wVar, wC, wFrz, wFrzK, wOp, wAdd, nAdd, nI, nI0, wMul, nMul, wNeg, wEq, nEq, wIsN, wB, wAndT, wOrT, wNotT, wAndV, wOrV, wNotV, wIfE, wChain, aNil, aCons, aStar, wLst, wTup, wIx, nIx, pNo, pSo, wSl, wRev, wRevE, mIndex, wLenSet, cRepr, wIsB, wCB, cLen, cAll, cSum, cMax, cMin, cSorted, cInt, cList, cTuple, cIsi, wBits, wLRg, wBM, wBM0, mChg, wDGet, wDIn, wDNew, sDPutD, wIn, nIn, wCall, wCallK, wNew, tYesD, startD, List.map_cons, List.map_nil, List.length_cons, List.length_nil, List.replicate, Nat.sub_self, List.append_nil, List.cons_append, List.nil_append, List.getElem?_cons_zero, List.getElem?_cons_succ, List.set_cons_zero, List.set_cons_succ, Nat.reduceSub, Nat.reduceAdd, ite_true, ite_false, if_true, if_false, Bool.false_eq_true, Bool.true_eq_false, Bool.not_true, Bool.not_false, Option.some.injEq, nrm_non, nrm_bl, nrm_int, nrm_str, nrm_ty, nrm_lst, nrm_tupC, nrm_dct, nrm_scr, nrm_setL, wFgt, tyN_non, tyN_bl, tyN_int, tyN_str, tyN_lst, tyN_tup, tyN_dct, keyD_int, keyD_str, isA, okT, beq_self_eq_true, String.reduceBEq, Bool.or_false, Bool.or_true, Bool.and_false, Bool.and_true, Bool.true_or, Bool.false_or, Bool.true_and, Bool.false_and, true_and, and_true, List.any_cons, List.any_nil, tyNames, Option.map_some, iRn1, iRn2, iRn3, iLst, nIt, iTp, iEn, iZp, iSt, wipeD, atI0, atI1, atI2, atI3, ixN0, ixN1, ixN2, ixN3, wSub, wLt, wLe, wGt, wGe, wDiv, wMod, wPow, wShl, Mp.set_same, Mp.set_set, cSortedA, cDictP, wNewD, wEqS, nEqS, wFrzT, mExt, mCnt, nIxL, sAugS, wSlS, wJoin, cSumL, dUnl, cSortLL, cMinLL, wLenSetT, wLenDictT, mIndexB, wLenSetJ, wAddT, wSortSet, wDNewT, sDPutT, cSortDT, wBMd, wDGet1, wDGet2, mUpd, wPairs, wDisp, wLtS, cMinS, cListD, a0]
    exact c
  · simp only [sSeq, sRet, sRetN, sIf, sDrop, sNever, sNext, sBreak, sCont, sAsg, sPar, sPar3, sAug, dName, dNil, dCons, dTup, dSub, sSetL, wVar, wC, wFrz, wFrzK, wOp, wAdd, nAdd, nI, nI0, wMul, nMul, wNeg, wEq, nEq, wIsN, wB, wAndT, wOrT, wNotT, wAndV, wOrV, wNotV, wIfE, wChain, aNil, aCons, aStar, wLst, wTup, wIx, nIx, pNo, pSo, wSl, wRev, wRevE, mIndex, wLenSet, cRepr, wIsB, wCB, cLen, cAll, cSum, cMax, cMin, cSorted, cInt, cList, cTuple, cIsi, wBits, wLRg, wBM, wBM0, mChg, wDGet, wDIn, wDNew, sDPutD, wIn, nIn, wCall, wCallK, wNew, tYesD, startD, List.map_cons, List.map_nil, List.length_cons, List.length_nil, List.replicate, Nat.sub_self, List.append_nil, List.cons_append, List.nil_append, List.getElem?_cons_zero, List.getElem?_cons_succ, List.set_cons_zero, List.set_cons_succ, Nat.reduceSub, Nat.reduceAdd, ite_true, ite_false, if_true, if_false, Bool.false_eq_true, Bool.true_eq_false, Bool.not_true, Bool.not_false, Option.some.injEq, nrm_non, nrm_bl, nrm_int, nrm_str, nrm_ty, nrm_lst, nrm_tupC, nrm_dct, nrm_scr, nrm_setL, wFgt, tyN_non, tyN_bl, tyN_int, tyN_str, tyN_lst, tyN_tup, tyN_dct, keyD_int, keyD_str, isA, okT, beq_self_eq_true, String.reduceBEq, Bool.or_false, Bool.or_true, Bool.and_false, Bool.and_true, Bool.true_or, Bool.false_or, Bool.true_and, Bool.false_and, true_and, and_true, List.any_cons, List.any_nil, tyNames, Option.map_some, iRn1, iRn2, iRn3, iLst, nIt, iTp, iEn, iZp, iSt, wipeD, atI0, atI1, atI2, atI3, ixN0, ixN1, ixN2, ixN3, wSub, wLt, wLe, wGt, wGe, wDiv, wMod, wPow, wShl, Mp.set_same, Mp.set_set, cSortedA, cDictP, wNewD, wEqS, nEqS, wFrzT, mExt, mCnt, nIxL, sAugS, wSlS, wJoin, cSumL, dUnl, cSortLL, cMinLL, wLenSetT, wLenDictT, mIndexB, wLenSetJ, wAddT, wSortSet, wDNewT, sDPutT, cSortDT, wBMd, wDGet1, wDGet2, mUpd, wPairs, wDisp, wLtS, cMinS, cListD]
    exact q
abbrev s_law_back : Stmt := topS 32
theorem sc_law_back : FnScope ["move", "found", "there", "place"] ["move"] (defScope s_law_back) := ⟨rfl, rfl, rfl, by decide +kernel, rfl, by decide +kernel, by decide +kernel⟩
theorem ok_law_back {f : Addr} {fd : FuncData} (F : FnP K "_law_back" s_law_back [] f fd)
    (m_len : mg "len" = none)
    (m_enumerate : mg "enumerate" = none) :
    FnG P w K mg base 1 f fd ["move"] (spD R_law_back) := by
  have nd := sc_law_back.nd
  refine fnD (k := 0) F sc_law_back len_law_back fun cdv A outer s H E hr hq => ?_
  have hu := hu_of hr
  have hr65 := room65 hr
  have hr66 := room66 hr
  refine ⟨_, _, pss_cons (ps_set (i := 1) nd rfl (by first | exact .inl rfl | exact .inr rfl) (pe_op op_mulA (pe_lst (pa_cons (pe_int) (pa_nil))) (pe_callB call_lenA (by rfl) m_len (by decide +kernel) (pa_cons (pv 0) (pa_nil)))))
      (pss_cons (ps_for PassesOwn.never rfl (pi_enum (by rfl) m_enumerate (pa_cons (pv 0) (pa_nil))) (pg_tup (n := 2) rfl (pgs_cons (pg_name (i := 2) nd rfl (by first | exact .inl rfl | exact .inr rfl)) (pgs_cons (pg_name (i := 3) nd rfl (by first | exact .inl rfl | exact .inr rfl)) (pgs_nil)))) (pss_one (ps_asg (pv 2) (pg_sub (pv 1) (pv 3) set_list))))
      (pss_one (ps_ret (pv 1)))),
    ts_seq (ts_asg (tr_op (ot_mul (md := .own)) (tr_lst (md := .frz) (ta_cons (tr_int) (ta_nil))) (tr_cb ct_len (ta_cons (tr_var (i := 0)) (ta_nil)))) (tg_name (i := 1)))
      (ts_seq (ts_for (ti_enum (ta_cons (tr_var (i := 0)) (ta_nil))) (tg_tup (n := 2) (tgs_cons (tg_name (i := 2)) (tgs_cons (tg_name (i := 3)) (tgs_nil)))) (ts_asg (tr_var (i := 2)) (tg_sub (tr_var (i := 1)) (tr_var (i := 3)) tset_list)))
      (ts_ret (tr_frz (tr_var (i := 1))))), ?_⟩
  rintro ds M Q ⟨x0, ns, rfl, hx0, hz, hx, q⟩
  simp only [sSeq, sRet, sRetN, sIf, sDrop, sNever, sNext, sBreak, sCont, sAsg, sPar, sPar3, sAug, dName, dNil, dCons, dTup, dSub, sSetL, wVar, wC, wFrz, wFrzK, wOp, wAdd, nAdd, nI, nI0, wMul, nMul, wNeg, wEq, nEq, wIsN, wB, wAndT, wOrT, wNotT, wAndV, wOrV, wNotV, wIfE, wChain, aNil, aCons, aStar, wLst, wTup, wIx, nIx, pNo, pSo, wSl, wRev, wRevE, mIndex, wLenSet, cRepr, wIsB, wCB, cLen, cAll, cSum, cMax, cMin, cSorted, cInt, cList, cTuple, cIsi, wBits, wLRg, wBM, wBM0, mChg, wDGet, wDIn, wDNew, sDPutD, wIn, nIn, wCall, wCallK, wNew, tYesD, startD, List.map_cons, List.map_nil, List.length_cons, List.length_nil, List.replicate, Nat.sub_self, List.append_nil, List.cons_append, List.nil_append, List.getElem?_cons_zero, List.getElem?_cons_succ, List.set_cons_zero, List.set_cons_succ, Nat.reduceSub, Nat.reduceAdd, ite_true, ite_false, if_true, if_false, Bool.false_eq_true, Bool.true_eq_false, Bool.not_true, Bool.not_false, Option.some.injEq, nrm_non, nrm_bl, nrm_int, nrm_str, nrm_ty, nrm_lst, nrm_tupC, nrm_dct, nrm_scr, nrm_setL, wFgt, tyN_non, tyN_bl, tyN_int, tyN_str, tyN_lst, tyN_tup, tyN_dct, keyD_int, keyD_str, isA, okT, beq_self_eq_true, String.reduceBEq, Bool.or_false, Bool.or_true, Bool.and_false, Bool.and_true, Bool.true_or, Bool.false_or, Bool.true_and, Bool.false_and, true_and, and_true, List.any_cons, List.any_nil, tyNames, Option.map_some, iRn1, iRn2, iRn3, iLst, nIt, iTp, iEn, iZp, iSt, wipeD, atI0, atI1, atI2, atI3, ixN0, ixN1, ixN2, ixN3, wSub, wLt, wLe, wGt, wGe, wDiv, wMod, wPow, wShl, Mp.set_same, Mp.set_set, cSortedA, cDictP, wNewD, wEqS, nEqS, wFrzT, mExt, mCnt, nIxL, sAugS, wSlS, wJoin, cSumL, dUnl, cSortLL, cMinLL, wLenSetT, wLenDictT, mIndexB, wLenSetJ, wAddT, wSortSet, wDNewT, sDPutT, cSortDT, wBMd, wDGet1, wDGet2, mUpd, wPairs, wDisp, wLtS, cMinS, cListD, hx0]
  have hz' : ns.length ≤ 16777216 := hz
  refine ⟨by unfold Sz; omega, ⟨by rw [List.length_map]; omega, by omega, by rw [List.length_map]; unfold Sz; omega⟩, fun p hp => ?_⟩
  refine for_of (xs := enumD (ns.map D.int)) (P := fun M' => nrm M' x0 = .lst (ns.map .int)) (fun i ρ M' => ∃ y z acc, ρ = [some x0, some (.ref p), y, z] ∧ M' = M.set p (.lst (acc.map .int)) ∧ acc.length = ns.length ∧ i ≤ ns.length ∧ backGo acc i (ns.drop i) = backI ns) (fun R h => by simp only [sSeq, sRet, sRetN, sIf, sDrop, sNever, sNext, sBreak, sCont, sAsg, sPar, sPar3, sAug, dName, dNil, dCons, dTup, dSub, sSetL, wVar, wC, wFrz, wFrzK, wOp, wAdd, nAdd, nI, nI0, wMul, nMul, wNeg, wEq, nEq, wIsN, wB, wAndT, wOrT, wNotT, wAndV, wOrV, wNotV, wIfE, wChain, aNil, aCons, aStar, wLst, wTup, wIx, nIx, pNo, pSo, wSl, wRev, wRevE, mIndex, wLenSet, cRepr, wIsB, wCB, cLen, cAll, cSum, cMax, cMin, cSorted, cInt, cList, cTuple, cIsi, wBits, wLRg, wBM, wBM0, mChg, wDGet, wDIn, wDNew, sDPutD, wIn, nIn, wCall, wCallK, wNew, tYesD, startD, List.map_cons, List.map_nil, List.length_cons, List.length_nil, List.replicate, Nat.sub_self, List.append_nil, List.cons_append, List.nil_append, List.getElem?_cons_zero, List.getElem?_cons_succ, List.set_cons_zero, List.set_cons_succ, Nat.reduceSub, Nat.reduceAdd, ite_true, ite_false, if_true, if_false, Bool.false_eq_true, Bool.true_eq_false, Bool.not_true, Bool.not_false, Option.some.injEq, nrm_non, nrm_bl, nrm_int, nrm_str, nrm_ty, nrm_lst, nrm_tupC, nrm_dct, nrm_scr, nrm_setL, wFgt, tyN_non, tyN_bl, tyN_int, tyN_str, tyN_lst, tyN_tup, tyN_dct, keyD_int, keyD_str, isA, okT, beq_self_eq_true, String.reduceBEq, Bool.or_false, Bool.or_true, Bool.and_false, Bool.and_true, Bool.true_or, Bool.false_or, Bool.true_and, Bool.false_and, true_and, and_true, List.any_cons, List.any_nil, tyNames, Option.map_some, iRn1, iRn2, iRn3, iLst, nIt, iTp, iEn, iZp, iSt, wipeD, atI0, atI1, atI2, atI3, ixN0, ixN1, ixN2, ixN3, wSub, wLt, wLe, wGt, wGe, wDiv, wMod, wPow, wShl, Mp.set_same, Mp.set_set, cSortedA, cDictP, wNewD, wEqS, nEqS, wFrzT, mExt, mCnt, nIxL, sAugS, wSlS, wJoin, cSumL, dUnl, cSortLL, cMinLL, wLenSetT, wLenDictT, mIndexB, wLenSetJ, wAddT, wSortSet, wDNewT, sDPutT, cSortDT, wBMd, wDGet1, wDGet2, mUpd, wPairs, wDisp, wLtS, cMinS, cListD, nrm_set hx0 rfl hp]; exact h)
    ⟨none, none, List.replicate ns.length 0, rfl, by simp [flat_one], by simp, Nat.zero_le _, rfl⟩ (fun i ρ M' _ ⟨y, z, acc, _, e, _⟩ => by rw [e]; exact nrm_set hx0 rfl hp) (fun i x ρ M' hi w => ?_) (fun ρ M' w => ?_)
  · obtain ⟨y, z, acc, rfl, rfl, hl, hle, hg⟩ := w
    have hlt : i < ns.length := by
      have := (List.getElem?_eq_some_iff.mp hi).1
      rwa [enumD_length, List.length_map] at this
    have hn : ns[i]? = some ns[i] := List.getElem?_eq_getElem hlt
    have e := enumD_get (xs := ns.map D.int) (i := i) (d := .int ns[i]) (by rw [List.getElem?_map, hn]; rfl)
    rw [e] at hi
    cases hi
    have hb := hx ns[i] (List.getElem_mem hlt)
    have hix : ixN (acc.map D.int).length ns[i] = some ns[i].toNat := by
      unfold ixN
      rw [List.length_map, hl, if_pos hb.1, if_pos hb.2]
    simp only [sSeq, sRet, sRetN, sIf, sDrop, sNever, sNext, sBreak, sCont, sAsg, sPar, sPar3, sAug, dName, dNil, dCons, dTup, dSub, sSetL, wVar, wC, wFrz, wFrzK, wOp, wAdd, nAdd, nI, nI0, wMul, nMul, wNeg, wEq, nEq, wIsN, wB, wAndT, wOrT, wNotT, wAndV, wOrV, wNotV, wIfE, wChain, aNil, aCons, aStar, wLst, wTup, wIx, nIx, pNo, pSo, wSl, wRev, wRevE, mIndex, wLenSet, cRepr, wIsB, wCB, cLen, cAll, cSum, cMax, cMin, cSorted, cInt, cList, cTuple, cIsi, wBits, wLRg, wBM, wBM0, mChg, wDGet, wDIn, wDNew, sDPutD, wIn, nIn, wCall, wCallK, wNew, tYesD, startD, List.map_cons, List.map_nil, List.length_cons, List.length_nil, List.replicate, Nat.sub_self, List.append_nil, List.cons_append, List.nil_append, List.getElem?_cons_zero, List.getElem?_cons_succ, List.set_cons_zero, List.set_cons_succ, Nat.reduceSub, Nat.reduceAdd, ite_true, ite_false, if_true, if_false, Bool.false_eq_true, Bool.true_eq_false, Bool.not_true, Bool.not_false, Option.some.injEq, nrm_non, nrm_bl, nrm_int, nrm_str, nrm_ty, nrm_lst, nrm_tupC, nrm_dct, nrm_scr, nrm_setL, wFgt, tyN_non, tyN_bl, tyN_int, tyN_str, tyN_lst, tyN_tup, tyN_dct, keyD_int, keyD_str, isA, okT, beq_self_eq_true, String.reduceBEq, Bool.or_false, Bool.or_true, Bool.and_false, Bool.and_true, Bool.true_or, Bool.false_or, Bool.true_and, Bool.false_and, true_and, and_true, List.any_cons, List.any_nil, tyNames, Option.map_some, iRn1, iRn2, iRn3, iLst, nIt, iTp, iEn, iZp, iSt, wipeD, atI0, atI1, atI2, atI3, ixN0, ixN1, ixN2, ixN3, wSub, wLt, wLe, wGt, wGe, wDiv, wMod, wPow, wShl, Mp.set_same, Mp.set_set, cSortedA, cDictP, wNewD, wEqS, nEqS, wFrzT, mExt, mCnt, nIxL, sAugS, wSlS, wJoin, cSumL, dUnl, cSortLL, cMinLL, wLenSetT, wLenDictT, mIndexB, wLenSetJ, wAddT, wSortSet, wDNewT, sDPutT, cSortDT, wBMd, wDGet1, wDGet2, mUpd, wPairs, wDisp, wLtS, cMinS, cListD, Mp.set_same, hix, Mp.set_set, ← List.map_set]
    refine ⟨_, _, acc.set ns[i].toNat i, rfl, by rw [List.map_set], by rw [List.length_set, hl], hlt, ?_⟩
    rw [← hg, List.drop_eq_getElem_cons hlt]
    rfl
  · obtain ⟨y, z, acc, rfl, rfl, hl, hle, hg⟩ := w
    simp only [sSeq, sRet, sRetN, sIf, sDrop, sNever, sNext, sBreak, sCont, sAsg, sPar, sPar3, sAug, dName, dNil, dCons, dTup, dSub, sSetL, wVar, wC, wFrz, wFrzK, wOp, wAdd, nAdd, nI, nI0, wMul, nMul, wNeg, wEq, nEq, wIsN, wB, wAndT, wOrT, wNotT, wAndV, wOrV, wNotV, wIfE, wChain, aNil, aCons, aStar, wLst, wTup, wIx, nIx, pNo, pSo, wSl, wRev, wRevE, mIndex, wLenSet, cRepr, wIsB, wCB, cLen, cAll, cSum, cMax, cMin, cSorted, cInt, cList, cTuple, cIsi, wBits, wLRg, wBM, wBM0, mChg, wDGet, wDIn, wDNew, sDPutD, wIn, nIn, wCall, wCallK, wNew, tYesD, startD, List.map_cons, List.map_nil, List.length_cons, List.length_nil, List.replicate, Nat.sub_self, List.append_nil, List.cons_append, List.nil_append, List.getElem?_cons_zero, List.getElem?_cons_succ, List.set_cons_zero, List.set_cons_succ, Nat.reduceSub, Nat.reduceAdd, ite_true, ite_false, if_true, if_false, Bool.false_eq_true, Bool.true_eq_false, Bool.not_true, Bool.not_false, Option.some.injEq, nrm_non, nrm_bl, nrm_int, nrm_str, nrm_ty, nrm_lst, nrm_tupC, nrm_dct, nrm_scr, nrm_setL, wFgt, tyN_non, tyN_bl, tyN_int, tyN_str, tyN_lst, tyN_tup, tyN_dct, keyD_int, keyD_str, isA, okT, beq_self_eq_true, String.reduceBEq, Bool.or_false, Bool.or_true, Bool.and_false, Bool.and_true, Bool.true_or, Bool.false_or, Bool.true_and, Bool.false_and, true_and, and_true, List.any_cons, List.any_nil, tyNames, Option.map_some, iRn1, iRn2, iRn3, iLst, nIt, iTp, iEn, iZp, iSt, wipeD, atI0, atI1, atI2, atI3, ixN0, ixN1, ixN2, ixN3, wSub, wLt, wLe, wGt, wGe, wDiv, wMod, wPow, wShl, Mp.set_same, Mp.set_set, cSortedA, cDictP, wNewD, wEqS, nEqS, wFrzT, mExt, mCnt, nIxL, sAugS, wSlS, wJoin, cSumL, dUnl, cSortLL, cMinLL, wLenSetT, wLenDictT, mIndexB, wLenSetJ, wAddT, wSortSet, wDNewT, sDPutT, cSortDT, wBMd, wDGet1, wDGet2, mUpd, wPairs, wDisp, wLtS, cMinS, cListD, Mp.set_same, Mp.set_del hp]
    rw [enumD_length, List.length_map, List.drop_length] at hg
    rw [show acc = backI ns from hg]
    exact q
abbrev s_law_figures : Stmt := topS 35
theorem sc_law_figures : FnScope ["place", "found"] ["place"] (defScope s_law_figures) := ⟨rfl, rfl, rfl, by decide +kernel, rfl, by decide +kernel, by decide +kernel⟩
theorem ok_law_figures {f : Addr} {fd : FuncData} (F : FnP K "_law_figures" s_law_figures [] f fd)
    (m_int : mg "int" = none) :
    FnG P w K mg base 1 f fd ["place"] (spD R_law_figures) := by
  have nd := sc_law_figures.nd
  refine fnD (k := 0) F sc_law_figures len_law_figures fun cdv A outer s H E hr hq => ?_
  have hu := hu_of hr
  have hr65 := room65 hr
  have hr66 := room66 hr
  refine ⟨_, _, pss_cons (ps_set (i := 1) nd rfl (by first | exact .inl rfl | exact .inr rfl) (pe_str))
      (pss_cons (ps_while PassesOwn.never (pt_cmpR (op_gt) (pv 0) (pe_int) (nomark _)) (pss_cons (ps_set (i := 1) nd rfl (by first | exact .inl rfl | exact .inr rfl) (pe_op op_addA (pe_ifExp (pt_cmpR (op_eqD hr.units) (pe_op op_mod (pe_callTy call_int1 (by rfl) m_int (by decide +kernel) (pa_cons (pv 0) (pa_nil))) (pe_int)) (pe_int) (nomark _)) (pe_str) (pe_str)) (pv 1)))
      (pss_one (ps_set (i := 0) nd rfl (by first | exact .inl rfl | exact .inr rfl) (pe_op op_fdivW (pv 0) (pe_int))))))
      (pss_one (ps_ret (pv 1)))),
    ts_seq (ts_asg (tr_str) (tg_name (i := 1)))
      (ts_seq (ts_while (tt_test (tr_op ot_gt (tr_var (i := 0)) (tr_int))) (ts_seq (ts_asg (tr_op (ot_add (K := K) (md := .frz)) (tr_if (tt_test (tr_op ot_eq (tr_op (ot_mod) (tr_cb ct_int (ta_cons (tr_var (i := 0)) (ta_nil))) (tr_int)) (tr_int))) (tr_str) (tr_str)) (tr_var (i := 1))) (tg_name (i := 1)))
      (ts_asg (tr_op (ot_div) (tr_var (i := 0)) (tr_int)) (tg_name (i := 0)))))
      (ts_ret (tr_var (i := 1)))), ?_⟩
  rintro ds M Q ⟨p, rfl, hp, q⟩
  ((try simp only [sSeq]); simp only [sRet, sRetN, sIf, sDrop, sNever, sNext, sBreak, sCont, sAsg, sPar, sPar3, sAug, dName, dNil, dCons, dTup, dSub, sSetL, wVar, wC, wFrz, wFrzK, wOp, wAdd, nAdd, nI, nI0, wMul, nMul, wNeg, wEq, nEq, wIsN, wB, wAndT, wOrT, wNotT, wAndV, wOrV, wNotV, wIfE, wChain, aNil, aCons, aStar, wLst, wTup, wIx, nIx, pNo, pSo, wSl, wRev, wRevE, mIndex, wLenSet, cRepr, wIsB, wCB, cLen, cAll, cSum, cMax, cMin, cSorted, cInt, cList, cTuple, cIsi, wBits, wLRg, wBM, wBM0, mChg, wDGet, wDIn, wDNew, sDPutD, wIn, nIn, wCall, wCallK, wNew, tYesD, startD, List.map_cons, List.map_nil, List.length_cons, List.length_nil, List.replicate, Nat.sub_self, List.append_nil, List.cons_append, List.nil_append, List.getElem?_cons_zero, List.getElem?_cons_succ, List.set_cons_zero, List.set_cons_succ, Nat.reduceSub, Nat.reduceAdd, ite_true, ite_false, if_true, if_false, Bool.false_eq_true, Bool.true_eq_false, Bool.not_true, Bool.not_false, Option.some.injEq, nrm_non, nrm_bl, nrm_int, nrm_str, nrm_ty, nrm_lst, nrm_tupC, nrm_dct, nrm_scr, nrm_setL, wFgt, tyN_non, tyN_bl, tyN_int, tyN_str, tyN_lst, tyN_tup, tyN_dct, keyD_int, keyD_str, isA, okT, beq_self_eq_true, String.reduceBEq, Bool.or_false, Bool.or_true, Bool.and_false, Bool.and_true, Bool.true_or, Bool.false_or, Bool.true_and, Bool.false_and, true_and, and_true, List.any_cons, List.any_nil, tyNames, Option.map_some, iRn1, iRn2, iRn3, iLst, nIt, iTp, iEn, iZp, iSt, wipeD, atI0, atI1, atI2, atI3, ixN0, ixN1, ixN2, ixN3, wSub, wLt, wLe, wGt, wGe, wDiv, wMod, wPow, wShl, Mp.set_same, Mp.set_set, cSortedA, cDictP, wNewD, wEqS, nEqS, wFrzT, mExt, mCnt, nIxL, sAugS, wSlS, wJoin, cSumL, dUnl, cSortLL, cMinLL, wLenSetT, wLenDictT, mIndexB, wLenSetJ, wAddT, wSortSet, wDNewT, sDPutT, cSortDT, wBMd, wDGet1, wDGet2, mUpd, wPairs, wDisp, wLtS, cMinS, cListD])
  refine ⟨fun m ρ M' => ∃ (p' : Nat) (acc : List Bool), ρ = [some (.int p'), some (.str (wordS acc))] ∧ M' = M ∧ p' < 2 ^ m ∧ acc.length + m = 64 ∧ figGo m p' acc = figs p, ⟨64, p, [], rfl, rfl, by omega, rfl, rfl⟩, ?_⟩
  rintro m ρ M' ⟨p', acc, rfl, rfl, h1, h2, h3⟩
  by_cases c : p' = 0
  · subst c
    have e0 : decide ((0 : Int) < ((0 : Nat) : Int)) = false := rfl
    have e1 : figGo m 0 acc = acc := by cases m <;> rfl
    rw [e1] at h3
    ((try simp only [sSeq]); simp only [sRet, sRetN, sIf, sDrop, sNever, sNext, sBreak, sCont, sAsg, sPar, sPar3, sAug, dName, dNil, dCons, dTup, dSub, sSetL, wVar, wC, wFrz, wFrzK, wOp, wAdd, nAdd, nI, nI0, wMul, nMul, wNeg, wEq, nEq, wIsN, wB, wAndT, wOrT, wNotT, wAndV, wOrV, wNotV, wIfE, wChain, aNil, aCons, aStar, wLst, wTup, wIx, nIx, pNo, pSo, wSl, wRev, wRevE, mIndex, wLenSet, cRepr, wIsB, wCB, cLen, cAll, cSum, cMax, cMin, cSorted, cInt, cList, cTuple, cIsi, wBits, wLRg, wBM, wBM0, mChg, wDGet, wDIn, wDNew, sDPutD, wIn, nIn, wCall, wCallK, wNew, tYesD, startD, List.map_cons, List.map_nil, List.length_cons, List.length_nil, List.replicate, Nat.sub_self, List.append_nil, List.cons_append, List.nil_append, List.getElem?_cons_zero, List.getElem?_cons_succ, List.set_cons_zero, List.set_cons_succ, Nat.reduceSub, Nat.reduceAdd, ite_true, ite_false, if_true, if_false, Bool.false_eq_true, Bool.true_eq_false, Bool.not_true, Bool.not_false, Option.some.injEq, nrm_non, nrm_bl, nrm_int, nrm_str, nrm_ty, nrm_lst, nrm_tupC, nrm_dct, nrm_scr, nrm_setL, wFgt, tyN_non, tyN_bl, tyN_int, tyN_str, tyN_lst, tyN_tup, tyN_dct, keyD_int, keyD_str, isA, okT, beq_self_eq_true, String.reduceBEq, Bool.or_false, Bool.or_true, Bool.and_false, Bool.and_true, Bool.true_or, Bool.false_or, Bool.true_and, Bool.false_and, true_and, and_true, List.any_cons, List.any_nil, tyNames, Option.map_some, iRn1, iRn2, iRn3, iLst, nIt, iTp, iEn, iZp, iSt, wipeD, atI0, atI1, atI2, atI3, ixN0, ixN1, ixN2, ixN3, wSub, wLt, wLe, wGt, wGe, wDiv, wMod, wPow, wShl, Mp.set_same, Mp.set_set, cSortedA, cDictP, wNewD, wEqS, nEqS, wFrzT, mExt, mCnt, nIxL, sAugS, wSlS, wJoin, cSumL, dUnl, cSortLL, cMinLL, wLenSetT, wLenDictT, mIndexB, wLenSetJ, wAddT, wSortSet, wDNewT, sDPutT, cSortDT, wBMd, wDGet1, wDGet2, mUpd, wPairs, wDisp, wLtS, cMinS, cListD, e0])
    rw [h3]
    exact q
  · have e0 : decide ((0 : Int) < (p' : Int)) = true := decide_eq_true (by omega)
    cases m with
    | zero => omega
    | succ m =>
    rw [figGo, if_neg c] at h3
    have hl : (wordS acc).length = acc.length := by unfold wordS; show Array.size _ = _; simp
    have es : ∀ b, (sgn b).length = 1 := fun b => rfl
    have e2 : (p' : Int) / 2 = ((p' / 2 : Nat) : Int) := by omega
    have hp2 : p' / 2 < 2 ^ m := by rw [Nat.pow_succ] at h1; omega
    ((try simp only [sSeq]); simp only [sRet, sRetN, sIf, sDrop, sNever, sNext, sBreak, sCont, sAsg, sPar, sPar3, sAug, dName, dNil, dCons, dTup, dSub, sSetL, wVar, wC, wFrz, wFrzK, wOp, wAdd, nAdd, nI, nI0, wMul, nMul, wNeg, wEq, nEq, wIsN, wB, wAndT, wOrT, wNotT, wAndV, wOrV, wNotV, wIfE, wChain, aNil, aCons, aStar, wLst, wTup, wIx, nIx, pNo, pSo, wSl, wRev, wRevE, mIndex, wLenSet, cRepr, wIsB, wCB, cLen, cAll, cSum, cMax, cMin, cSorted, cInt, cList, cTuple, cIsi, wBits, wLRg, wBM, wBM0, mChg, wDGet, wDIn, wDNew, sDPutD, wIn, nIn, wCall, wCallK, wNew, tYesD, startD, List.map_cons, List.map_nil, List.length_cons, List.length_nil, List.replicate, Nat.sub_self, List.append_nil, List.cons_append, List.nil_append, List.getElem?_cons_zero, List.getElem?_cons_succ, List.set_cons_zero, List.set_cons_succ, Nat.reduceSub, Nat.reduceAdd, ite_true, ite_false, if_true, if_false, Bool.false_eq_true, Bool.true_eq_false, Bool.not_true, Bool.not_false, Option.some.injEq, nrm_non, nrm_bl, nrm_int, nrm_str, nrm_ty, nrm_lst, nrm_tupC, nrm_dct, nrm_scr, nrm_setL, wFgt, tyN_non, tyN_bl, tyN_int, tyN_str, tyN_lst, tyN_tup, tyN_dct, keyD_int, keyD_str, isA, okT, beq_self_eq_true, String.reduceBEq, Bool.or_false, Bool.or_true, Bool.and_false, Bool.and_true, Bool.true_or, Bool.false_or, Bool.true_and, Bool.false_and, true_and, and_true, List.any_cons, List.any_nil, tyNames, Option.map_some, iRn1, iRn2, iRn3, iLst, nIt, iTp, iEn, iZp, iSt, wipeD, atI0, atI1, atI2, atI3, ixN0, ixN1, ixN2, ixN3, wSub, wLt, wLe, wGt, wGe, wDiv, wMod, wPow, wShl, Mp.set_same, Mp.set_set, cSortedA, cDictP, wNewD, wEqS, nEqS, wFrzT, mExt, mCnt, nIxL, sAugS, wSlS, wJoin, cSumL, dUnl, cSortLL, cMinLL, wLenSetT, wLenDictT, mIndexB, wLenSetJ, wAddT, wSortSet, wDNewT, sDPutT, cSortDT, wBMd, wDGet1, wDGet2, mUpd, wPairs, wDisp, wLtS, cMinS, cListD, e0])
    refine ⟨by decide, ?_⟩
    by_cases c2 : p' % 2 = 1
    · rw [decide_eq_true (show (p' : Int) % 2 = 1 by omega)]
      rw [decide_eq_true c2] at h3
      ((try simp only [sSeq]); simp only [sRet, sRetN, sIf, sDrop, sNever, sNext, sBreak, sCont, sAsg, sPar, sPar3, sAug, dName, dNil, dCons, dTup, dSub, sSetL, wVar, wC, wFrz, wFrzK, wOp, wAdd, nAdd, nI, nI0, wMul, nMul, wNeg, wEq, nEq, wIsN, wB, wAndT, wOrT, wNotT, wAndV, wOrV, wNotV, wIfE, wChain, aNil, aCons, aStar, wLst, wTup, wIx, nIx, pNo, pSo, wSl, wRev, wRevE, mIndex, wLenSet, cRepr, wIsB, wCB, cLen, cAll, cSum, cMax, cMin, cSorted, cInt, cList, cTuple, cIsi, wBits, wLRg, wBM, wBM0, mChg, wDGet, wDIn, wDNew, sDPutD, wIn, nIn, wCall, wCallK, wNew, tYesD, startD, List.map_cons, List.map_nil, List.length_cons, List.length_nil, List.replicate, Nat.sub_self, List.append_nil, List.cons_append, List.nil_append, List.getElem?_cons_zero, List.getElem?_cons_succ, List.set_cons_zero, List.set_cons_succ, Nat.reduceSub, Nat.reduceAdd, ite_true, ite_false, if_true, if_false, Bool.false_eq_true, Bool.true_eq_false, Bool.not_true, Bool.not_false, Option.some.injEq, nrm_non, nrm_bl, nrm_int, nrm_str, nrm_ty, nrm_lst, nrm_tupC, nrm_dct, nrm_scr, nrm_setL, wFgt, tyN_non, tyN_bl, tyN_int, tyN_str, tyN_lst, tyN_tup, tyN_dct, keyD_int, keyD_str, isA, okT, beq_self_eq_true, String.reduceBEq, Bool.or_false, Bool.or_true, Bool.and_false, Bool.and_true, Bool.true_or, Bool.false_or, Bool.true_and, Bool.false_and, true_and, and_true, List.any_cons, List.any_nil, tyNames, Option.map_some, iRn1, iRn2, iRn3, iLst, nIt, iTp, iEn, iZp, iSt, wipeD, atI0, atI1, atI2, atI3, ixN0, ixN1, ixN2, ixN3, wSub, wLt, wLe, wGt, wGe, wDiv, wMod, wPow, wShl, Mp.set_same, Mp.set_set, cSortedA, cDictP, wNewD, wEqS, nEqS, wFrzT, mExt, mCnt, nIxL, sAugS, wSlS, wJoin, cSumL, dUnl, cSortLL, cMinLL, wLenSetT, wLenDictT, mIndexB, wLenSetJ, wAddT, wSortSet, wDNewT, sDPutT, cSortDT, wBMd, wDGet1, wDGet2, mUpd, wPairs, wDisp, wLtS, cMinS, cListD])
      rw [sgnI]
      refine ⟨by rw [es, hl]; unfold Sz; omega, ⟨by omega, by omega⟩, m, by omega, p' / 2, true :: acc, by rw [e2, sgn_word], hp2, by rw [List.length_cons]; omega, h3⟩
    · rw [decide_eq_false (show ¬ (p' : Int) % 2 = 1 by omega)]
      rw [decide_eq_false c2] at h3
      ((try simp only [sSeq]); simp only [sRet, sRetN, sIf, sDrop, sNever, sNext, sBreak, sCont, sAsg, sPar, sPar3, sAug, dName, dNil, dCons, dTup, dSub, sSetL, wVar, wC, wFrz, wFrzK, wOp, wAdd, nAdd, nI, nI0, wMul, nMul, wNeg, wEq, nEq, wIsN, wB, wAndT, wOrT, wNotT, wAndV, wOrV, wNotV, wIfE, wChain, aNil, aCons, aStar, wLst, wTup, wIx, nIx, pNo, pSo, wSl, wRev, wRevE, mIndex, wLenSet, cRepr, wIsB, wCB, cLen, cAll, cSum, cMax, cMin, cSorted, cInt, cList, cTuple, cIsi, wBits, wLRg, wBM, wBM0, mChg, wDGet, wDIn, wDNew, sDPutD, wIn, nIn, wCall, wCallK, wNew, tYesD, startD, List.map_cons, List.map_nil, List.length_cons, List.length_nil, List.replicate, Nat.sub_self, List.append_nil, List.cons_append, List.nil_append, List.getElem?_cons_zero, List.getElem?_cons_succ, List.set_cons_zero, List.set_cons_succ, Nat.reduceSub, Nat.reduceAdd, ite_true, ite_false, if_true, if_false, Bool.false_eq_true, Bool.true_eq_false, Bool.not_true, Bool.not_false, Option.some.injEq, nrm_non, nrm_bl, nrm_int, nrm_str, nrm_ty, nrm_lst, nrm_tupC, nrm_dct, nrm_scr, nrm_setL, wFgt, tyN_non, tyN_bl, tyN_int, tyN_str, tyN_lst, tyN_tup, tyN_dct, keyD_int, keyD_str, isA, okT, beq_self_eq_true, String.reduceBEq, Bool.or_false, Bool.or_true, Bool.and_false, Bool.and_true, Bool.true_or, Bool.false_or, Bool.true_and, Bool.false_and, true_and, and_true, List.any_cons, List.any_nil, tyNames, Option.map_some, iRn1, iRn2, iRn3, iLst, nIt, iTp, iEn, iZp, iSt, wipeD, atI0, atI1, atI2, atI3, ixN0, ixN1, ixN2, ixN3, wSub, wLt, wLe, wGt, wGe, wDiv, wMod, wPow, wShl, Mp.set_same, Mp.set_set, cSortedA, cDictP, wNewD, wEqS, nEqS, wFrzT, mExt, mCnt, nIxL, sAugS, wSlS, wJoin, cSumL, dUnl, cSortLL, cMinLL, wLenSetT, wLenDictT, mIndexB, wLenSetJ, wAddT, wSortSet, wDNewT, sDPutT, cSortDT, wBMd, wDGet1, wDGet2, mUpd, wPairs, wDisp, wLtS, cMinS, cListD])
      rw [sgnO]
      refine ⟨by rw [es, hl]; unfold Sz; omega, ⟨by omega, by omega⟩, m, by omega, p' / 2, false :: acc, by rw [e2, sgn_word], hp2, by rw [List.length_cons]; omega, h3⟩
abbrev s_is_count : Stmt := topS 2
theorem sc_is_count : FnScope ["value", "least"] ["value", "least"] (defScope s_is_count) := ⟨rfl, rfl, rfl, by decide +kernel, rfl, by decide +kernel, by decide +kernel⟩
theorem ok_is_count {f : Addr} {fd : FuncData} (F : FnP K "is_count" s_is_count [.int 0] f fd)
    {f_is_whole : Addr} {fd_is_whole : FuncData} {ds_is_whole : List Value} (G_is_whole : Kn P w K mg base "is_whole" ["value"] R_is_whole 1 [] ds_is_whole f_is_whole fd_is_whole)
    (m_max : mg "max" = none) :
    FnG P w K mg base 2 f fd ["value", "least"] (spD R_is_count) := by
  have nd := sc_is_count.nd
  refine fnD (k := 1) F sc_is_count len_is_count fun cdv A outer s H E hr hq => ?_
  have hu := hu_of hr
  have hr65 := room65 hr
  have hr66 := room66 hr
  refine ⟨_, _, pss_one (ps_ret (pe_and (pe_callG (G_is_whole.ok.mono (by decide)) hr hq (by rfl) G_is_whole.m G_is_whole.kp G_is_whole.b G_is_whole.dv (pa_cons (pv 0) (pa_nil))) (pe_one (pe_cmpR (op_ge) (pv 0) (pe_callB (call_maxA rfl) (by rfl) m_max (by decide +kernel) (pa_cons (pv 1) (pa_cons (pe_int) (pa_nil)))) (nomark _))))),
    ts_ret (tr_and (tr_call (ta_cons (tr_var (i := 0)) (ta_nil))) (tr_op ot_ge (tr_var (i := 0)) (tr_cb ct_max (ta_cons (tr_var (i := 1)) (ta_cons (tr_int) (ta_nil)))))), ?_⟩
  rintro ds M Q ⟨d, l, rfl, h, q⟩
  simp only [sSeq, sRet, sRetN, sIf, sDrop, sNever, sNext, sBreak, sCont, sAsg, sPar, sPar3, sAug, dName, dNil, dCons, dTup, dSub, sSetL, wVar, wC, wFrz, wFrzK, wOp, wAdd, nAdd, nI, nI0, wMul, nMul, wNeg, wEq, nEq, wIsN, wB, wAndT, wOrT, wNotT, wAndV, wOrV, wNotV, wIfE, wChain, aNil, aCons, aStar, wLst, wTup, wIx, nIx, pNo, pSo, wSl, wRev, wRevE, mIndex, wLenSet, cRepr, wIsB, wCB, cLen, cAll, cSum, cMax, cMin, cSorted, cInt, cList, cTuple, cIsi, wBits, wLRg, wBM, wBM0, mChg, wDGet, wDIn, wDNew, sDPutD, wIn, nIn, wCall, wCallK, wNew, tYesD, startD, List.map_cons, List.map_nil, List.length_cons, List.length_nil, List.replicate, Nat.sub_self, List.append_nil, List.cons_append, List.nil_append, List.getElem?_cons_zero, List.getElem?_cons_succ, List.set_cons_zero, List.set_cons_succ, Nat.reduceSub, Nat.reduceAdd, ite_true, ite_false, if_true, if_false, Bool.false_eq_true, Bool.true_eq_false, Bool.not_true, Bool.not_false, Option.some.injEq, nrm_non, nrm_bl, nrm_int, nrm_str, nrm_ty, nrm_lst, nrm_tupC, nrm_dct, nrm_scr, nrm_setL, wFgt, tyN_non, tyN_bl, tyN_int, tyN_str, tyN_lst, tyN_tup, tyN_dct, keyD_int, keyD_str, isA, okT, beq_self_eq_true, String.reduceBEq, Bool.or_false, Bool.or_true, Bool.and_false, Bool.and_true, Bool.true_or, Bool.false_or, Bool.true_and, Bool.false_and, true_and, and_true, List.any_cons, List.any_nil, tyNames, Option.map_some, iRn1, iRn2, iRn3, iLst, nIt, iTp, iEn, iZp, iSt, wipeD, atI0, atI1, atI2, atI3, ixN0, ixN1, ixN2, ixN3, wSub, wLt, wLe, wGt, wGe, wDiv, wMod, wPow, wShl, Mp.set_same, Mp.set_set, cSortedA, cDictP, wNewD, wEqS, nEqS, wFrzT, mExt, mCnt, nIxL, sAugS, wSlS, wJoin, cSumL, dUnl, cSortLL, cMinLL, wLenSetT, wLenDictT, mIndexB, wLenSetJ, wAddT, wSortSet, wDNewT, sDPutT, cSortDT, wBMd, wDGet1, wDGet2, mUpd, wPairs, wDisp, wLtS, cMinS, cListD]
  refine ⟨d, rfl, h, ?_⟩
  cases d <;> first | cases h | skip
  all_goals first | exact q | (simp only [sSeq, sRet, sRetN, sIf, sDrop, sNever, sNext, sBreak, sCont, sAsg, sPar, sPar3, sAug, dName, dNil, dCons, dTup, dSub, sSetL, wVar, wC, wFrz, wFrzK, wOp, wAdd, nAdd, nI, nI0, wMul, nMul, wNeg, wEq, nEq, wIsN, wB, wAndT, wOrT, wNotT, wAndV, wOrV, wNotV, wIfE, wChain, aNil, aCons, aStar, wLst, wTup, wIx, nIx, pNo, pSo, wSl, wRev, wRevE, mIndex, wLenSet, cRepr, wIsB, wCB, cLen, cAll, cSum, cMax, cMin, cSorted, cInt, cList, cTuple, cIsi, wBits, wLRg, wBM, wBM0, mChg, wDGet, wDIn, wDNew, sDPutD, wIn, nIn, wCall, wCallK, wNew, tYesD, startD, List.map_cons, List.map_nil, List.length_cons, List.length_nil, List.replicate, Nat.sub_self, List.append_nil, List.cons_append, List.nil_append, List.getElem?_cons_zero, List.getElem?_cons_succ, List.set_cons_zero, List.set_cons_succ, Nat.reduceSub, Nat.reduceAdd, ite_true, ite_false, if_true, if_false, Bool.false_eq_true, Bool.true_eq_false, Bool.not_true, Bool.not_false, Option.some.injEq, nrm_non, nrm_bl, nrm_int, nrm_str, nrm_ty, nrm_lst, nrm_tupC, nrm_dct, nrm_scr, nrm_setL, wFgt, tyN_non, tyN_bl, tyN_int, tyN_str, tyN_lst, tyN_tup, tyN_dct, keyD_int, keyD_str, isA, okT, beq_self_eq_true, String.reduceBEq, Bool.or_false, Bool.or_true, Bool.and_false, Bool.and_true, Bool.true_or, Bool.false_or, Bool.true_and, Bool.false_and, true_and, and_true, List.any_cons, List.any_nil, tyNames, Option.map_some, iRn1, iRn2, iRn3, iLst, nIt, iTp, iEn, iZp, iSt, wipeD, atI0, atI1, atI2, atI3, ixN0, ixN1, ixN2, ixN3, wSub, wLt, wLe, wGt, wGe, wDiv, wMod, wPow, wShl, Mp.set_same, Mp.set_set, cSortedA, cDictP, wNewD, wEqS, nEqS, wFrzT, mExt, mCnt, nIxL, sAugS, wSlS, wJoin, cSumL, dUnl, cSortLL, cMinLL, wLenSetT, wLenDictT, mIndexB, wLenSetJ, wAddT, wSortSet, wDNewT, sDPutT, cSortDT, wBMd, wDGet1, wDGet2, mUpd, wPairs, wDisp, wLtS, cMinS, cListD, wholeD]; exact q)
abbrev s_done_there : Stmt := topS 17
theorem sc_done_there : FnScope ["many", "word", "found", "shuffles", "sign", "place"] ["many", "word"] (defScope s_done_there) := ⟨rfl, rfl, rfl, by decide +kernel, rfl, by decide +kernel, by decide +kernel⟩
theorem ok_done_there {f : Addr} {fd : FuncData} (F : FnP K "done_there" s_done_there [] f fd)
    {f_faro_there : Addr} {fd_faro_there : FuncData} {ds_faro_there : List Value} (G_faro_there : Kn P w K mg base "faro_there" ["many", "kind"] R_faro_there 1 [] ds_faro_there f_faro_there fd_faro_there)
    {f_kind_of : Addr} {fd_kind_of : FuncData} {ds_kind_of : List Value} (G_kind_of : Kn P w K mg base "kind_of" ["sign"] R_kind_of 1 [] ds_kind_of f_kind_of fd_kind_of)
    (m_list : mg "list" = none)
    (m_range : mg "range" = none) :
    FnG P w K mg base 2 f fd ["many", "word"] (spD R_done_there) := by
  have nd := sc_done_there.nd
  refine fnD (k := 1) F sc_done_there len_done_there fun cdv A outer s H E hr hq => ?_
  have hu := hu_of hr
  have hr65 := room65 hr
  have hr66 := room66 hr
  refine ⟨_, _, pss_cons (ps_set (i := 2) nd rfl (by first | exact .inl rfl | exact .inr rfl) (pe_listRgC rfl (by rfl) m_list (prgA (by rfl) m_range (pa_cons (pv 0) (pa_nil)))))
      (pss_cons (ps_setDc (i := 3) (own := [("sign", 4)]) (by rfl) nd rfl rfl (swD_true rfl rfl rfl (by decide +kernel)) (pi_tup (pe_tup (pa_cons (pe_str) (pa_cons (pe_str) (pa_nil))))) (blkOk_by (by kernel_rfl)) (fun _ _ _ _ _ => pg_name (i := 4) nd rfl (by first | exact .inl rfl | exact .inr rfl)) (fun _ _ _ _ _ => pts_nil) (fun _ _ _ _ _ => pv 4) (fun _ _ _ _ _ => pe_callG (G_faro_there.ok.mono (by decide)) hr hq (by rfl) G_faro_there.m G_faro_there.kp G_faro_there.b G_faro_there.dv (pa_cons (pv 0) (pa_cons (pe_callG (G_kind_of.ok.mono (by decide)) hr hq (by rfl) G_kind_of.m G_kind_of.kp G_kind_of.b G_kind_of.dv (pa_cons (pv 4) (pa_nil))) (pa_nil)))))
      (pss_cons (ps_for PassesOwn.never rfl (pi_str (pv 1)) (pg_name (i := 4) nd rfl (by first | exact .inl rfl | exact .inr rfl)) (pss_one (ps_set (i := 2) nd rfl (by first | exact .inl rfl | exact .inr rfl) (pe_lc (own := [("place", 5)]) (by rfl) nd (pi_list (pe_dget hu (pv 3) (pv 4) (fun _ _ => rfl))) (blkOk_by (by kernel_rfl)) (fun _ _ _ _ _ => pg_name (i := 5) nd rfl (by first | exact .inl rfl | exact .inr rfl)) (fun _ _ _ _ _ => pts_nil) (fun _ _ _ _ _ => pe_ix ix_seq (pv 2) (pv 5) (fun _ _ => rfl))))))
      (pss_one (ps_ret (pv 2))))),
    ts_seq (ts_asg (tr_lrg (md := .own) (ta_cons (tr_var (i := 0)) (ta_nil))) (tg_name (i := 2)))
      (ts_seq (ts_asg (tr_dc (md := .frz) (ti_tup (tr_tup (ta_cons (tr_str) (ta_cons (tr_str) (ta_nil))))) (tc_name (i := 4) (by decide)) (tt_yes) (tr_var (i := 4)) (tr_frz (tr_call (ta_cons (tr_var (i := 0)) (ta_cons (tr_call (ta_cons (tr_var (i := 4)) (ta_nil))) (ta_nil)))))) (tg_name (i := 3)))
      (ts_seq (ts_for (ti_str (tr_var (i := 1))) (tg_name (i := 4)) (ts_asg (tr_lc (md := .own) (ti_list (tr_dget (tr_var (i := 3)) (tr_var (i := 4)))) (tc_name (i := 5) (by decide)) (tt_yes) (tr_op ot_ix (tr_var (i := 2)) (tr_var (i := 5)))) (tg_name (i := 2))))
      (ts_ret (tr_fgt (tr_var (i := 2)))))), ?_⟩
  rintro ds M Q ⟨n, bs, rfl, hn, hl, q⟩
  ((try simp only [sSeq]); simp only [sRet, sRetN, sIf, sDrop, sNever, sNext, sBreak, sCont, sAsg, sPar, sPar3, sAug, dName, dNil, dCons, dTup, dSub, sSetL, wVar, wC, wFrz, wFrzK, wOp, wAdd, nAdd, nI, nI0, wMul, nMul, wNeg, wEq, nEq, wIsN, wB, wAndT, wOrT, wNotT, wAndV, wOrV, wNotV, wIfE, wChain, aNil, aCons, aStar, wLst, wTup, wIx, nIx, pNo, pSo, wSl, wRev, wRevE, mIndex, wLenSet, cRepr, wIsB, wCB, cLen, cAll, cSum, cMax, cMin, cSorted, cInt, cList, cTuple, cIsi, wBits, wLRg, wBM, wBM0, mChg, wDGet, wDIn, wDNew, sDPutD, wIn, nIn, wCall, wCallK, wNew, tYesD, startD, List.map_cons, List.map_nil, List.length_cons, List.length_nil, List.replicate, Nat.sub_self, List.append_nil, List.cons_append, List.nil_append, List.getElem?_cons_zero, List.getElem?_cons_succ, List.set_cons_zero, List.set_cons_succ, Nat.reduceSub, Nat.reduceAdd, ite_true, ite_false, if_true, if_false, Bool.false_eq_true, Bool.true_eq_false, Bool.not_true, Bool.not_false, Option.some.injEq, nrm_non, nrm_bl, nrm_int, nrm_str, nrm_ty, nrm_lst, nrm_tupC, nrm_dct, nrm_scr, nrm_setL, wFgt, tyN_non, tyN_bl, tyN_int, tyN_str, tyN_lst, tyN_tup, tyN_dct, keyD_int, keyD_str, isA, okT, beq_self_eq_true, String.reduceBEq, Bool.or_false, Bool.or_true, Bool.and_false, Bool.and_true, Bool.true_or, Bool.false_or, Bool.true_and, Bool.false_and, true_and, and_true, List.any_cons, List.any_nil, tyNames, Option.map_some, iRn1, iRn2, iRn3, iLst, nIt, iTp, iEn, iZp, iSt, wipeD, atI0, atI1, atI2, atI3, ixN0, ixN1, ixN2, ixN3, wSub, wLt, wLe, wGt, wGe, wDiv, wMod, wPow, wShl, Mp.set_same, Mp.set_set, cSortedA, cDictP, wNewD, wEqS, nEqS, wFrzT, mExt, mCnt, nIxL, sAugS, wSlS, wJoin, cSumL, dUnl, cSortLL, cMinLL, wLenSetT, wLenDictT, mIndexB, wLenSetJ, wAddT, wSortSet, wDNewT, sDPutT, cSortDT, wBMd, wDGet1, wDGet2, mUpd, wPairs, wDisp, wLtS, cMinS, cListD, rngD_ints])
  refine ⟨⟨⟨by omega, by omega⟩, (by first | omega | (unfold Sz; omega) | (simp only [List.length_map, List.length_append, List.length_cons, List.length_nil, rngI_length, List.length_take, List.length_drop, List.length_reverse]; unfold Sz; omega))⟩, fun p hp => ?_⟩
  rw [Int.toNat_natCast]
  have hM0 : MLe M (M.set p (.lst ((rngI 0 1 n).map D.int))) := MLe.set hp
  have hM0p : (M.set p (.lst ((rngI 0 1 n).map D.int))) p = some (.lst ((rngI 0 1 n).map D.int)) := Mp.set_same
  generalize M.set p (.lst ((rngI 0 1 n).map D.int)) = M0 at hM0 hM0p
  ((try simp only [sSeq]); simp only [sRet, sRetN, sIf, sDrop, sNever, sNext, sBreak, sCont, sAsg, sPar, sPar3, sAug, dName, dNil, dCons, dTup, dSub, sSetL, wVar, wC, wFrz, wFrzK, wOp, wAdd, nAdd, nI, nI0, wMul, nMul, wNeg, wEq, nEq, wIsN, wB, wAndT, wOrT, wNotT, wAndV, wOrV, wNotV, wIfE, wChain, aNil, aCons, aStar, wLst, wTup, wIx, nIx, pNo, pSo, wSl, wRev, wRevE, mIndex, wLenSet, cRepr, wIsB, wCB, cLen, cAll, cSum, cMax, cMin, cSorted, cInt, cList, cTuple, cIsi, wBits, wLRg, wBM, wBM0, mChg, wDGet, wDIn, wDNew, sDPutD, wIn, nIn, wCall, wCallK, wNew, tYesD, startD, List.map_cons, List.map_nil, List.length_cons, List.length_nil, List.replicate, Nat.sub_self, List.append_nil, List.cons_append, List.nil_append, List.getElem?_cons_zero, List.getElem?_cons_succ, List.set_cons_zero, List.set_cons_succ, Nat.reduceSub, Nat.reduceAdd, ite_true, ite_false, if_true, if_false, Bool.false_eq_true, Bool.true_eq_false, Bool.not_true, Bool.not_false, Option.some.injEq, nrm_non, nrm_bl, nrm_int, nrm_str, nrm_ty, nrm_lst, nrm_tupC, nrm_dct, nrm_scr, nrm_setL, wFgt, tyN_non, tyN_bl, tyN_int, tyN_str, tyN_lst, tyN_tup, tyN_dct, keyD_int, keyD_str, isA, okT, beq_self_eq_true, String.reduceBEq, Bool.or_false, Bool.or_true, Bool.and_false, Bool.and_true, Bool.true_or, Bool.false_or, Bool.true_and, Bool.false_and, true_and, and_true, List.any_cons, List.any_nil, tyNames, Option.map_some, iRn1, iRn2, iRn3, iLst, nIt, iTp, iEn, iZp, iSt, wipeD, atI0, atI1, atI2, atI3, ixN0, ixN1, ixN2, ixN3, wSub, wLt, wLe, wGt, wGe, wDiv, wMod, wPow, wShl, Mp.set_same, Mp.set_set, cSortedA, cDictP, wNewD, wEqS, nEqS, wFrzT, mExt, mCnt, nIxL, sAugS, wSlS, wJoin, cSumL, dUnl, cSortLL, cMinLL, wLenSetT, wLenDictT, mIndexB, wLenSetJ, wAddT, wSortSet, wDNewT, sDPutT, cSortDT, wBMd, wDGet1, wDGet2, mUpd, wPairs, wDisp, wLtS, cMinS, cListD, wDc])
  refine ⟨(by first | omega | (unfold Sz; omega) | (simp only [List.length_map, List.length_append, List.length_cons, List.length_nil, rngI_length, List.length_take, List.length_drop, List.length_reverse]; unfold Sz; omega)), (by first | omega | (unfold Sz; omega) | (simp only [List.length_map, List.length_append, List.length_cons, List.length_nil, rngI_length, List.length_take, List.length_drop, List.length_reverse]; unfold Sz; omega)), fun i ks ys M' => M' = M0 ∧ ks = [Sum.inr (sgn true), Sum.inr (sgn false)].take i ∧ ys = [D.lst ((faroI n false).map D.int), D.lst ((faroI n true).map D.int)].take i, ⟨rfl, rfl, rfl⟩, fun _ _ _ _ _ _ => trivial, fun i x ks ys M' hx w => ?_, fun ks ys M' w => ?_⟩
  · obtain ⟨rfl, rfl, rfl⟩ := w
    have hb : ∃ b, x = .str (sgn b) ∧ i = (if b then 0 else 1) := by
      match i, hx with
      | 0, hx => cases hx; exact ⟨true, rfl, rfl⟩
      | 1, hx => cases hx; exact ⟨false, rfl, rfl⟩
    obtain ⟨b, rfl, rfl⟩ := hb
    simp only [sRet, sRetN, sIf, sDrop, sNever, sNext, sBreak, sCont, sAsg, sPar, sPar3, sAug, dName, dNil, dCons, dTup, dSub, sSetL, wVar, wC, wFrz, wFrzK, wOp, wAdd, nAdd, nI, nI0, wMul, nMul, wNeg, wEq, nEq, wIsN, wB, wAndT, wOrT, wNotT, wAndV, wOrV, wNotV, wIfE, wChain, aNil, aCons, aStar, wLst, wTup, wIx, nIx, pNo, pSo, wSl, wRev, wRevE, mIndex, wLenSet, cRepr, wIsB, wCB, cLen, cAll, cSum, cMax, cMin, cSorted, cInt, cList, cTuple, cIsi, wBits, wLRg, wBM, wBM0, mChg, wDGet, wDIn, wDNew, sDPutD, wIn, nIn, wCall, wCallK, wNew, tYesD, startD, List.map_cons, List.map_nil, List.length_cons, List.length_nil, List.replicate, Nat.sub_self, List.append_nil, List.cons_append, List.nil_append, List.getElem?_cons_zero, List.getElem?_cons_succ, List.set_cons_zero, List.set_cons_succ, Nat.reduceSub, Nat.reduceAdd, ite_true, ite_false, if_true, if_false, Bool.false_eq_true, Bool.true_eq_false, Bool.not_true, Bool.not_false, Option.some.injEq, nrm_non, nrm_bl, nrm_int, nrm_str, nrm_ty, nrm_lst, nrm_tupC, nrm_dct, nrm_scr, nrm_setL, wFgt, tyN_non, tyN_bl, tyN_int, tyN_str, tyN_lst, tyN_tup, tyN_dct, keyD_int, keyD_str, isA, okT, beq_self_eq_true, String.reduceBEq, Bool.or_false, Bool.or_true, Bool.and_false, Bool.and_true, Bool.true_or, Bool.false_or, Bool.true_and, Bool.false_and, true_and, and_true, List.any_cons, List.any_nil, tyNames, Option.map_some, iRn1, iRn2, iRn3, iLst, nIt, iTp, iEn, iZp, iSt, wipeD, atI0, atI1, atI2, atI3, ixN0, ixN1, ixN2, ixN3, wSub, wLt, wLe, wGt, wGe, wDiv, wMod, wPow, wShl, Mp.set_same, Mp.set_set, cSortedA, cDictP, wNewD, wEqS, nEqS, wFrzT, mExt, mCnt, nIxL, sAugS, wSlS, wJoin, cSumL, dUnl, cSortLL, cMinLL, wLenSetT, wLenDictT, mIndexB, wLenSetJ, wAddT, wSortSet, wDNewT, sDPutT, cSortDT, wBMd, wDGet1, wDGet2, mUpd, wPairs, wDisp, wLtS, cMinS, cListD]
    refine ⟨b, rfl, n, !b, rfl, by omega, fun p hp => frz_new hp ?_⟩
    cases b
    · exact ⟨rfl, rfl, rfl⟩
    · exact ⟨rfl, rfl, rfl⟩
  · obtain ⟨rfl, rfl, rfl⟩ := w
    show sSeq _ _ _ [_, _, _, some (D.dct [Sum.inr (sgn true), Sum.inr (sgn false)] [D.lst ((faroI n false).map D.int), D.lst ((faroI n true).map D.int)]), _, _] _
    have hk : ∀ b, look [Sum.inr (sgn true), Sum.inr (sgn false)] [D.lst ((faroI n false).map D.int), D.lst ((faroI n true).map D.int)] (Sum.inr (sgn b)) = some (D.lst ((faroI n (!b)).map D.int)) := fun b => by cases b <;> rfl
    generalize D.lst ((faroI n false).map D.int) = d0 at *
    generalize D.lst ((faroI n true).map D.int) = d1 at *
    generalize [Sum.inr (sgn true), Sum.inr (sgn false)] = ks at *
    refine for_of (xs := bs.map fun b => D.str (sgn b)) (P := fun _ => True) (fun i ρ M4 => ∃ (a : Addr) (y4 y5 : Option D), ρ = [some (.int n), some (.str (wordS bs)), some (.ref a), some (.dct ks [d0, d1]), y4, y5] ∧ MLe M M4 ∧ M a = none ∧ M4 a = some (.lst (((bs.take i).foldl (fun acc b => movedI acc (faroI n (!b))) (rngI 0 1 n)).map .int)))
      (fun R h => by rw [← signs_word] at h; simp only [sSeq, sRet, sRetN, sIf, sDrop, sNever, sNext, sBreak, sCont, sAsg, sPar, sPar3, sAug, dName, dNil, dCons, dTup, dSub, sSetL, wVar, wC, wFrz, wFrzK, wOp, wAdd, nAdd, nI, nI0, wMul, nMul, wNeg, wEq, nEq, wIsN, wB, wAndT, wOrT, wNotT, wAndV, wOrV, wNotV, wIfE, wChain, aNil, aCons, aStar, wLst, wTup, wIx, nIx, pNo, pSo, wSl, wRev, wRevE, mIndex, wLenSet, cRepr, wIsB, wCB, cLen, cAll, cSum, cMax, cMin, cSorted, cInt, cList, cTuple, cIsi, wBits, wLRg, wBM, wBM0, mChg, wDGet, wDIn, wDNew, sDPutD, wIn, nIn, wCall, wCallK, wNew, tYesD, startD, List.map_cons, List.map_nil, List.length_cons, List.length_nil, List.replicate, Nat.sub_self, List.append_nil, List.cons_append, List.nil_append, List.getElem?_cons_zero, List.getElem?_cons_succ, List.set_cons_zero, List.set_cons_succ, Nat.reduceSub, Nat.reduceAdd, ite_true, ite_false, if_true, if_false, Bool.false_eq_true, Bool.true_eq_false, Bool.not_true, Bool.not_false, Option.some.injEq, nrm_non, nrm_bl, nrm_int, nrm_str, nrm_ty, nrm_lst, nrm_tupC, nrm_dct, nrm_scr, nrm_setL, wFgt, tyN_non, tyN_bl, tyN_int, tyN_str, tyN_lst, tyN_tup, tyN_dct, keyD_int, keyD_str, isA, okT, beq_self_eq_true, String.reduceBEq, Bool.or_false, Bool.or_true, Bool.and_false, Bool.and_true, Bool.true_or, Bool.false_or, Bool.true_and, Bool.false_and, true_and, and_true, List.any_cons, List.any_nil, tyNames, Option.map_some, iRn1, iRn2, iRn3, iLst, nIt, iTp, iEn, iZp, iSt, wipeD, atI0, atI1, atI2, atI3, ixN0, ixN1, ixN2, ixN3, wSub, wLt, wLe, wGt, wGe, wDiv, wMod, wPow, wShl, Mp.set_same, Mp.set_set, cSortedA, cDictP, wNewD, wEqS, nEqS, wFrzT, mExt, mCnt, nIxL, sAugS, wSlS, wJoin, cSumL, dUnl, cSortLL, cMinLL, wLenSetT, wLenDictT, mIndexB, wLenSetJ, wAddT, wSortSet, wDNewT, sDPutT, cSortDT, wBMd, wDGet1, wDGet2, mUpd, wPairs, wDisp, wLtS, cMinS, cListD]; exact h) ⟨p, _, _, rfl, hM0, hp, hM0p⟩ (fun _ _ _ _ _ => trivial) (fun i d ρ M4 hi w => ?_) (fun ρ M4 w => ?_)
    · obtain ⟨a, y4, y5, rfl, hle, hMa, hM4a⟩ := w
      rw [List.getElem?_map] at hi
      obtain ⟨b, hb, rfl⟩ := Option.map_eq_some_iff.mp hi
      have hpm := doneI_perm (n := n) (bs.take i) _ (List.Perm.refl _)
      rw [List.take_add_one, hb, Option.toList_some, List.foldl_append]
      generalize (bs.take i).foldl (fun acc b => movedI acc (faroI n (!b))) (rngI 0 1 n) = acc at *
      have hal := hpm.length_eq
      rw [rngI_length] at hal
      have hfp := faro_perm n (!b)
      have hfl := hfp.length_eq
      rw [rngI_length] at hfl
      simp only [sRet, sRetN, sIf, sDrop, sNever, sNext, sBreak, sCont, sAsg, sPar, sPar3, sAug, dName, dNil, dCons, dTup, dSub, sSetL, wVar, wC, wFrz, wFrzK, wOp, wAdd, nAdd, nI, nI0, wMul, nMul, wNeg, wEq, nEq, wIsN, wB, wAndT, wOrT, wNotT, wAndV, wOrV, wNotV, wIfE, wChain, aNil, aCons, aStar, wLst, wTup, wIx, nIx, pNo, pSo, wSl, wRev, wRevE, mIndex, wLenSet, cRepr, wIsB, wCB, cLen, cAll, cSum, cMax, cMin, cSorted, cInt, cList, cTuple, cIsi, wBits, wLRg, wBM, wBM0, mChg, wDGet, wDIn, wDNew, sDPutD, wIn, nIn, wCall, wCallK, wNew, tYesD, startD, List.map_cons, List.map_nil, List.length_cons, List.length_nil, List.replicate, Nat.sub_self, List.append_nil, List.cons_append, List.nil_append, List.getElem?_cons_zero, List.getElem?_cons_succ, List.set_cons_zero, List.set_cons_succ, Nat.reduceSub, Nat.reduceAdd, ite_true, ite_false, if_true, if_false, Bool.false_eq_true, Bool.true_eq_false, Bool.not_true, Bool.not_false, Option.some.injEq, nrm_non, nrm_bl, nrm_int, nrm_str, nrm_ty, nrm_lst, nrm_tupC, nrm_dct, nrm_scr, nrm_setL, wFgt, tyN_non, tyN_bl, tyN_int, tyN_str, tyN_lst, tyN_tup, tyN_dct, keyD_int, keyD_str, isA, okT, beq_self_eq_true, String.reduceBEq, Bool.or_false, Bool.or_true, Bool.and_false, Bool.and_true, Bool.true_or, Bool.false_or, Bool.true_and, Bool.false_and, true_and, and_true, List.any_cons, List.any_nil, tyNames, Option.map_some, iRn1, iRn2, iRn3, iLst, nIt, iTp, iEn, iZp, iSt, wipeD, atI0, atI1, atI2, atI3, ixN0, ixN1, ixN2, ixN3, wSub, wLt, wLe, wGt, wGe, wDiv, wMod, wPow, wShl, Mp.set_same, Mp.set_set, cSortedA, cDictP, wNewD, wEqS, nEqS, wFrzT, mExt, mCnt, nIxL, sAugS, wSlS, wJoin, cSumL, dUnl, cSortLL, cMinLL, wLenSetT, wLenDictT, mIndexB, wLenSetJ, wAddT, wSortSet, wDNewT, sDPutT, cSortDT, wBMd, wDGet1, wDGet2, mUpd, wPairs, wDisp, wLtS, cMinS, cListD]
      refine lc_ints (ns := faroI n (!b)) (P := fun _ => True) (fun m => acc.getD m.toNat 0) (fun R h => by simp only [sSeq, sRet, sRetN, sIf, sDrop, sNever, sNext, sBreak, sCont, sAsg, sPar, sPar3, sAug, dName, dNil, dCons, dTup, dSub, sSetL, wVar, wC, wFrz, wFrzK, wOp, wAdd, nAdd, nI, nI0, wMul, nMul, wNeg, wEq, nEq, wIsN, wB, wAndT, wOrT, wNotT, wAndV, wOrV, wNotV, wIfE, wChain, aNil, aCons, aStar, wLst, wTup, wIx, nIx, pNo, pSo, wSl, wRev, wRevE, mIndex, wLenSet, cRepr, wIsB, wCB, cLen, cAll, cSum, cMax, cMin, cSorted, cInt, cList, cTuple, cIsi, wBits, wLRg, wBM, wBM0, mChg, wDGet, wDIn, wDNew, sDPutD, wIn, nIn, wCall, wCallK, wNew, tYesD, startD, List.map_cons, List.map_nil, List.length_cons, List.length_nil, List.replicate, Nat.sub_self, List.append_nil, List.cons_append, List.nil_append, List.getElem?_cons_zero, List.getElem?_cons_succ, List.set_cons_zero, List.set_cons_succ, Nat.reduceSub, Nat.reduceAdd, ite_true, ite_false, if_true, if_false, Bool.false_eq_true, Bool.true_eq_false, Bool.not_true, Bool.not_false, Option.some.injEq, nrm_non, nrm_bl, nrm_int, nrm_str, nrm_ty, nrm_lst, nrm_tupC, nrm_dct, nrm_scr, nrm_setL, wFgt, tyN_non, tyN_bl, tyN_int, tyN_str, tyN_lst, tyN_tup, tyN_dct, keyD_int, keyD_str, isA, okT, beq_self_eq_true, String.reduceBEq, Bool.or_false, Bool.or_true, Bool.and_false, Bool.and_true, Bool.true_or, Bool.false_or, Bool.true_and, Bool.false_and, true_and, and_true, List.any_cons, List.any_nil, tyNames, Option.map_some, iRn1, iRn2, iRn3, iLst, nIt, iTp, iEn, iZp, iSt, wipeD, atI0, atI1, atI2, atI3, ixN0, ixN1, ixN2, ixN3, wSub, wLt, wLe, wGt, wGe, wDiv, wMod, wPow, wShl, Mp.set_same, Mp.set_set, cSortedA, cDictP, wNewD, wEqS, nEqS, wFrzT, mExt, mCnt, nIxL, sAugS, wSlS, wJoin, cSumL, dUnl, cSortLL, cMinLL, wLenSetT, wLenDictT, mIndexB, wLenSetJ, wAddT, wSortSet, wDNewT, sDPutT, cSortDT, wBMd, wDGet1, wDGet2, mUpd, wPairs, wDisp, wLtS, cMinS, cListD, hk b]; exact h) trivial (by rw [hfl]; exact (by first | omega | (unfold Sz; omega) | (simp only [List.length_map, List.length_append, List.length_cons, List.length_nil, rngI_length, List.length_take, List.length_drop, List.length_reverse]; unfold Sz; omega))) (fun m hm C c => ?_) ?_
      · have := mem_rngI.mp (hfp.mem_iff.mp hm)
        simp only [sSeq, sRet, sRetN, sIf, sDrop, sNever, sNext, sBreak, sCont, sAsg, sPar, sPar3, sAug, dName, dNil, dCons, dTup, dSub, sSetL, wVar, wC, wFrz, wFrzK, wOp, wAdd, nAdd, nI, nI0, wMul, nMul, wNeg, wEq, nEq, wIsN, wB, wAndT, wOrT, wNotT, wAndV, wOrV, wNotV, wIfE, wChain, aNil, aCons, aStar, wLst, wTup, wIx, nIx, pNo, pSo, wSl, wRev, wRevE, mIndex, wLenSet, cRepr, wIsB, wCB, cLen, cAll, cSum, cMax, cMin, cSorted, cInt, cList, cTuple, cIsi, wBits, wLRg, wBM, wBM0, mChg, wDGet, wDIn, wDNew, sDPutD, wIn, nIn, wCall, wCallK, wNew, tYesD, startD, List.map_cons, List.map_nil, List.length_cons, List.length_nil, List.replicate, Nat.sub_self, List.append_nil, List.cons_append, List.nil_append, List.getElem?_cons_zero, List.getElem?_cons_succ, List.set_cons_zero, List.set_cons_succ, Nat.reduceSub, Nat.reduceAdd, ite_true, ite_false, if_true, if_false, Bool.false_eq_true, Bool.true_eq_false, Bool.not_true, Bool.not_false, Option.some.injEq, nrm_non, nrm_bl, nrm_int, nrm_str, nrm_ty, nrm_lst, nrm_tupC, nrm_dct, nrm_scr, nrm_setL, wFgt, tyN_non, tyN_bl, tyN_int, tyN_str, tyN_lst, tyN_tup, tyN_dct, keyD_int, keyD_str, isA, okT, beq_self_eq_true, String.reduceBEq, Bool.or_false, Bool.or_true, Bool.and_false, Bool.and_true, Bool.true_or, Bool.false_or, Bool.true_and, Bool.false_and, true_and, and_true, List.any_cons, List.any_nil, tyNames, Option.map_some, iRn1, iRn2, iRn3, iLst, nIt, iTp, iEn, iZp, iSt, wipeD, atI0, atI1, atI2, atI3, ixN0, ixN1, ixN2, ixN3, wSub, wLt, wLe, wGt, wGe, wDiv, wMod, wPow, wShl, Mp.set_same, Mp.set_set, cSortedA, cDictP, wNewD, wEqS, nEqS, wFrzT, mExt, mCnt, nIxL, sAugS, wSlS, wJoin, cSumL, dUnl, cSortLL, cMinLL, wLenSetT, wLenDictT, mIndexB, wLenSetJ, wAddT, wSortSet, wDNewT, sDPutT, cSortDT, wBMd, wDGet1, wDGet2, mUpd, wPairs, wDisp, wLtS, cMinS, cListD, nrm_refL hM4a, atI_int (ns := acc) (i := m) this.1 (by omega)]
        exact c
      · intro a2 ha2
        exact ⟨a2, _, _, rfl, hle.put (hle.none ha2), hle.none ha2, Mp.set_same⟩
    · obtain ⟨a, y4, y5, rfl, hle, hMa, hM4a⟩ := w
      rw [List.length_map, List.take_length] at hM4a
      simp only [sSeq, sRet, sRetN, sIf, sDrop, sNever, sNext, sBreak, sCont, sAsg, sPar, sPar3, sAug, dName, dNil, dCons, dTup, dSub, sSetL, wVar, wC, wFrz, wFrzK, wOp, wAdd, nAdd, nI, nI0, wMul, nMul, wNeg, wEq, nEq, wIsN, wB, wAndT, wOrT, wNotT, wAndV, wOrV, wNotV, wIfE, wChain, aNil, aCons, aStar, wLst, wTup, wIx, nIx, pNo, pSo, wSl, wRev, wRevE, mIndex, wLenSet, cRepr, wIsB, wCB, cLen, cAll, cSum, cMax, cMin, cSorted, cInt, cList, cTuple, cIsi, wBits, wLRg, wBM, wBM0, mChg, wDGet, wDIn, wDNew, sDPutD, wIn, nIn, wCall, wCallK, wNew, tYesD, startD, List.map_cons, List.map_nil, List.length_cons, List.length_nil, List.replicate, Nat.sub_self, List.append_nil, List.cons_append, List.nil_append, List.getElem?_cons_zero, List.getElem?_cons_succ, List.set_cons_zero, List.set_cons_succ, Nat.reduceSub, Nat.reduceAdd, ite_true, ite_false, if_true, if_false, Bool.false_eq_true, Bool.true_eq_false, Bool.not_true, Bool.not_false, Option.some.injEq, nrm_non, nrm_bl, nrm_int, nrm_str, nrm_ty, nrm_lst, nrm_tupC, nrm_dct, nrm_scr, nrm_setL, wFgt, tyN_non, tyN_bl, tyN_int, tyN_str, tyN_lst, tyN_tup, tyN_dct, keyD_int, keyD_str, isA, okT, beq_self_eq_true, String.reduceBEq, Bool.or_false, Bool.or_true, Bool.and_false, Bool.and_true, Bool.true_or, Bool.false_or, Bool.true_and, Bool.false_and, true_and, and_true, List.any_cons, List.any_nil, tyNames, Option.map_some, iRn1, iRn2, iRn3, iLst, nIt, iTp, iEn, iZp, iSt, wipeD, atI0, atI1, atI2, atI3, ixN0, ixN1, ixN2, ixN3, wSub, wLt, wLe, wGt, wGe, wDiv, wMod, wPow, wShl, Mp.set_same, Mp.set_set, cSortedA, cDictP, wNewD, wEqS, nEqS, wFrzT, mExt, mCnt, nIxL, sAugS, wSlS, wJoin, cSumL, dUnl, cSortLL, cMinLL, wLenSetT, wLenDictT, mIndexB, wLenSetJ, wAddT, wSortSet, wDNewT, sDPutT, cSortDT, wBMd, wDGet1, wDGet2, mUpd, wPairs, wDisp, wLtS, cMinS, cListD]
      refine ⟨M.set a (.lst ((doneI n bs).map .int)), fun x v hv => ?_, q a hMa⟩
      by_cases e : x = a
      · subst e
        rw [Mp.set_same] at hv
        cases hv
        exact hM4a
      · rw [Mp.set_ne e] at hv
        exact hle x v hv
abbrev s_next_place : Stmt := topS 20
theorem sc_next_place : FnScope ["many", "kind", "place"] ["many", "kind", "place"] (defScope s_next_place) := ⟨rfl, rfl, rfl, by decide +kernel, rfl, by decide +kernel, by decide +kernel⟩
theorem ok_next_place {f : Addr} {fd : FuncData} (F : FnP K "next_place" s_next_place [] f fd)
    {f_number_of : Addr} {fd_number_of : FuncData} {ds_number_of : List Value} (G_number_of : Kn P w K mg base "number_of" ["many", "kind"] R_number_of 1 [] ds_number_of f_number_of fd_number_of)
    (m_int : mg "int" = none) :
    FnG P w K mg base 2 f fd ["many", "kind", "place"] (spD R_next_place) := by
  have nd := sc_next_place.nd
  refine fnD (k := 1) F sc_next_place len_next_place fun cdv A outer s H E hr hq => ?_
  have hu := hu_of hr
  have hr65 := room65 hr
  have hr66 := room66 hr
  refine ⟨_, _, pss_cons (ps_if (PW.pt (pw_and (pt_cmpR ((op_eqD hr.units).or op_eq) (pv 1) (pe_str) (nomark _)) (pw_and (pt_cmpR ((op_eqD hr.units).or op_eq) (pe_op op_mod (pv 0) (pe_int)) (pe_int) (nomark _)) (pw_and1 (pt_cmpR ((op_eqD hr.units).or op_eq) (pv 2) (pe_op op_sub (pv 0) (pe_int)) (nomark _)))))) (pss_one (ps_ret (pv 2))) (pss_nil))
      (pss_one (ps_ret (pe_op op_mod (pe_op op_addA (pe_op op_mulA (pe_int) (pv 2)) (pe_callTy call_int1 (by rfl) m_int (by decide +kernel) (pa_cons (pe_cmpR ((op_eqD hr.units).or op_eq) (pv 1) (pe_str) (nomark _)) (pa_nil)))) (pe_callG (G_number_of.ok.mono (by decide)) hr hq (by rfl) G_number_of.m G_number_of.kp G_number_of.b G_number_of.dv (pa_cons (pv 0) (pa_cons (pv 1) (pa_nil))))))),
    ts_seq (ts_if (tt_and (tt_test (tr_op ot_eqS (tr_var (i := 1)) (tr_str))) (tt_and (tt_test (tr_op ot_eqS (tr_op (ot_mod) (tr_var (i := 0)) (tr_int)) (tr_int))) (tt_test (tr_op ot_eqS (tr_var (i := 2)) (tr_op (ot_sub) (tr_var (i := 0)) (tr_int)))))) (ts_ret (tr_var (i := 2))) (ts_next))
      (ts_ret (tr_op (ot_mod) (tr_op (ot_add (K := K) (md := .frz)) (tr_op (ot_mul (md := .frz)) (tr_int) (tr_var (i := 2))) (tr_cb ct_int (ta_cons (tr_op ot_eqS (tr_var (i := 1)) (tr_str)) (ta_nil)))) (tr_call (ta_cons (tr_var (i := 0)) (ta_cons (tr_var (i := 1)) (ta_nil)))))), ?_⟩
  rintro ds M Q ⟨n, out, p, rfl, hp, hn, q⟩
  have ek : decide (kindS out = "out") = out := by cases out <;> decide
  have ei : decide (kindS out = "in") = !out := by cases out <;> decide
  ((try simp only [sSeq]); simp only [sRet, sRetN, sIf, sDrop, sNever, sNext, sBreak, sCont, sAsg, sPar, sPar3, sAug, dName, dNil, dCons, dTup, dSub, sSetL, wVar, wC, wFrz, wFrzK, wOp, wAdd, nAdd, nI, nI0, wMul, nMul, wNeg, wEq, nEq, wIsN, wB, wAndT, wOrT, wNotT, wAndV, wOrV, wNotV, wIfE, wChain, aNil, aCons, aStar, wLst, wTup, wIx, nIx, pNo, pSo, wSl, wRev, wRevE, mIndex, wLenSet, cRepr, wIsB, wCB, cLen, cAll, cSum, cMax, cMin, cSorted, cInt, cList, cTuple, cIsi, wBits, wLRg, wBM, wBM0, mChg, wDGet, wDIn, wDNew, sDPutD, wIn, nIn, wCall, wCallK, wNew, tYesD, startD, List.map_cons, List.map_nil, List.length_cons, List.length_nil, List.replicate, Nat.sub_self, List.append_nil, List.cons_append, List.nil_append, List.getElem?_cons_zero, List.getElem?_cons_succ, List.set_cons_zero, List.set_cons_succ, Nat.reduceSub, Nat.reduceAdd, ite_true, ite_false, if_true, if_false, Bool.false_eq_true, Bool.true_eq_false, Bool.not_true, Bool.not_false, Option.some.injEq, nrm_non, nrm_bl, nrm_int, nrm_str, nrm_ty, nrm_lst, nrm_tupC, nrm_dct, nrm_scr, nrm_setL, wFgt, tyN_non, tyN_bl, tyN_int, tyN_str, tyN_lst, tyN_tup, tyN_dct, keyD_int, keyD_str, isA, okT, beq_self_eq_true, String.reduceBEq, Bool.or_false, Bool.or_true, Bool.and_false, Bool.and_true, Bool.true_or, Bool.false_or, Bool.true_and, Bool.false_and, true_and, and_true, List.any_cons, List.any_nil, tyNames, Option.map_some, iRn1, iRn2, iRn3, iLst, nIt, iTp, iEn, iZp, iSt, wipeD, atI0, atI1, atI2, atI3, ixN0, ixN1, ixN2, ixN3, wSub, wLt, wLe, wGt, wGe, wDiv, wMod, wPow, wShl, Mp.set_same, Mp.set_set, cSortedA, cDictP, wNewD, wEqS, nEqS, wFrzT, mExt, mCnt, nIxL, sAugS, wSlS, wJoin, cSumL, dUnl, cSortLL, cMinLL, wLenSetT, wLenDictT, mIndexB, wLenSetJ, wAddT, wSortSet, wDNewT, sDPutT, cSortDT, wBMd, wDGet1, wDGet2, mUpd, wPairs, wDisp, wLtS, cMinS, cListD, ek, ei])
  have hN : 0 < numN n out := by unfold numN; split <;> omega
  have last : ∀ b : Nat, b = (if out then 0 else 1) → (n % 2 = 0 → out = true → p ≠ n - 1) → 0 < numI n out ∧ Q (.int ((2 * (p : Int) + (b : Int)) % numI n out)) M := fun b hb hne => by
    rw [numI_nat (by omega)]
    refine ⟨by omega, ?_⟩
    have e : (2 * (p : Int) + (b : Int)) % (numN n out : Int) = (((2 * p + b) % numN n out : Nat) : Int) := by simp
    rw [e]
    have hc : (out && (n % 2 == 0 && p == n - 1)) = false := by
      cases hh : (out && (n % 2 == 0 && p == n - 1)) with
      | false => rfl
      | true => simp only [Bool.and_eq_true, beq_iff_eq] at hh; exact absurd hh.2.2 (hne hh.2.1 hh.1)
    unfold nxF at q
    rw [hc, if_neg (by decide), ← hb] at q
    exact q
  cases out
  · rw [if_neg (by decide)]
    refine ⟨.inl (by decide), n, false, rfl, ?_⟩
    exact last 1 rfl (fun _ h => nomatch h)
  · rw [if_pos rfl]
    refine ⟨by decide, ?_⟩
    by_cases h : n % 2 = 0
    · have e1 : decide ((n : Int) % 2 = 0) = true := decide_eq_true (by omega)
      rw [e1, if_pos rfl]
      by_cases h2 : p = n - 1
      · have e2 : decide ((p : Int) = (n : Int) - 1) = true := decide_eq_true (by omega)
        rw [e2, if_pos rfl]
        unfold nxF at q
        rw [if_pos (by simp [h, h2])] at q
        exact q
      · have e2 : decide ((p : Int) = (n : Int) - 1) = false := decide_eq_false (by omega)
        rw [e2, if_neg (by decide)]
        refine ⟨.inl (by decide), n, true, rfl, ?_⟩
        exact last 0 rfl (fun _ _ => h2)
    · have e1 : decide ((n : Int) % 2 = 0) = false := decide_eq_false (by omega)
      rw [e1, if_neg (by decide)]
      refine ⟨.inl (by decide), n, true, rfl, ?_⟩
      exact last 0 rfl (fun h' => absurd h' h)
abbrev s_law_draw : Stmt := topS 27
theorem sc_law_draw : FnScope ["purse", "many", "drawn", "found", "piece"] ["purse", "many"] (defScope s_law_draw) := ⟨rfl, rfl, rfl, by decide +kernel, rfl, by decide +kernel, by decide +kernel⟩
theorem ok_law_draw {f : Addr} {fd : FuncData} (F : FnP K "_law_draw" s_law_draw [] f fd)
    {f_law_mixed : Addr} {fd_law_mixed : FuncData} {ds_law_mixed : List Value} (G_law_mixed : Kn P w K mg base "_law_mixed" ["seed", "spin", "at"] R_law_mixed 1 [] ds_law_mixed f_law_mixed fd_law_mixed)
    (m_int : mg "int" = none)
    (m_range : mg "range" = none) :
    FnG P w K mg base 2 f fd ["purse", "many"] (spD R_law_draw) := by
  have nd := sc_law_draw.nd
  refine fnD (k := 1) F sc_law_draw len_law_draw fun cdv A outer s H E hr hq => ?_
  have hu := hu_of hr
  have hr65 := room65 hr
  have hr66 := room66 hr
  refine ⟨_, _, pss_cons (ps_if (pt_cmpR (op_gt) (pe_ix ix_seq (pv 0) (pe_int) (fun _ _ => rfl)) (pe_int) (nomark _)) (pss_cons (ps_set (i := 2) nd rfl (by first | exact .inl rfl | exact .inr rfl) (pe_op op_mod (pe_callTy call_int1 (by rfl) m_int (by decide +kernel) (pa_cons (pe_ix ix_seq (pv 0) (pe_int) (fun _ _ => rfl)) (pa_nil))) (pv 1)))
      (pss_cons (ps_asg (pe_op op_fdivW (pe_ix ix_seq (pv 0) (pe_int) (fun _ _ => rfl)) (pv 1)) (pg_sub (pv 0) (pe_int) set_list))
      (pss_one (ps_ret (pv 2))))) (pss_nil))
      (pss_cons (ps_set (i := 3) nd rfl (by first | exact .inl rfl | exact .inr rfl) (pe_int))
      (pss_cons (ps_for PassesOwn.never rfl (pi_range1 (by rfl) m_range (pa_cons (pe_op op_addA (pe_int) (pe_op op_fdivW (pe_bits (pv 1)) (pe_int))) (pa_nil))) (pg_name (i := 4) nd rfl (by first | exact .inl rfl | exact .inr rfl)) (pss_cons (ps_asg (pe_op op_addA (pe_ix ix_seq (pv 0) (pe_int) (fun _ _ => rfl)) (pe_int)) (pg_sub (pv 0) (pe_int) set_list))
      (pss_one (ps_set (i := 3) nd rfl (by first | exact .inl rfl | exact .inr rfl) (pe_op op_addA (pe_op op_mulA (pv 3) (pe_int)) (pe_callG (G_law_mixed.ok.mono (by decide)) hr hq (by rfl) G_law_mixed.m G_law_mixed.kp G_law_mixed.b G_law_mixed.dv (pa_cons (pe_ix ix_seq (pv 0) (pe_int) (fun _ _ => rfl)) (pa_cons (pe_ix ix_seq (pv 0) (pe_int) (fun _ _ => rfl)) (pa_cons (pe_ix ix_seq (pv 0) (pe_int) (fun _ _ => rfl)) (pa_nil))))))))))
      (pss_one (ps_ret (pe_op op_mod (pe_callTy call_int1 (by rfl) m_int (by decide +kernel) (pa_cons (pv 3) (pa_nil))) (pv 1)))))),
    ts_seq (ts_if (tt_test (tr_op ot_gt (tr_op ot_ix (tr_var (i := 0)) (tr_int)) (tr_int))) (ts_seq (ts_asg (tr_op (ot_mod) (tr_cb ct_int (ta_cons (tr_op ot_ix (tr_var (i := 0)) (tr_int)) (ta_nil))) (tr_var (i := 1))) (tg_name (i := 2)))
      (ts_seq (ts_asg (tr_op (ot_div) (tr_op ot_ix (tr_var (i := 0)) (tr_int)) (tr_var (i := 1))) (tg_sub (tr_var (i := 0)) (tr_int) tset_list))
      (ts_ret (tr_var (i := 2))))) (ts_next))
      (ts_seq (ts_asg (tr_int) (tg_name (i := 3)))
      (ts_seq (ts_for (ti_rng1 (ta_cons (tr_op (ot_add (K := K) (md := .frz)) (tr_int) (tr_op (ot_div) (tr_bits (tr_var (i := 1))) (tr_int))) (ta_nil))) (tg_name (i := 4)) (ts_seq (ts_asg (tr_op (ot_add (K := K) (md := .frz)) (tr_op ot_ix (tr_var (i := 0)) (tr_int)) (tr_int)) (tg_sub (tr_var (i := 0)) (tr_int) tset_list))
      (ts_asg (tr_op (ot_add (K := K) (md := .frz)) (tr_op (ot_mul (md := .frz)) (tr_var (i := 3)) (tr_int)) (tr_call (ta_cons (tr_op ot_ix (tr_var (i := 0)) (tr_int)) (ta_cons (tr_op ot_ix (tr_var (i := 0)) (tr_int)) (ta_cons (tr_op ot_ix (tr_var (i := 0)) (tr_int)) (ta_nil)))))) (tg_name (i := 3)))))
      (ts_ret (tr_op (ot_mod) (tr_cb ct_int (ta_cons (tr_var (i := 3)) (ta_nil))) (tr_var (i := 1)))))), ?_⟩
  rintro ds M Q ⟨p, xs, m, B, rfl, hp, hx, hB, h0, h1, q⟩
  obtain ⟨a, b, c, e, rfl, ha, hb, hc, he⟩ := hx
  have hbits := bits_le h0 h1
  simp only [sSeq, sRet, sRetN, sIf, sDrop, sNever, sNext, sBreak, sCont, sAsg, sPar, sPar3, sAug, dName, dNil, dCons, dTup, dSub, sSetL, wVar, wC, wFrz, wFrzK, wOp, wAdd, nAdd, nI, nI0, wMul, nMul, wNeg, wEq, nEq, wIsN, wB, wAndT, wOrT, wNotT, wAndV, wOrV, wNotV, wIfE, wChain, aNil, aCons, aStar, wLst, wTup, wIx, nIx, pNo, pSo, wSl, wRev, wRevE, mIndex, wLenSet, cRepr, wIsB, wCB, cLen, cAll, cSum, cMax, cMin, cSorted, cInt, cList, cTuple, cIsi, wBits, wLRg, wBM, wBM0, mChg, wDGet, wDIn, wDNew, sDPutD, wIn, nIn, wCall, wCallK, wNew, tYesD, startD, List.map_cons, List.map_nil, List.length_cons, List.length_nil, List.replicate, Nat.sub_self, List.append_nil, List.cons_append, List.nil_append, List.getElem?_cons_zero, List.getElem?_cons_succ, List.set_cons_zero, List.set_cons_succ, Nat.reduceSub, Nat.reduceAdd, ite_true, ite_false, if_true, if_false, Bool.false_eq_true, Bool.true_eq_false, Bool.not_true, Bool.not_false, Option.some.injEq, nrm_non, nrm_bl, nrm_int, nrm_str, nrm_ty, nrm_lst, nrm_tupC, nrm_dct, nrm_scr, nrm_setL, wFgt, tyN_non, tyN_bl, tyN_int, tyN_str, tyN_lst, tyN_tup, tyN_dct, keyD_int, keyD_str, isA, okT, beq_self_eq_true, String.reduceBEq, Bool.or_false, Bool.or_true, Bool.and_false, Bool.and_true, Bool.true_or, Bool.false_or, Bool.true_and, Bool.false_and, true_and, and_true, List.any_cons, List.any_nil, tyNames, Option.map_some, iRn1, iRn2, iRn3, iLst, nIt, iTp, iEn, iZp, iSt, wipeD, atI0, atI1, atI2, atI3, ixN0, ixN1, ixN2, ixN3, wSub, wLt, wLe, wGt, wGe, wDiv, wMod, wPow, wShl, Mp.set_same, Mp.set_set, cSortedA, cDictP, wNewD, wEqS, nEqS, wFrzT, mExt, mCnt, nIxL, sAugS, wSlS, wJoin, cSumL, dUnl, cSortLL, cMinLL, wLenSetT, wLenDictT, mIndexB, wLenSetJ, wAddT, wSortSet, wDNewT, sDPutT, cSortDT, wBMd, wDGet1, wDGet2, mUpd, wPairs, wDisp, wLtS, cMinS, cListD, nrm_refL hp]
  by_cases hpos : 0 < a
  · simp only [sSeq, sRet, sRetN, sIf, sDrop, sNever, sNext, sBreak, sCont, sAsg, sPar, sPar3, sAug, dName, dNil, dCons, dTup, dSub, sSetL, wVar, wC, wFrz, wFrzK, wOp, wAdd, nAdd, nI, nI0, wMul, nMul, wNeg, wEq, nEq, wIsN, wB, wAndT, wOrT, wNotT, wAndV, wOrV, wNotV, wIfE, wChain, aNil, aCons, aStar, wLst, wTup, wIx, nIx, pNo, pSo, wSl, wRev, wRevE, mIndex, wLenSet, cRepr, wIsB, wCB, cLen, cAll, cSum, cMax, cMin, cSorted, cInt, cList, cTuple, cIsi, wBits, wLRg, wBM, wBM0, mChg, wDGet, wDIn, wDNew, sDPutD, wIn, nIn, wCall, wCallK, wNew, tYesD, startD, List.map_cons, List.map_nil, List.length_cons, List.length_nil, List.replicate, Nat.sub_self, List.append_nil, List.cons_append, List.nil_append, List.getElem?_cons_zero, List.getElem?_cons_succ, List.set_cons_zero, List.set_cons_succ, Nat.reduceSub, Nat.reduceAdd, ite_true, ite_false, if_true, if_false, Bool.false_eq_true, Bool.true_eq_false, Bool.not_true, Bool.not_false, Option.some.injEq, nrm_non, nrm_bl, nrm_int, nrm_str, nrm_ty, nrm_lst, nrm_tupC, nrm_dct, nrm_scr, nrm_setL, wFgt, tyN_non, tyN_bl, tyN_int, tyN_str, tyN_lst, tyN_tup, tyN_dct, keyD_int, keyD_str, isA, okT, beq_self_eq_true, String.reduceBEq, Bool.or_false, Bool.or_true, Bool.and_false, Bool.and_true, Bool.true_or, Bool.false_or, Bool.true_and, Bool.false_and, true_and, and_true, List.any_cons, List.any_nil, tyNames, Option.map_some, iRn1, iRn2, iRn3, iLst, nIt, iTp, iEn, iZp, iSt, wipeD, atI0, atI1, atI2, atI3, ixN0, ixN1, ixN2, ixN3, wSub, wLt, wLe, wGt, wGe, wDiv, wMod, wPow, wShl, Mp.set_same, Mp.set_set, cSortedA, cDictP, wNewD, wEqS, nEqS, wFrzT, mExt, mCnt, nIxL, sAugS, wSlS, wJoin, cSumL, dUnl, cSortLL, cMinLL, wLenSetT, wLenDictT, mIndexB, wLenSetJ, wAddT, wSortSet, wDNewT, sDPutT, cSortDT, wBMd, wDGet1, wDGet2, mUpd, wPairs, wDisp, wLtS, cMinS, cListD, hpos, decide_true, hp]
    exact ⟨by omega, ⟨h0, .inr (log_le h0 h1)⟩, q _ _ (Int.emod_nonneg _ (by omega)) (Int.emod_lt_of_pos _ h0) ⟨_, _, _, _, rfl, Int.ediv_nonneg ha (by omega), hb, ⟨by omega, by omega⟩, he⟩⟩
  · simp only [sSeq, sRet, sRetN, sIf, sDrop, sNever, sNext, sBreak, sCont, sAsg, sPar, sPar3, sAug, dName, dNil, dCons, dTup, dSub, sSetL, wVar, wC, wFrz, wFrzK, wOp, wAdd, nAdd, nI, nI0, wMul, nMul, wNeg, wEq, nEq, wIsN, wB, wAndT, wOrT, wNotT, wAndV, wOrV, wNotV, wIfE, wChain, aNil, aCons, aStar, wLst, wTup, wIx, nIx, pNo, pSo, wSl, wRev, wRevE, mIndex, wLenSet, cRepr, wIsB, wCB, cLen, cAll, cSum, cMax, cMin, cSorted, cInt, cList, cTuple, cIsi, wBits, wLRg, wBM, wBM0, mChg, wDGet, wDIn, wDNew, sDPutD, wIn, nIn, wCall, wCallK, wNew, tYesD, startD, List.map_cons, List.map_nil, List.length_cons, List.length_nil, List.replicate, Nat.sub_self, List.append_nil, List.cons_append, List.nil_append, List.getElem?_cons_zero, List.getElem?_cons_succ, List.set_cons_zero, List.set_cons_succ, Nat.reduceSub, Nat.reduceAdd, ite_true, ite_false, if_true, if_false, Bool.false_eq_true, Bool.true_eq_false, Bool.not_true, Bool.not_false, Option.some.injEq, nrm_non, nrm_bl, nrm_int, nrm_str, nrm_ty, nrm_lst, nrm_tupC, nrm_dct, nrm_scr, nrm_setL, wFgt, tyN_non, tyN_bl, tyN_int, tyN_str, tyN_lst, tyN_tup, tyN_dct, keyD_int, keyD_str, isA, okT, beq_self_eq_true, String.reduceBEq, Bool.or_false, Bool.or_true, Bool.and_false, Bool.and_true, Bool.true_or, Bool.false_or, Bool.true_and, Bool.false_and, true_and, and_true, List.any_cons, List.any_nil, tyNames, Option.map_some, iRn1, iRn2, iRn3, iLst, nIt, iTp, iEn, iZp, iSt, wipeD, atI0, atI1, atI2, atI3, ixN0, ixN1, ixN2, ixN3, wSub, wLt, wLe, wGt, wGe, wDiv, wMod, wPow, wShl, Mp.set_same, Mp.set_set, cSortedA, cDictP, wNewD, wEqS, nEqS, wFrzT, mExt, mCnt, nIxL, sAugS, wSlS, wJoin, cSumL, dUnl, cSortLL, cMinLL, wLenSetT, wLenDictT, mIndexB, wLenSetJ, wAddT, wSortSet, wDNewT, sDPutT, cSortDT, wBMd, wDGet1, wDGet2, mUpd, wPairs, wDisp, wLtS, cMinS, cListD, hpos, decide_false]
    have hN : (1 + (Builtin.Int.intBits m : Int) / 28).toNat ≤ 3 := by omega
    refine for_ints (ns := rngI 0 1 (1 + (Builtin.Int.intBits m : Int) / 28).toNat) (P := fun _ => True) (fun i ρ M' => ∃ (c' f : Int) (y : Option D), ρ = [some (.ref p), some (.int m), none, some (.int f), y] ∧ M' = M.set p (.lst [.int a, .int b, .int c', .int e]) ∧ 0 ≤ c' ∧ c' ≤ B + i) (fun R h => ?_)
      ⟨c, 0, none, rfl, (Mp.set_self hp).symm, by omega, by omega⟩ (fun _ _ _ _ _ => trivial) (fun i k ρ M' hk w => ?_) (fun ρ M' w => ?_)
    · simp only [sSeq, sRet, sRetN, sIf, sDrop, sNever, sNext, sBreak, sCont, sAsg, sPar, sPar3, sAug, dName, dNil, dCons, dTup, dSub, sSetL, wVar, wC, wFrz, wFrzK, wOp, wAdd, nAdd, nI, nI0, wMul, nMul, wNeg, wEq, nEq, wIsN, wB, wAndT, wOrT, wNotT, wAndV, wOrV, wNotV, wIfE, wChain, aNil, aCons, aStar, wLst, wTup, wIx, nIx, pNo, pSo, wSl, wRev, wRevE, mIndex, wLenSet, cRepr, wIsB, wCB, cLen, cAll, cSum, cMax, cMin, cSorted, cInt, cList, cTuple, cIsi, wBits, wLRg, wBM, wBM0, mChg, wDGet, wDIn, wDNew, sDPutD, wIn, nIn, wCall, wCallK, wNew, tYesD, startD, List.map_cons, List.map_nil, List.length_cons, List.length_nil, List.replicate, Nat.sub_self, List.append_nil, List.cons_append, List.nil_append, List.getElem?_cons_zero, List.getElem?_cons_succ, List.set_cons_zero, List.set_cons_succ, Nat.reduceSub, Nat.reduceAdd, ite_true, ite_false, if_true, if_false, Bool.false_eq_true, Bool.true_eq_false, Bool.not_true, Bool.not_false, Option.some.injEq, nrm_non, nrm_bl, nrm_int, nrm_str, nrm_ty, nrm_lst, nrm_tupC, nrm_dct, nrm_scr, nrm_setL, wFgt, tyN_non, tyN_bl, tyN_int, tyN_str, tyN_lst, tyN_tup, tyN_dct, keyD_int, keyD_str, isA, okT, beq_self_eq_true, String.reduceBEq, Bool.or_false, Bool.or_true, Bool.and_false, Bool.and_true, Bool.true_or, Bool.false_or, Bool.true_and, Bool.false_and, true_and, and_true, List.any_cons, List.any_nil, tyNames, Option.map_some, iRn1, iRn2, iRn3, iLst, nIt, iTp, iEn, iZp, iSt, wipeD, atI0, atI1, atI2, atI3, ixN0, ixN1, ixN2, ixN3, wSub, wLt, wLe, wGt, wGe, wDiv, wMod, wPow, wShl, Mp.set_same, Mp.set_set, cSortedA, cDictP, wNewD, wEqS, nEqS, wFrzT, mExt, mCnt, nIxL, sAugS, wSlS, wJoin, cSumL, dUnl, cSortLL, cMinLL, wLenSetT, wLenDictT, mIndexB, wLenSetJ, wAddT, wSortSet, wDNewT, sDPutT, cSortDT, wBMd, wDGet1, wDGet2, mUpd, wPairs, wDisp, wLtS, cMinS, cListD]
      exact ⟨⟨by omega, .inl (by omega)⟩, ⟨by omega, by omega⟩, rngD_ints ▸ h⟩
    · obtain ⟨c', f', y, rfl, rfl, hc1, hc2⟩ := w
      obtain ⟨hi, _⟩ := rngI_get hk
      simp only [sSeq, sRet, sRetN, sIf, sDrop, sNever, sNext, sBreak, sCont, sAsg, sPar, sPar3, sAug, dName, dNil, dCons, dTup, dSub, sSetL, wVar, wC, wFrz, wFrzK, wOp, wAdd, nAdd, nI, nI0, wMul, nMul, wNeg, wEq, nEq, wIsN, wB, wAndT, wOrT, wNotT, wAndV, wOrV, wNotV, wIfE, wChain, aNil, aCons, aStar, wLst, wTup, wIx, nIx, pNo, pSo, wSl, wRev, wRevE, mIndex, wLenSet, cRepr, wIsB, wCB, cLen, cAll, cSum, cMax, cMin, cSorted, cInt, cList, cTuple, cIsi, wBits, wLRg, wBM, wBM0, mChg, wDGet, wDIn, wDNew, sDPutD, wIn, nIn, wCall, wCallK, wNew, tYesD, startD, List.map_cons, List.map_nil, List.length_cons, List.length_nil, List.replicate, Nat.sub_self, List.append_nil, List.cons_append, List.nil_append, List.getElem?_cons_zero, List.getElem?_cons_succ, List.set_cons_zero, List.set_cons_succ, Nat.reduceSub, Nat.reduceAdd, ite_true, ite_false, if_true, if_false, Bool.false_eq_true, Bool.true_eq_false, Bool.not_true, Bool.not_false, Option.some.injEq, nrm_non, nrm_bl, nrm_int, nrm_str, nrm_ty, nrm_lst, nrm_tupC, nrm_dct, nrm_scr, nrm_setL, wFgt, tyN_non, tyN_bl, tyN_int, tyN_str, tyN_lst, tyN_tup, tyN_dct, keyD_int, keyD_str, isA, okT, beq_self_eq_true, String.reduceBEq, Bool.or_false, Bool.or_true, Bool.and_false, Bool.and_true, Bool.true_or, Bool.false_or, Bool.true_and, Bool.false_and, true_and, and_true, List.any_cons, List.any_nil, tyNames, Option.map_some, iRn1, iRn2, iRn3, iLst, nIt, iTp, iEn, iZp, iSt, wipeD, atI0, atI1, atI2, atI3, ixN0, ixN1, ixN2, ixN3, wSub, wLt, wLe, wGt, wGe, wDiv, wMod, wPow, wShl, Mp.set_same, Mp.set_set, cSortedA, cDictP, wNewD, wEqS, nEqS, wFrzT, mExt, mCnt, nIxL, sAugS, wSlS, wJoin, cSumL, dUnl, cSortLL, cMinLL, wLenSetT, wLenDictT, mIndexB, wLenSetJ, wAddT, wSortSet, wDNewT, sDPutT, cSortDT, wBMd, wDGet1, wDGet2, mUpd, wPairs, wDisp, wLtS, cMinS, cListD]
      refine ⟨.inr (.inl (by omega)), b, c' + 1, e, rfl, hb, ⟨by omega, by omega⟩, fun r _ _ => ?_⟩
      exact ⟨c' + 1, f' * 2147483587 + r, some (.int k), rfl, rfl, by omega, by omega⟩
    · obtain ⟨c', f', y, rfl, rfl, hc1, hc2⟩ := w
      rw [rngI_length] at hc2
      simp only [sSeq, sRet, sRetN, sIf, sDrop, sNever, sNext, sBreak, sCont, sAsg, sPar, sPar3, sAug, dName, dNil, dCons, dTup, dSub, sSetL, wVar, wC, wFrz, wFrzK, wOp, wAdd, nAdd, nI, nI0, wMul, nMul, wNeg, wEq, nEq, wIsN, wB, wAndT, wOrT, wNotT, wAndV, wOrV, wNotV, wIfE, wChain, aNil, aCons, aStar, wLst, wTup, wIx, nIx, pNo, pSo, wSl, wRev, wRevE, mIndex, wLenSet, cRepr, wIsB, wCB, cLen, cAll, cSum, cMax, cMin, cSorted, cInt, cList, cTuple, cIsi, wBits, wLRg, wBM, wBM0, mChg, wDGet, wDIn, wDNew, sDPutD, wIn, nIn, wCall, wCallK, wNew, tYesD, startD, List.map_cons, List.map_nil, List.length_cons, List.length_nil, List.replicate, Nat.sub_self, List.append_nil, List.cons_append, List.nil_append, List.getElem?_cons_zero, List.getElem?_cons_succ, List.set_cons_zero, List.set_cons_succ, Nat.reduceSub, Nat.reduceAdd, ite_true, ite_false, if_true, if_false, Bool.false_eq_true, Bool.true_eq_false, Bool.not_true, Bool.not_false, Option.some.injEq, nrm_non, nrm_bl, nrm_int, nrm_str, nrm_ty, nrm_lst, nrm_tupC, nrm_dct, nrm_scr, nrm_setL, wFgt, tyN_non, tyN_bl, tyN_int, tyN_str, tyN_lst, tyN_tup, tyN_dct, keyD_int, keyD_str, isA, okT, beq_self_eq_true, String.reduceBEq, Bool.or_false, Bool.or_true, Bool.and_false, Bool.and_true, Bool.true_or, Bool.false_or, Bool.true_and, Bool.false_and, true_and, and_true, List.any_cons, List.any_nil, tyNames, Option.map_some, iRn1, iRn2, iRn3, iLst, nIt, iTp, iEn, iZp, iSt, wipeD, atI0, atI1, atI2, atI3, ixN0, ixN1, ixN2, ixN3, wSub, wLt, wLe, wGt, wGe, wDiv, wMod, wPow, wShl, Mp.set_same, Mp.set_set, cSortedA, cDictP, wNewD, wEqS, nEqS, wFrzT, mExt, mCnt, nIxL, sAugS, wSlS, wJoin, cSumL, dUnl, cSortLL, cMinLL, wLenSetT, wLenDictT, mIndexB, wLenSetJ, wAddT, wSortSet, wDNewT, sDPutT, cSortDT, wBMd, wDGet1, wDGet2, mUpd, wPairs, wDisp, wLtS, cMinS, cListD]
      exact ⟨h0, q _ _ (Int.emod_nonneg _ (by omega)) (Int.emod_lt_of_pos _ h0) ⟨a, b, c', e, rfl, ha, hb, ⟨hc1, by omega⟩, he⟩⟩
abbrev s_law_done : Stmt := topS 33
theorem sc_law_done : FnScope ["many", "word", "found", "sign"] ["many", "word"] (defScope s_law_done) := ⟨rfl, rfl, rfl, by decide +kernel, rfl, by decide +kernel, by decide +kernel⟩
theorem ok_law_done {f : Addr} {fd : FuncData} (F : FnP K "_law_done" s_law_done [] f fd)
    {f_law_then : Addr} {fd_law_then : FuncData} {ds_law_then : List Value} (G_law_then : Kn P w K mg base "_law_then" ["one", "other"] R_law_then 1 [] ds_law_then f_law_then fd_law_then)
    {f_law_faro : Addr} {fd_law_faro : FuncData} {ds_law_faro : List Value} (G_law_faro : Kn P w K mg base "_law_faro" ["many", "kind"] R_law_faro 1 [] ds_law_faro f_law_faro fd_law_faro)
    (m_list : mg "list" = none)
    (m_range : mg "range" = none) :
    FnG P w K mg base 2 f fd ["many", "word"] (spD R_law_done) := by
  have nd := sc_law_done.nd
  refine fnD (k := 1) F sc_law_done len_law_done fun cdv A outer s H E hr hq => ?_
  have hu := hu_of hr
  have hr65 := room65 hr
  have hr66 := room66 hr
  refine ⟨_, _, pss_cons (ps_set (i := 2) nd rfl (by first | exact .inl rfl | exact .inr rfl) (pe_listRgC rfl (by rfl) m_list (prgA (by rfl) m_range (pa_cons (pv 0) (pa_nil)))))
      (pss_cons (ps_for PassesOwn.never rfl (pi_str (pv 1)) (pg_name (i := 3) nd rfl (by first | exact .inl rfl | exact .inr rfl)) (pss_one (ps_set (i := 2) nd rfl (by first | exact .inl rfl | exact .inr rfl) (pe_callG (G_law_then.ok.mono (by decide)) hr hq (by rfl) G_law_then.m G_law_then.kp G_law_then.b G_law_then.dv (pa_cons (pv 2) (pa_cons (pe_callG (G_law_faro.ok.mono (by decide)) hr hq (by rfl) G_law_faro.m G_law_faro.kp G_law_faro.b G_law_faro.dv (pa_cons (pv 0) (pa_cons (pe_ifExp (pt_cmpR ((op_eqD hr.units).or op_eq) (pv 3) (pe_str) (nomark _)) (pe_str) (pe_str)) (pa_nil)))) (pa_nil)))))))
      (pss_one (ps_ret (pv 2)))),
    ts_seq (ts_asg (tr_lrg (md := .frz) (ta_cons (tr_var (i := 0)) (ta_nil))) (tg_name (i := 2)))
      (ts_seq (ts_for (ti_str (tr_var (i := 1))) (tg_name (i := 3)) (ts_asg (tr_call (ta_cons (tr_var (i := 2)) (ta_cons (tr_call (ta_cons (tr_var (i := 0)) (ta_cons (tr_if (tt_test (tr_op ot_eqS (tr_var (i := 3)) (tr_str))) (tr_str) (tr_str)) (ta_nil)))) (ta_nil)))) (tg_name (i := 2))))
      (ts_ret (tr_var (i := 2)))), ?_⟩
  rintro ds M Q ⟨n, bs, rfl, hn, hl, q⟩
  ((try simp only [sSeq]); simp only [sRet, sRetN, sIf, sDrop, sNever, sNext, sBreak, sCont, sAsg, sPar, sPar3, sAug, dName, dNil, dCons, dTup, dSub, sSetL, wVar, wC, wFrz, wFrzK, wOp, wAdd, nAdd, nI, nI0, wMul, nMul, wNeg, wEq, nEq, wIsN, wB, wAndT, wOrT, wNotT, wAndV, wOrV, wNotV, wIfE, wChain, aNil, aCons, aStar, wLst, wTup, wIx, nIx, pNo, pSo, wSl, wRev, wRevE, mIndex, wLenSet, cRepr, wIsB, wCB, cLen, cAll, cSum, cMax, cMin, cSorted, cInt, cList, cTuple, cIsi, wBits, wLRg, wBM, wBM0, mChg, wDGet, wDIn, wDNew, sDPutD, wIn, nIn, wCall, wCallK, wNew, tYesD, startD, List.map_cons, List.map_nil, List.length_cons, List.length_nil, List.replicate, Nat.sub_self, List.append_nil, List.cons_append, List.nil_append, List.getElem?_cons_zero, List.getElem?_cons_succ, List.set_cons_zero, List.set_cons_succ, Nat.reduceSub, Nat.reduceAdd, ite_true, ite_false, if_true, if_false, Bool.false_eq_true, Bool.true_eq_false, Bool.not_true, Bool.not_false, Option.some.injEq, nrm_non, nrm_bl, nrm_int, nrm_str, nrm_ty, nrm_lst, nrm_tupC, nrm_dct, nrm_scr, nrm_setL, wFgt, tyN_non, tyN_bl, tyN_int, tyN_str, tyN_lst, tyN_tup, tyN_dct, keyD_int, keyD_str, isA, okT, beq_self_eq_true, String.reduceBEq, Bool.or_false, Bool.or_true, Bool.and_false, Bool.and_true, Bool.true_or, Bool.false_or, Bool.true_and, Bool.false_and, true_and, and_true, List.any_cons, List.any_nil, tyNames, Option.map_some, iRn1, iRn2, iRn3, iLst, nIt, iTp, iEn, iZp, iSt, wipeD, atI0, atI1, atI2, atI3, ixN0, ixN1, ixN2, ixN3, wSub, wLt, wLe, wGt, wGe, wDiv, wMod, wPow, wShl, Mp.set_same, Mp.set_set, cSortedA, cDictP, wNewD, wEqS, nEqS, wFrzT, mExt, mCnt, nIxL, sAugS, wSlS, wJoin, cSumL, dUnl, cSortLL, cMinLL, wLenSetT, wLenDictT, mIndexB, wLenSetJ, wAddT, wSortSet, wDNewT, sDPutT, cSortDT, wBMd, wDGet1, wDGet2, mUpd, wPairs, wDisp, wLtS, cMinS, cListD, rngD_ints])
  refine ⟨⟨⟨by omega, by omega⟩, (by first | omega | (unfold Sz; omega) | (simp only [List.length_map, List.length_append, List.length_cons, List.length_nil, rngI_length, List.length_take, List.length_drop, List.length_reverse]; unfold Sz; omega))⟩, ?_⟩
  rw [Int.toNat_natCast]
  refine for_of (xs := bs.map fun b => D.str (sgn b)) (P := fun _ => True) (fun i ρ M4 => ∃ (y3 : Option D), ρ = [some (.int n), some (.str (wordS bs)), some (.lst (((bs.take i).foldl (fun acc b => movedI acc (lawFaro n (!b))) (rngI 0 1 n)).map .int)), y3] ∧ M4 = M)
    (fun R h => by rw [← signs_word] at h; simp only [sSeq, sRet, sRetN, sIf, sDrop, sNever, sNext, sBreak, sCont, sAsg, sPar, sPar3, sAug, dName, dNil, dCons, dTup, dSub, sSetL, wVar, wC, wFrz, wFrzK, wOp, wAdd, nAdd, nI, nI0, wMul, nMul, wNeg, wEq, nEq, wIsN, wB, wAndT, wOrT, wNotT, wAndV, wOrV, wNotV, wIfE, wChain, aNil, aCons, aStar, wLst, wTup, wIx, nIx, pNo, pSo, wSl, wRev, wRevE, mIndex, wLenSet, cRepr, wIsB, wCB, cLen, cAll, cSum, cMax, cMin, cSorted, cInt, cList, cTuple, cIsi, wBits, wLRg, wBM, wBM0, mChg, wDGet, wDIn, wDNew, sDPutD, wIn, nIn, wCall, wCallK, wNew, tYesD, startD, List.map_cons, List.map_nil, List.length_cons, List.length_nil, List.replicate, Nat.sub_self, List.append_nil, List.cons_append, List.nil_append, List.getElem?_cons_zero, List.getElem?_cons_succ, List.set_cons_zero, List.set_cons_succ, Nat.reduceSub, Nat.reduceAdd, ite_true, ite_false, if_true, if_false, Bool.false_eq_true, Bool.true_eq_false, Bool.not_true, Bool.not_false, Option.some.injEq, nrm_non, nrm_bl, nrm_int, nrm_str, nrm_ty, nrm_lst, nrm_tupC, nrm_dct, nrm_scr, nrm_setL, wFgt, tyN_non, tyN_bl, tyN_int, tyN_str, tyN_lst, tyN_tup, tyN_dct, keyD_int, keyD_str, isA, okT, beq_self_eq_true, String.reduceBEq, Bool.or_false, Bool.or_true, Bool.and_false, Bool.and_true, Bool.true_or, Bool.false_or, Bool.true_and, Bool.false_and, true_and, and_true, List.any_cons, List.any_nil, tyNames, Option.map_some, iRn1, iRn2, iRn3, iLst, nIt, iTp, iEn, iZp, iSt, wipeD, atI0, atI1, atI2, atI3, ixN0, ixN1, ixN2, ixN3, wSub, wLt, wLe, wGt, wGe, wDiv, wMod, wPow, wShl, Mp.set_same, Mp.set_set, cSortedA, cDictP, wNewD, wEqS, nEqS, wFrzT, mExt, mCnt, nIxL, sAugS, wSlS, wJoin, cSumL, dUnl, cSortLL, cMinLL, wLenSetT, wLenDictT, mIndexB, wLenSetJ, wAddT, wSortSet, wDNewT, sDPutT, cSortDT, wBMd, wDGet1, wDGet2, mUpd, wPairs, wDisp, wLtS, cMinS, cListD]; exact h) ⟨_, rfl, rfl⟩ (fun _ _ _ _ _ => trivial) (fun i d ρ M4 hi w => ?_) (fun ρ M4 w => ?_)
  · obtain ⟨y3, rfl, rfl⟩ := w
    rw [List.getElem?_map] at hi
    obtain ⟨b, hb, rfl⟩ := Option.map_eq_some_iff.mp hi
    have hal := lawDone_len (n := n) (bs.take i) (rngI 0 1 n) rngI_length
    rw [List.take_add_one, hb, Option.toList_some, List.foldl_append]
    generalize (bs.take i).foldl (fun acc b => movedI acc (lawFaro n (!b))) (rngI 0 1 n) = acc at *
    have ek : decide (sgn b = "I") = b := by cases b <;> decide
    simp only [sRet, sRetN, sIf, sDrop, sNever, sNext, sBreak, sCont, sAsg, sPar, sPar3, sAug, dName, dNil, dCons, dTup, dSub, sSetL, wVar, wC, wFrz, wFrzK, wOp, wAdd, nAdd, nI, nI0, wMul, nMul, wNeg, wEq, nEq, wIsN, wB, wAndT, wOrT, wNotT, wAndV, wOrV, wNotV, wIfE, wChain, aNil, aCons, aStar, wLst, wTup, wIx, nIx, pNo, pSo, wSl, wRev, wRevE, mIndex, wLenSet, cRepr, wIsB, wCB, cLen, cAll, cSum, cMax, cMin, cSorted, cInt, cList, cTuple, cIsi, wBits, wLRg, wBM, wBM0, mChg, wDGet, wDIn, wDNew, sDPutD, wIn, nIn, wCall, wCallK, wNew, tYesD, startD, List.map_cons, List.map_nil, List.length_cons, List.length_nil, List.replicate, Nat.sub_self, List.append_nil, List.cons_append, List.nil_append, List.getElem?_cons_zero, List.getElem?_cons_succ, List.set_cons_zero, List.set_cons_succ, Nat.reduceSub, Nat.reduceAdd, ite_true, ite_false, if_true, if_false, Bool.false_eq_true, Bool.true_eq_false, Bool.not_true, Bool.not_false, Option.some.injEq, nrm_non, nrm_bl, nrm_int, nrm_str, nrm_ty, nrm_lst, nrm_tupC, nrm_dct, nrm_scr, nrm_setL, wFgt, tyN_non, tyN_bl, tyN_int, tyN_str, tyN_lst, tyN_tup, tyN_dct, keyD_int, keyD_str, isA, okT, beq_self_eq_true, String.reduceBEq, Bool.or_false, Bool.or_true, Bool.and_false, Bool.and_true, Bool.true_or, Bool.false_or, Bool.true_and, Bool.false_and, true_and, and_true, List.any_cons, List.any_nil, tyNames, Option.map_some, iRn1, iRn2, iRn3, iLst, nIt, iTp, iEn, iZp, iSt, wipeD, atI0, atI1, atI2, atI3, ixN0, ixN1, ixN2, ixN3, wSub, wLt, wLe, wGt, wGe, wDiv, wMod, wPow, wShl, Mp.set_same, Mp.set_set, cSortedA, cDictP, wNewD, wEqS, nEqS, wFrzT, mExt, mCnt, nIxL, sAugS, wSlS, wJoin, cSumL, dUnl, cSortLL, cMinLL, wLenSetT, wLenDictT, mIndexB, wLenSetJ, wAddT, wSortSet, wDNewT, sDPutT, cSortDT, wBMd, wDGet1, wDGet2, mUpd, wPairs, wDisp, wLtS, cMinS, cListD, ek]
    cases b
    · rw [if_neg (by decide)]
      refine ⟨n, true, rfl, by omega, acc, lawFaro n true, rfl, by rw [lawFaro_len2]; omega, fun m hm => by rw [hal]; exact lawFaro_bd m hm, ?_⟩
      exact ⟨_, rfl, rfl⟩
    · rw [if_pos rfl]
      refine ⟨n, false, rfl, by omega, acc, lawFaro n false, rfl, by rw [lawFaro_len2]; omega, fun m hm => by rw [hal]; exact lawFaro_bd m hm, ?_⟩
      exact ⟨_, rfl, rfl⟩
  · obtain ⟨y3, rfl, rfl⟩ := w
    rw [List.length_map, List.take_length]
    simp only [sSeq, sRet, sRetN, sIf, sDrop, sNever, sNext, sBreak, sCont, sAsg, sPar, sPar3, sAug, dName, dNil, dCons, dTup, dSub, sSetL, wVar, wC, wFrz, wFrzK, wOp, wAdd, nAdd, nI, nI0, wMul, nMul, wNeg, wEq, nEq, wIsN, wB, wAndT, wOrT, wNotT, wAndV, wOrV, wNotV, wIfE, wChain, aNil, aCons, aStar, wLst, wTup, wIx, nIx, pNo, pSo, wSl, wRev, wRevE, mIndex, wLenSet, cRepr, wIsB, wCB, cLen, cAll, cSum, cMax, cMin, cSorted, cInt, cList, cTuple, cIsi, wBits, wLRg, wBM, wBM0, mChg, wDGet, wDIn, wDNew, sDPutD, wIn, nIn, wCall, wCallK, wNew, tYesD, startD, List.map_cons, List.map_nil, List.length_cons, List.length_nil, List.replicate, Nat.sub_self, List.append_nil, List.cons_append, List.nil_append, List.getElem?_cons_zero, List.getElem?_cons_succ, List.set_cons_zero, List.set_cons_succ, Nat.reduceSub, Nat.reduceAdd, ite_true, ite_false, if_true, if_false, Bool.false_eq_true, Bool.true_eq_false, Bool.not_true, Bool.not_false, Option.some.injEq, nrm_non, nrm_bl, nrm_int, nrm_str, nrm_ty, nrm_lst, nrm_tupC, nrm_dct, nrm_scr, nrm_setL, wFgt, tyN_non, tyN_bl, tyN_int, tyN_str, tyN_lst, tyN_tup, tyN_dct, keyD_int, keyD_str, isA, okT, beq_self_eq_true, String.reduceBEq, Bool.or_false, Bool.or_true, Bool.and_false, Bool.and_true, Bool.true_or, Bool.false_or, Bool.true_and, Bool.false_and, true_and, and_true, List.any_cons, List.any_nil, tyNames, Option.map_some, iRn1, iRn2, iRn3, iLst, nIt, iTp, iEn, iZp, iSt, wipeD, atI0, atI1, atI2, atI3, ixN0, ixN1, ixN2, ixN3, wSub, wLt, wLe, wGt, wGe, wDiv, wMod, wPow, wShl, Mp.set_same, Mp.set_set, cSortedA, cDictP, wNewD, wEqS, nEqS, wFrzT, mExt, mCnt, nIxL, sAugS, wSlS, wJoin, cSumL, dUnl, cSortLL, cMinLL, wLenSetT, wLenDictT, mIndexB, wLenSetJ, wAddT, wSortSet, wDNewT, sDPutT, cSortDT, wBMd, wDGet1, wDGet2, mUpd, wPairs, wDisp, wLtS, cMinS, cListD]
    exact q
abbrev s_law_words : Stmt := topS 34
theorem sc_law_words : FnScope ["many", "one", "found", "layer", "ways", "fresh", "place", "sign", "back", "there"] ["many", "one"] (defScope s_law_words) := ⟨rfl, rfl, rfl, by decide +kernel, rfl, by decide +kernel, by decide +kernel⟩
theorem ok_law_words {f : Addr} {fd : FuncData} (F : FnP K "_law_words" s_law_words [] f fd)
    {f_law_back : Addr} {fd_law_back : FuncData} {ds_law_back : List Value} (G_law_back : Kn P w K mg base "_law_back" ["move"] R_law_back 1 [] ds_law_back f_law_back fd_law_back)
    {f_law_faro : Addr} {fd_law_faro : FuncData} {ds_law_faro : List Value} (G_law_faro : Kn P w K mg base "_law_faro" ["many", "kind"] R_law_faro 1 [] ds_law_faro f_law_faro fd_law_faro)
    (m_min : mg "min" = none)
    (m_sorted : mg "sorted" = none) :
    FnG P w K mg base 2 f fd ["many", "one"] (spD R_law_words) := by
  have nd := sc_law_words.nd
  refine fnD (k := 1) F sc_law_words len_law_words fun cdv A outer s H E hr hq => ?_
  have hu := hu_of hr
  have hr65 := room65 hr
  have hr66 := room66 hr
  refine ⟨_, _, pss_cons (ps_par (i := 2) (j := 3) (by rfl) nd rfl rfl (by decide) rfl rfl (pa_cons (pe_disp (pps_cons (pv 1) (pe_str) (pps_nil)) (by rfl) (by rfl) (by exact nofun) (by decide)) (pa_cons (pe_lst (pa_cons (pv 1) (pa_nil))) (pa_nil))) (by rfl))
      (pss_cons (ps_set (i := 4) nd rfl (by first | exact .inl rfl | exact .inr rfl) (pe_lst (pa_cons (pe_lst (pa_cons (pe_str) (pa_cons (pe_callG (G_law_back.ok.mono (by decide)) hr hq (by rfl) G_law_back.m G_law_back.kp G_law_back.b G_law_back.dv (pa_cons (pe_callG (G_law_faro.ok.mono (by decide)) hr hq (by rfl) G_law_faro.m G_law_faro.kp G_law_faro.b G_law_faro.dv (pa_cons (pv 0) (pa_cons (pe_str) (pa_nil)))) (pa_nil))) (pa_nil)))) (pa_cons (pe_lst (pa_cons (pe_str) (pa_cons (pe_callG (G_law_back.ok.mono (by decide)) hr hq (by rfl) G_law_back.m G_law_back.kp G_law_back.b G_law_back.dv (pa_cons (pe_callG (G_law_faro.ok.mono (by decide)) hr hq (by rfl) G_law_faro.m G_law_faro.kp G_law_faro.b G_law_faro.dv (pa_cons (pv 0) (pa_cons (pe_str) (pa_nil)))) (pa_nil))) (pa_nil)))) (pa_nil)))))
      (pss_cons (ps_while PassesOwn.never (pt_cmpR (op_neD hr.units) (pv 3) (pe_lst (pa_nil)) (nomark _)) (pss_cons (ps_set (i := 5) nd rfl (by first | exact .inl rfl | exact .inr rfl) (pe_dnewK))
      (pss_cons (ps_for PassesOwn.never rfl (pi_list (pv 3)) (pg_name (i := 6) nd rfl (by first | exact .inl rfl | exact .inr rfl)) (pss_one (ps_for PassesOwn.never rfl (pi_list (pv 4)) (pg_unl (n := 2) rfl (pgs_cons (pg_name (i := 7) nd rfl (by first | exact .inl rfl | exact .inr rfl)) (pgs_cons (pg_name (i := 8) nd rfl (by first | exact .inl rfl | exact .inr rfl)) (pgs_nil)))) (pss_cons (ps_set (i := 9) nd rfl (by first | exact .inl rfl | exact .inr rfl) (pe_ix ix_seq (pv 8) (pv 6) (fun _ _ => rfl)))
      (pss_one (ps_if (pt_cmp (pc_dnotin hu (pv 9) (pv 2))) (pss_one (ps_dput hu (pv 5) (pv 9) (pe_callB (call_minS rfl) (by rfl) m_min (by decide +kernel) (pa_cons (pe_dget2 hu (pv 5) (pv 9) (pe_str) ⟨by rfl, by rfl, by rfl, by rfl⟩) (pa_cons (pe_op op_addA (pe_dget hu (pv 2) (pv 6) (fun _ _ => rfl)) (pv 7)) (pa_nil)))) rfl)) (pss_nil)))))))
      (pss_cons (ps_expr (pe_bm PySem.F.plainAttrs_dict PySem.F.slot_dict_update PySem.F.type_dict_update mt_dupd (pv 2) (pa_cons (pv 5) (pa_nil))))
      (pss_one (ps_set (i := 3) nd rfl (by first | exact .inl rfl | exact .inr rfl) (pe_callB (cr_sortedI.or (call_sortedD rfl)) (by rfl) m_sorted (by decide +kernel) (pa_cons (pv 5) (pa_nil)))))))))
      (pss_one (ps_ret (pv 2))))),
    ts_seq (ts_par (i := 2) (j := 3) (ta_cons (tr_disp (md := .own) (tps_cons (tr_var (i := 1)) (tr_str) (tps_nil))) (ta_cons (tr_lst (md := .frz) (ta_cons (tr_var (i := 1)) (ta_nil))) (ta_nil))))
      (ts_seq (ts_asg (tr_lst (md := .frz) (ta_cons (tr_lst (md := .frz) (ta_cons (tr_str) (ta_cons (tr_call (ta_cons (tr_call (ta_cons (tr_var (i := 0)) (ta_cons (tr_str) (ta_nil)))) (ta_nil))) (ta_nil)))) (ta_cons (tr_lst (md := .frz) (ta_cons (tr_str) (ta_cons (tr_call (ta_cons (tr_call (ta_cons (tr_var (i := 0)) (ta_cons (tr_str) (ta_nil)))) (ta_nil))) (ta_nil)))) (ta_nil)))) (tg_name (i := 4)))
      (ts_seq (ts_while (tt_test (tr_op ot_ne (tr_var (i := 3)) (tr_lst (md := .frz) (ta_nil)))) (ts_seq (ts_asg (tr_dnew) (tg_name (i := 5)))
      (ts_seq (ts_for (ti_list (tr_var (i := 3))) (tg_name (i := 6)) (ts_for (ti_list (tr_var (i := 4))) (tg_unl (n := 2) (tgs_cons (tg_name (i := 7)) (tgs_cons (tg_name (i := 8)) (tgs_nil)))) (ts_seq (ts_asg (tr_op ot_ix (tr_var (i := 8)) (tr_var (i := 6))) (tg_name (i := 9)))
      (ts_if (tt_B (tr_dnotin (tr_var (i := 9)) (tr_var (i := 2)))) (ts_dput (tr_var (i := 5)) (tr_var (i := 9)) (tr_cb ct_minS (ta_cons (tr_dget2 (tr_var (i := 5)) (tr_var (i := 9)) (tr_str)) (ta_cons (tr_op (ot_add (K := K) (md := .frz)) (tr_dget (tr_var (i := 2)) (tr_var (i := 6))) (tr_var (i := 7))) (ta_nil))))) (ts_next)))))
      (ts_seq (ts_drop (tr_bmd mt_dupdD (tr_var (i := 2)) (ta_cons (tr_var (i := 5)) (ta_nil))))
      (ts_asg (tr_cb (ct_sortedA (md := .frz)) (ta_cons (tr_var (i := 5)) (ta_nil))) (tg_name (i := 3)))))))
      (ts_ret (tr_fgt (tr_var (i := 2)))))), ?_⟩
  rintro ds M Q ⟨n, one, rfl, h1, hn, q⟩
  ((try simp only [sSeq]); simp only [sRet, sRetN, sIf, sDrop, sNever, sNext, sBreak, sCont, sAsg, sPar, sPar3, sAug, dName, dNil, dCons, dTup, dSub, sSetL, wVar, wC, wFrz, wFrzK, wOp, wAdd, nAdd, nI, nI0, wMul, nMul, wNeg, wEq, nEq, wIsN, wB, wAndT, wOrT, wNotT, wAndV, wOrV, wNotV, wIfE, wChain, aNil, aCons, aStar, wLst, wTup, wIx, nIx, pNo, pSo, wSl, wRev, wRevE, mIndex, wLenSet, cRepr, wIsB, wCB, cLen, cAll, cSum, cMax, cMin, cSorted, cInt, cList, cTuple, cIsi, wBits, wLRg, wBM, wBM0, mChg, wDGet, wDIn, wDNew, sDPutD, wIn, nIn, wCall, wCallK, wNew, tYesD, startD, List.map_cons, List.map_nil, List.length_cons, List.length_nil, List.replicate, Nat.sub_self, List.append_nil, List.cons_append, List.nil_append, List.getElem?_cons_zero, List.getElem?_cons_succ, List.set_cons_zero, List.set_cons_succ, Nat.reduceSub, Nat.reduceAdd, ite_true, ite_false, if_true, if_false, Bool.false_eq_true, Bool.true_eq_false, Bool.not_true, Bool.not_false, Option.some.injEq, nrm_non, nrm_bl, nrm_int, nrm_str, nrm_ty, nrm_lst, nrm_tupC, nrm_dct, nrm_scr, nrm_setL, wFgt, tyN_non, tyN_bl, tyN_int, tyN_str, tyN_lst, tyN_tup, tyN_dct, keyD_int, keyD_str, isA, okT, beq_self_eq_true, String.reduceBEq, Bool.or_false, Bool.or_true, Bool.and_false, Bool.and_true, Bool.true_or, Bool.false_or, Bool.true_and, Bool.false_and, true_and, and_true, List.any_cons, List.any_nil, tyNames, Option.map_some, iRn1, iRn2, iRn3, iLst, nIt, iTp, iEn, iZp, iSt, wipeD, atI0, atI1, atI2, atI3, ixN0, ixN1, ixN2, ixN3, wSub, wLt, wLe, wGt, wGe, wDiv, wMod, wPow, wShl, Mp.set_same, Mp.set_set, cSortedA, cDictP, wNewD, wEqS, nEqS, wFrzT, mExt, mCnt, nIxL, sAugS, wSlS, wJoin, cSumL, dUnl, cSortLL, cMinLL, wLenSetT, wLenDictT, mIndexB, wLenSetJ, wAddT, wSortSet, wDNewT, sDPutT, cSortDT, wBMd, wDGet1, wDGet2, mUpd, wPairs, wDisp, wLtS, cMinS, cListD])
  have e1 : keysP [(D.int one, D.str (Str.ofString ""))] = some [(.inl (one : Int), .str (Str.ofString ""))] := rfl
  rw [e1]
  refine ⟨by decide, fun p hp => ⟨(by first | omega | (unfold Sz; omega) | (simp only [List.length_map, List.length_append, List.length_cons, List.length_nil, rngI_length, List.length_take, List.length_drop, List.length_reverse]; unfold Sz; omega)), ?_⟩⟩
  have sI : Str.ofString "I" = sgn true := by decide
  have sO : Str.ofString "O" = sgn false := by decide
  ((try simp only [sSeq]); simp only [sRet, sRetN, sIf, sDrop, sNever, sNext, sBreak, sCont, sAsg, sPar, sPar3, sAug, dName, dNil, dCons, dTup, dSub, sSetL, wVar, wC, wFrz, wFrzK, wOp, wAdd, nAdd, nI, nI0, wMul, nMul, wNeg, wEq, nEq, wIsN, wB, wAndT, wOrT, wNotT, wAndV, wOrV, wNotV, wIfE, wChain, aNil, aCons, aStar, wLst, wTup, wIx, nIx, pNo, pSo, wSl, wRev, wRevE, mIndex, wLenSet, cRepr, wIsB, wCB, cLen, cAll, cSum, cMax, cMin, cSorted, cInt, cList, cTuple, cIsi, wBits, wLRg, wBM, wBM0, mChg, wDGet, wDIn, wDNew, sDPutD, wIn, nIn, wCall, wCallK, wNew, tYesD, startD, List.map_cons, List.map_nil, List.length_cons, List.length_nil, List.replicate, Nat.sub_self, List.append_nil, List.cons_append, List.nil_append, List.getElem?_cons_zero, List.getElem?_cons_succ, List.set_cons_zero, List.set_cons_succ, Nat.reduceSub, Nat.reduceAdd, ite_true, ite_false, if_true, if_false, Bool.false_eq_true, Bool.true_eq_false, Bool.not_true, Bool.not_false, Option.some.injEq, nrm_non, nrm_bl, nrm_int, nrm_str, nrm_ty, nrm_lst, nrm_tupC, nrm_dct, nrm_scr, nrm_setL, wFgt, tyN_non, tyN_bl, tyN_int, tyN_str, tyN_lst, tyN_tup, tyN_dct, keyD_int, keyD_str, isA, okT, beq_self_eq_true, String.reduceBEq, Bool.or_false, Bool.or_true, Bool.and_false, Bool.and_true, Bool.true_or, Bool.false_or, Bool.true_and, Bool.false_and, true_and, and_true, List.any_cons, List.any_nil, tyNames, Option.map_some, iRn1, iRn2, iRn3, iLst, nIt, iTp, iEn, iZp, iSt, wipeD, atI0, atI1, atI2, atI3, ixN0, ixN1, ixN2, ixN3, wSub, wLt, wLe, wGt, wGe, wDiv, wMod, wPow, wShl, Mp.set_same, Mp.set_set, cSortedA, cDictP, wNewD, wEqS, nEqS, wFrzT, mExt, mCnt, nIxL, sAugS, wSlS, wJoin, cSumL, dUnl, cSortLL, cMinLL, wLenSetT, wLenDictT, mIndexB, wLenSetJ, wAddT, wSortSet, wDNewT, sDPutT, cSortDT, wBMd, wDGet1, wDGet2, mUpd, wPairs, wDisp, wLtS, cMinS, cListD])
  refine ⟨n, false, rfl, by omega, _, lawFaro n false, rfl, rfl, by rw [lawFaro_len]; exact (by first | omega | (unfold Sz; omega) | (simp only [List.length_map, List.length_append, List.length_cons, List.length_nil, rngI_length, List.length_take, List.length_drop, List.length_reverse]; unfold Sz; omega)), fun x hx => by rw [lawFaro_len]; exact lawFaro_mem x hx, ?_⟩
  simp only [sRet, sRetN, sIf, sDrop, sNever, sNext, sBreak, sCont, sAsg, sPar, sPar3, sAug, dName, dNil, dCons, dTup, dSub, sSetL, wVar, wC, wFrz, wFrzK, wOp, wAdd, nAdd, nI, nI0, wMul, nMul, wNeg, wEq, nEq, wIsN, wB, wAndT, wOrT, wNotT, wAndV, wOrV, wNotV, wIfE, wChain, aNil, aCons, aStar, wLst, wTup, wIx, nIx, pNo, pSo, wSl, wRev, wRevE, mIndex, wLenSet, cRepr, wIsB, wCB, cLen, cAll, cSum, cMax, cMin, cSorted, cInt, cList, cTuple, cIsi, wBits, wLRg, wBM, wBM0, mChg, wDGet, wDIn, wDNew, sDPutD, wIn, nIn, wCall, wCallK, wNew, tYesD, startD, List.map_cons, List.map_nil, List.length_cons, List.length_nil, List.replicate, Nat.sub_self, List.append_nil, List.cons_append, List.nil_append, List.getElem?_cons_zero, List.getElem?_cons_succ, List.set_cons_zero, List.set_cons_succ, Nat.reduceSub, Nat.reduceAdd, ite_true, ite_false, if_true, if_false, Bool.false_eq_true, Bool.true_eq_false, Bool.not_true, Bool.not_false, Option.some.injEq, nrm_non, nrm_bl, nrm_int, nrm_str, nrm_ty, nrm_lst, nrm_tupC, nrm_dct, nrm_scr, nrm_setL, wFgt, tyN_non, tyN_bl, tyN_int, tyN_str, tyN_lst, tyN_tup, tyN_dct, keyD_int, keyD_str, isA, okT, beq_self_eq_true, String.reduceBEq, Bool.or_false, Bool.or_true, Bool.and_false, Bool.and_true, Bool.true_or, Bool.false_or, Bool.true_and, Bool.false_and, true_and, and_true, List.any_cons, List.any_nil, tyNames, Option.map_some, iRn1, iRn2, iRn3, iLst, nIt, iTp, iEn, iZp, iSt, wipeD, atI0, atI1, atI2, atI3, ixN0, ixN1, ixN2, ixN3, wSub, wLt, wLe, wGt, wGe, wDiv, wMod, wPow, wShl, Mp.set_same, Mp.set_set, cSortedA, cDictP, wNewD, wEqS, nEqS, wFrzT, mExt, mCnt, nIxL, sAugS, wSlS, wJoin, cSumL, dUnl, cSortLL, cMinLL, wLenSetT, wLenDictT, mIndexB, wLenSetJ, wAddT, wSortSet, wDNewT, sDPutT, cSortDT, wBMd, wDGet1, wDGet2, mUpd, wPairs, wDisp, wLtS, cMinS, cListD]
  refine ⟨(by first | omega | (unfold Sz; omega) | (simp only [List.length_map, List.length_append, List.length_cons, List.length_nil, rngI_length, List.length_take, List.length_drop, List.length_reverse]; unfold Sz; omega)), n, true, rfl, by omega, _, lawFaro n true, rfl, rfl, by rw [lawFaro_len]; exact (by first | omega | (unfold Sz; omega) | (simp only [List.length_map, List.length_append, List.length_cons, List.length_nil, rngI_length, List.length_take, List.length_drop, List.length_reverse]; unfold Sz; omega)), fun x hx => by rw [lawFaro_len]; exact lawFaro_mem x hx, ?_⟩
  simp only [sRet, sRetN, sIf, sDrop, sNever, sNext, sBreak, sCont, sAsg, sPar, sPar3, sAug, dName, dNil, dCons, dTup, dSub, sSetL, wVar, wC, wFrz, wFrzK, wOp, wAdd, nAdd, nI, nI0, wMul, nMul, wNeg, wEq, nEq, wIsN, wB, wAndT, wOrT, wNotT, wAndV, wOrV, wNotV, wIfE, wChain, aNil, aCons, aStar, wLst, wTup, wIx, nIx, pNo, pSo, wSl, wRev, wRevE, mIndex, wLenSet, cRepr, wIsB, wCB, cLen, cAll, cSum, cMax, cMin, cSorted, cInt, cList, cTuple, cIsi, wBits, wLRg, wBM, wBM0, mChg, wDGet, wDIn, wDNew, sDPutD, wIn, nIn, wCall, wCallK, wNew, tYesD, startD, List.map_cons, List.map_nil, List.length_cons, List.length_nil, List.replicate, Nat.sub_self, List.append_nil, List.cons_append, List.nil_append, List.getElem?_cons_zero, List.getElem?_cons_succ, List.set_cons_zero, List.set_cons_succ, Nat.reduceSub, Nat.reduceAdd, ite_true, ite_false, if_true, if_false, Bool.false_eq_true, Bool.true_eq_false, Bool.not_true, Bool.not_false, Option.some.injEq, nrm_non, nrm_bl, nrm_int, nrm_str, nrm_ty, nrm_lst, nrm_tupC, nrm_dct, nrm_scr, nrm_setL, wFgt, tyN_non, tyN_bl, tyN_int, tyN_str, tyN_lst, tyN_tup, tyN_dct, keyD_int, keyD_str, isA, okT, beq_self_eq_true, String.reduceBEq, Bool.or_false, Bool.or_true, Bool.and_false, Bool.and_true, Bool.true_or, Bool.false_or, Bool.true_and, Bool.false_and, true_and, and_true, List.any_cons, List.any_nil, tyNames, Option.map_some, iRn1, iRn2, iRn3, iLst, nIt, iTp, iEn, iZp, iSt, wipeD, atI0, atI1, atI2, atI3, ixN0, ixN1, ixN2, ixN3, wSub, wLt, wLe, wGt, wGe, wDiv, wMod, wPow, wShl, Mp.set_same, Mp.set_set, cSortedA, cDictP, wNewD, wEqS, nEqS, wFrzT, mExt, mCnt, nIxL, sAugS, wSlS, wJoin, cSumL, dUnl, cSortLL, cMinLL, wLenSetT, wLenDictT, mIndexB, wLenSetJ, wAddT, wSortSet, wDNewT, sDPutT, cSortDT, wBMd, wDGet1, wDGet2, mUpd, wPairs, wDisp, wLtS, cMinS, cListD]
  refine ⟨(by first | omega | (unfold Sz; omega) | (simp only [List.length_map, List.length_append, List.length_cons, List.length_nil, rngI_length, List.length_take, List.length_drop, List.length_reverse]; unfold Sz; omega)), (by first | omega | (unfold Sz; omega) | (simp only [List.length_map, List.length_append, List.length_cons, List.length_nil, rngI_length, List.length_take, List.length_drop, List.length_reverse]; unfold Sz; omega)), ?_⟩
  rw [sI, sO]
  have hbk : ∀ o : Bool, ∃ bb, bb = backI (lawFaro n o) ∧ bb.length = n ∧ ∀ a, a < n → atI (bb.map D.int) (a : Int) = some (.int (nxF n o a : Nat)) := fun o => by
    refine ⟨_, rfl, by rw [backI_length, lawFaro_len], fun a ha => ?_⟩
    rw [atI_int (by omega) (by rw [backI_length, lawFaro_len]; omega), Int.toNat_natCast, back_nx ha]
  obtain ⟨bi, hbi, hbil, hbia⟩ := hbk false
  obtain ⟨bo, hbo, hbol, hboa⟩ := hbk true
  rw [← hbi, ← hbo]
  have e2 : mrgD ([], []) [((.inl (one : Int) : Key), D.str (Str.ofString ""))] = ([.inl (one : Int)], [.str (wordS [])]) := rfl
  rw [e2]
  have hinj : ∀ o q, q < n → nxF n o q < n := fun o q hq => nxF_lt hq
  refine ⟨fun m ρ M' => ∃ (f : WMap) (L : List Nat) (Ls : List Int) (ks : List Int) (xs : List D) (y4 y5 y6 y7 y8 : Option D), ρ = [some (.int n), some (.int one), some (.ref p), some (.lst (Ls.map .int)), some (.lst [.lst [.str (sgn true), .lst (bi.map .int)], .lst [.str (sgn false), .lst (bo.map .int)]]), y4, y5, y6, y7, y8] ∧ MLe M M' ∧ M' p = some (.dK (ks.map .inl) xs) ∧ MapOf n f ks xs ∧
      Ls.Perm (L.map fun q : Nat => (q : Int)) ∧ (∀ q ∈ L, q < n ∧ (f q).isSome = true) ∧ L.Nodup ∧ (∀ q w, f q = some w → w.length + m ≤ n + 1) ∧ (L = [] ∨ ks.length + m ≥ n + 2) ∧ bfsW n m f L = wordsW n one,
    ⟨n + 1, fun q => if q = one then some [] else none, [one], [(one : Int)], [(one : Int)], [.str (wordS [])], _, _, _, _, _, rfl, MLe.set hp, Mp.set_same, ⟨rfl, by simp, fun k hk => by simp at hk; subst hk; omega, fun q => ?_⟩, List.Perm.refl _, fun q hq => ?_, by simp, fun q w hw => ?_, .inr (by simp; omega), rfl⟩, ?_⟩
  · simp only [List.map_cons, List.map_nil, look]
    by_cases e : q = one
    · subst e; rw [if_pos rfl, if_pos rfl]; rfl
    · rw [if_neg e, if_neg]
      · rfl
      · intro z
        have : (one : Int) = q := Sum.inl.inj z
        omega
  · simp at hq; subst hq; exact ⟨h1, by simp⟩
  · dsimp only at hw
    by_cases e : q = one
    · rw [if_pos e] at hw; cases hw; simp
    · rw [if_neg e] at hw; cases hw
  rintro m ρ M' ⟨f, L, Ls, ks, xs, y4, y5, y6, y7, y8, rfl, hle, hMp, hmap, hperm, hL, hLn, hlen, hfu, hg⟩
  have hke := hmap.le
  have hLl : Ls.length = L.length := by rw [hperm.length_eq, List.length_map]
  have hLl2 : L.length ≤ n := nodupW_below hLn fun q hq => (hL q hq).1
  ((try simp only [sSeq]); simp only [sRet, sRetN, sIf, sDrop, sNever, sNext, sBreak, sCont, sAsg, sPar, sPar3, sAug, dName, dNil, dCons, dTup, dSub, sSetL, wVar, wC, wFrz, wFrzK, wOp, wAdd, nAdd, nI, nI0, wMul, nMul, wNeg, wEq, nEq, wIsN, wB, wAndT, wOrT, wNotT, wAndV, wOrV, wNotV, wIfE, wChain, aNil, aCons, aStar, wLst, wTup, wIx, nIx, pNo, pSo, wSl, wRev, wRevE, mIndex, wLenSet, cRepr, wIsB, wCB, cLen, cAll, cSum, cMax, cMin, cSorted, cInt, cList, cTuple, cIsi, wBits, wLRg, wBM, wBM0, mChg, wDGet, wDIn, wDNew, sDPutD, wIn, nIn, wCall, wCallK, wNew, tYesD, startD, List.map_cons, List.map_nil, List.length_cons, List.length_nil, List.replicate, Nat.sub_self, List.append_nil, List.cons_append, List.nil_append, List.getElem?_cons_zero, List.getElem?_cons_succ, List.set_cons_zero, List.set_cons_succ, Nat.reduceSub, Nat.reduceAdd, ite_true, ite_false, if_true, if_false, Bool.false_eq_true, Bool.true_eq_false, Bool.not_true, Bool.not_false, Option.some.injEq, nrm_non, nrm_bl, nrm_int, nrm_str, nrm_ty, nrm_lst, nrm_tupC, nrm_dct, nrm_scr, nrm_setL, wFgt, tyN_non, tyN_bl, tyN_int, tyN_str, tyN_lst, tyN_tup, tyN_dct, keyD_int, keyD_str, isA, okT, beq_self_eq_true, String.reduceBEq, Bool.or_false, Bool.or_true, Bool.and_false, Bool.and_true, Bool.true_or, Bool.false_or, Bool.true_and, Bool.false_and, true_and, and_true, List.any_cons, List.any_nil, tyNames, Option.map_some, iRn1, iRn2, iRn3, iLst, nIt, iTp, iEn, iZp, iSt, wipeD, atI0, atI1, atI2, atI3, ixN0, ixN1, ixN2, ixN3, wSub, wLt, wLe, wGt, wGe, wDiv, wMod, wPow, wShl, Mp.set_same, Mp.set_set, cSortedA, cDictP, wNewD, wEqS, nEqS, wFrzT, mExt, mCnt, nIxL, sAugS, wSlS, wJoin, cSumL, dUnl, cSortLL, cMinLL, wLenSetT, wLenDictT, mIndexB, wLenSetJ, wAddT, wSortSet, wDNewT, sDPutT, cSortDT, wBMd, wDGet1, wDGet2, mUpd, wPairs, wDisp, wLtS, cMinS, cListD, pdOk_ints, pdOk_nil, deq_nil])
  refine ⟨(by first | omega | (unfold Sz; omega) | (simp only [List.length_map, List.length_append, List.length_cons, List.length_nil, rngI_length, List.length_take, List.length_drop, List.length_reverse]; unfold Sz; omega)), ?_⟩
  by_cases hLe : L = []
  · subst hLe
    have : Ls = [] := List.length_eq_zero_iff.mp (by rw [hLl]; rfl)
    subst this
    have hf : f = wordsW n one := by cases m with
      | zero => exact hg
      | succ m => rw [bfsW, if_pos rfl] at hg; exact hg
    ((try simp only [sSeq]); simp only [sRet, sRetN, sIf, sDrop, sNever, sNext, sBreak, sCont, sAsg, sPar, sPar3, sAug, dName, dNil, dCons, dTup, dSub, sSetL, wVar, wC, wFrz, wFrzK, wOp, wAdd, nAdd, nI, nI0, wMul, nMul, wNeg, wEq, nEq, wIsN, wB, wAndT, wOrT, wNotT, wAndV, wOrV, wNotV, wIfE, wChain, aNil, aCons, aStar, wLst, wTup, wIx, nIx, pNo, pSo, wSl, wRev, wRevE, mIndex, wLenSet, cRepr, wIsB, wCB, cLen, cAll, cSum, cMax, cMin, cSorted, cInt, cList, cTuple, cIsi, wBits, wLRg, wBM, wBM0, mChg, wDGet, wDIn, wDNew, sDPutD, wIn, nIn, wCall, wCallK, wNew, tYesD, startD, List.map_cons, List.map_nil, List.length_cons, List.length_nil, List.replicate, Nat.sub_self, List.append_nil, List.cons_append, List.nil_append, List.getElem?_cons_zero, List.getElem?_cons_succ, List.set_cons_zero, List.set_cons_succ, Nat.reduceSub, Nat.reduceAdd, ite_true, ite_false, if_true, if_false, Bool.false_eq_true, Bool.true_eq_false, Bool.not_true, Bool.not_false, Option.some.injEq, nrm_non, nrm_bl, nrm_int, nrm_str, nrm_ty, nrm_lst, nrm_tupC, nrm_dct, nrm_scr, nrm_setL, wFgt, tyN_non, tyN_bl, tyN_int, tyN_str, tyN_lst, tyN_tup, tyN_dct, keyD_int, keyD_str, isA, okT, beq_self_eq_true, String.reduceBEq, Bool.or_false, Bool.or_true, Bool.and_false, Bool.and_true, Bool.true_or, Bool.false_or, Bool.true_and, Bool.false_and, true_and, and_true, List.any_cons, List.any_nil, tyNames, Option.map_some, iRn1, iRn2, iRn3, iLst, nIt, iTp, iEn, iZp, iSt, wipeD, atI0, atI1, atI2, atI3, ixN0, ixN1, ixN2, ixN3, wSub, wLt, wLe, wGt, wGe, wDiv, wMod, wPow, wShl, Mp.set_same, Mp.set_set, cSortedA, cDictP, wNewD, wEqS, nEqS, wFrzT, mExt, mCnt, nIxL, sAugS, wSlS, wJoin, cSumL, dUnl, cSortLL, cMinLL, wLenSetT, wLenDictT, mIndexB, wLenSetJ, wAddT, wSortSet, wDNewT, sDPutT, cSortDT, wBMd, wDGet1, wDGet2, mUpd, wPairs, wDisp, wLtS, cMinS, cListD])
    exact ⟨M', fun _ _ h => h, q p ks xs M' hle hp hMp (hf ▸ hmap)⟩
  · have hLs : Ls ≠ [] := fun e => hLe (List.length_eq_zero_iff.mp (by rw [← hLl, e]; rfl))
    have hm := hfu.resolve_left hLe
    cases m with
    | zero => omega
    | succ m =>
    rw [bfsW, if_neg hLe] at hg
    ((try simp only [sSeq]); simp only [sRet, sRetN, sIf, sDrop, sNever, sNext, sBreak, sCont, sAsg, sPar, sPar3, sAug, dName, dNil, dCons, dTup, dSub, sSetL, wVar, wC, wFrz, wFrzK, wOp, wAdd, nAdd, nI, nI0, wMul, nMul, wNeg, wEq, nEq, wIsN, wB, wAndT, wOrT, wNotT, wAndV, wOrV, wNotV, wIfE, wChain, aNil, aCons, aStar, wLst, wTup, wIx, nIx, pNo, pSo, wSl, wRev, wRevE, mIndex, wLenSet, cRepr, wIsB, wCB, cLen, cAll, cSum, cMax, cMin, cSorted, cInt, cList, cTuple, cIsi, wBits, wLRg, wBM, wBM0, mChg, wDGet, wDIn, wDNew, sDPutD, wIn, nIn, wCall, wCallK, wNew, tYesD, startD, List.map_cons, List.map_nil, List.length_cons, List.length_nil, List.replicate, Nat.sub_self, List.append_nil, List.cons_append, List.nil_append, List.getElem?_cons_zero, List.getElem?_cons_succ, List.set_cons_zero, List.set_cons_succ, Nat.reduceSub, Nat.reduceAdd, ite_true, ite_false, if_true, if_false, Bool.false_eq_true, Bool.true_eq_false, Bool.not_true, Bool.not_false, Option.some.injEq, nrm_non, nrm_bl, nrm_int, nrm_str, nrm_ty, nrm_lst, nrm_tupC, nrm_dct, nrm_scr, nrm_setL, wFgt, tyN_non, tyN_bl, tyN_int, tyN_str, tyN_lst, tyN_tup, tyN_dct, keyD_int, keyD_str, isA, okT, beq_self_eq_true, String.reduceBEq, Bool.or_false, Bool.or_true, Bool.and_false, Bool.and_true, Bool.true_or, Bool.false_or, Bool.true_and, Bool.false_and, true_and, and_true, List.any_cons, List.any_nil, tyNames, Option.map_some, iRn1, iRn2, iRn3, iLst, nIt, iTp, iEn, iZp, iSt, wipeD, atI0, atI1, atI2, atI3, ixN0, ixN1, ixN2, ixN3, wSub, wLt, wLe, wGt, wGe, wDiv, wMod, wPow, wShl, Mp.set_same, Mp.set_set, cSortedA, cDictP, wNewD, wEqS, nEqS, wFrzT, mExt, mCnt, nIxL, sAugS, wSlS, wJoin, cSumL, dUnl, cSortLL, cMinLL, wLenSetT, wLenDictT, mIndexB, wLenSetJ, wAddT, wSortSet, wDNewT, sDPutT, cSortDT, wBMd, wDGet1, wDGet2, mUpd, wPairs, wDisp, wLtS, cMinS, cListD, hLs, decide_false])
    intro r hr
    have hpr : p ≠ r := fun e => by subst e; rw [hMp] at hr; cases hr
    obtain ⟨L2, rfl, hL2⟩ : ∃ L2 : List Nat, Ls = L2.map (fun q : Nat => (q : Int)) ∧ L2.Perm L := by
      refine ⟨Ls.map Int.toNat, ?_, ?_⟩
      · rw [List.map_map]
        have : ∀ k ∈ Ls, (((fun q : Nat => (q : Int)) ∘ Int.toNat) k) = k := fun k hk => by
          obtain ⟨a, _, rfl⟩ := List.mem_map.mp (hperm.mem_iff.mp hk)
          rfl
        rw [List.map_congr_left this, List.map_id']
      · have := hperm.map Int.toNat
        rw [List.map_map] at this
        have e : L.map (Int.toNat ∘ fun q : Nat => (q : Int)) = L := by
          rw [List.map_congr_left (g := id) (fun a _ => by simp), List.map_id]
        rwa [e] at this
    have hL2m : ∀ a ∈ L2, a < n ∧ (f a).isSome = true := fun a ha => hL a (hL2.mem_iff.mp ha)
    have hfl : ∀ q : Nat, (look (ks.map Sum.inl) xs (.inl (q : Int))).isSome = decide ((f q).isSome = true) := fun q => by rw [hmap.2.2.2 q, Option.isSome_map]; simp
    refine for_ints (ns := L2.map fun q : Nat => (q : Int)) (P := fun _ => True) (fun i ρ M2 => ∃ (ls : List Int) (ys : List D) (y5 y6 y7 y8 : Option D), ρ = [some (.int n), some (.int one), some (.ref p), some (.lst ((L2.map fun q : Nat => (q : Int)).map .int)), some (.lst [.lst [.str (sgn true), .lst (bi.map .int)], .lst [.str (sgn false), .lst (bo.map .int)]]), some (.ref r), y5, y6, y7, y8] ∧ M2 = M'.set r (.dK (ls.map .inl) ys) ∧ MapOf n ((L2.take i).foldl (stepW n f) fun _ => none) ls ys)
      (fun R h => by simp only [sSeq, sRet, sRetN, sIf, sDrop, sNever, sNext, sBreak, sCont, sAsg, sPar, sPar3, sAug, dName, dNil, dCons, dTup, dSub, sSetL, wVar, wC, wFrz, wFrzK, wOp, wAdd, nAdd, nI, nI0, wMul, nMul, wNeg, wEq, nEq, wIsN, wB, wAndT, wOrT, wNotT, wAndV, wOrV, wNotV, wIfE, wChain, aNil, aCons, aStar, wLst, wTup, wIx, nIx, pNo, pSo, wSl, wRev, wRevE, mIndex, wLenSet, cRepr, wIsB, wCB, cLen, cAll, cSum, cMax, cMin, cSorted, cInt, cList, cTuple, cIsi, wBits, wLRg, wBM, wBM0, mChg, wDGet, wDIn, wDNew, sDPutD, wIn, nIn, wCall, wCallK, wNew, tYesD, startD, List.map_cons, List.map_nil, List.length_cons, List.length_nil, List.replicate, Nat.sub_self, List.append_nil, List.cons_append, List.nil_append, List.getElem?_cons_zero, List.getElem?_cons_succ, List.set_cons_zero, List.set_cons_succ, Nat.reduceSub, Nat.reduceAdd, ite_true, ite_false, if_true, if_false, Bool.false_eq_true, Bool.true_eq_false, Bool.not_true, Bool.not_false, Option.some.injEq, nrm_non, nrm_bl, nrm_int, nrm_str, nrm_ty, nrm_lst, nrm_tupC, nrm_dct, nrm_scr, nrm_setL, wFgt, tyN_non, tyN_bl, tyN_int, tyN_str, tyN_lst, tyN_tup, tyN_dct, keyD_int, keyD_str, isA, okT, beq_self_eq_true, String.reduceBEq, Bool.or_false, Bool.or_true, Bool.and_false, Bool.and_true, Bool.true_or, Bool.false_or, Bool.true_and, Bool.false_and, true_and, and_true, List.any_cons, List.any_nil, tyNames, Option.map_some, iRn1, iRn2, iRn3, iLst, nIt, iTp, iEn, iZp, iSt, wipeD, atI0, atI1, atI2, atI3, ixN0, ixN1, ixN2, ixN3, wSub, wLt, wLe, wGt, wGe, wDiv, wMod, wPow, wShl, Mp.set_same, Mp.set_set, cSortedA, cDictP, wNewD, wEqS, nEqS, wFrzT, mExt, mCnt, nIxL, sAugS, wSlS, wJoin, cSumL, dUnl, cSortLL, cMinLL, wLenSetT, wLenDictT, mIndexB, wLenSetJ, wAddT, wSortSet, wDNewT, sDPutT, cSortDT, wBMd, wDGet1, wDGet2, mUpd, wPairs, wDisp, wLtS, cMinS, cListD]; exact h) ⟨[], [], _, _, _, _, rfl, rfl, MapOf.nil⟩ (fun _ _ _ _ _ => trivial) (fun i k ρ M2 hk w => ?_) (fun ρ M2 w => ?_)
    · obtain ⟨ls, ys, y5, y6, y7, y8, rfl, rfl, hls⟩ := w
      rw [List.getElem?_map] at hk
      obtain ⟨a, ha, rfl⟩ := Option.map_eq_some_iff.mp hk
      have hae := List.getElem?_eq_some_iff.mp ha
      obtain ⟨han, hfa⟩ := hL2m a (List.mem_of_getElem? ha)
      obtain ⟨w, hw⟩ := Option.isSome_iff_exists.mp hfa
      have hla : look (ks.map Sum.inl) xs (.inl (a : Int)) = some (.str (wordS w)) := by rw [hmap.2.2.2 a, hw]; rfl
      rw [List.take_add_one, ha, Option.toList_some, List.foldl_append]
      generalize (L2.take i).foldl (stepW n f) (fun _ => none) = g at hls
      simp only [List.foldl_cons, List.foldl_nil]
      simp only [sRet, sRetN, sIf, sDrop, sNever, sNext, sBreak, sCont, sAsg, sPar, sPar3, sAug, dName, dNil, dCons, dTup, dSub, sSetL, wVar, wC, wFrz, wFrzK, wOp, wAdd, nAdd, nI, nI0, wMul, nMul, wNeg, wEq, nEq, wIsN, wB, wAndT, wOrT, wNotT, wAndV, wOrV, wNotV, wIfE, wChain, aNil, aCons, aStar, wLst, wTup, wIx, nIx, pNo, pSo, wSl, wRev, wRevE, mIndex, wLenSet, cRepr, wIsB, wCB, cLen, cAll, cSum, cMax, cMin, cSorted, cInt, cList, cTuple, cIsi, wBits, wLRg, wBM, wBM0, mChg, wDGet, wDIn, wDNew, sDPutD, wIn, nIn, wCall, wCallK, wNew, tYesD, startD, List.map_cons, List.map_nil, List.length_cons, List.length_nil, List.replicate, Nat.sub_self, List.append_nil, List.cons_append, List.nil_append, List.getElem?_cons_zero, List.getElem?_cons_succ, List.set_cons_zero, List.set_cons_succ, Nat.reduceSub, Nat.reduceAdd, ite_true, ite_false, if_true, if_false, Bool.false_eq_true, Bool.true_eq_false, Bool.not_true, Bool.not_false, Option.some.injEq, nrm_non, nrm_bl, nrm_int, nrm_str, nrm_ty, nrm_lst, nrm_tupC, nrm_dct, nrm_scr, nrm_setL, wFgt, tyN_non, tyN_bl, tyN_int, tyN_str, tyN_lst, tyN_tup, tyN_dct, keyD_int, keyD_str, isA, okT, beq_self_eq_true, String.reduceBEq, Bool.or_false, Bool.or_true, Bool.and_false, Bool.and_true, Bool.true_or, Bool.false_or, Bool.true_and, Bool.false_and, true_and, and_true, List.any_cons, List.any_nil, tyNames, Option.map_some, iRn1, iRn2, iRn3, iLst, nIt, iTp, iEn, iZp, iSt, wipeD, atI0, atI1, atI2, atI3, ixN0, ixN1, ixN2, ixN3, wSub, wLt, wLe, wGt, wGe, wDiv, wMod, wPow, wShl, Mp.set_same, Mp.set_set, cSortedA, cDictP, wNewD, wEqS, nEqS, wFrzT, mExt, mCnt, nIxL, sAugS, wSlS, wJoin, cSumL, dUnl, cSortLL, cMinLL, wLenSetT, wLenDictT, mIndexB, wLenSetJ, wAddT, wSortSet, wDNewT, sDPutT, cSortDT, wBMd, wDGet1, wDGet2, mUpd, wPairs, wDisp, wLtS, cMinS, cListD]
      refine for_of (xs := [.lst [.str (sgn true), .lst (bi.map .int)], .lst [.str (sgn false), .lst (bo.map .int)]]) (P := fun _ => True) (fun j ρ M2 => ∃ (ls : List Int) (ys : List D) (y6 y7 y8 : Option D), ρ = [some (.int n), some (.int one), some (.ref p), some (.lst ((L2.map fun q : Nat => (q : Int)).map .int)), some (.lst [.lst [.str (sgn true), .lst (bi.map .int)], .lst [.str (sgn false), .lst (bo.map .int)]]), some (.ref r), some (.int a), y6, y7, y8] ∧ M2 = M'.set r (.dK (ls.map .inl) ys) ∧
          MapOf n (if j = 0 then g else if j = 1 then updW f g (nxF n false a) (w ++ [true]) else stepW n f g a) ls ys)
        (fun R h => ?_) ⟨ls, ys, _, _, _, rfl, rfl, hls⟩ (fun _ _ _ _ _ => trivial) (fun j x ρ M2 hx w => ?_) (fun ρ M2 w => ?_)
      · simp only [sSeq, sRet, sRetN, sIf, sDrop, sNever, sNext, sBreak, sCont, sAsg, sPar, sPar3, sAug, dName, dNil, dCons, dTup, dSub, sSetL, wVar, wC, wFrz, wFrzK, wOp, wAdd, nAdd, nI, nI0, wMul, nMul, wNeg, wEq, nEq, wIsN, wB, wAndT, wOrT, wNotT, wAndV, wOrV, wNotV, wIfE, wChain, aNil, aCons, aStar, wLst, wTup, wIx, nIx, pNo, pSo, wSl, wRev, wRevE, mIndex, wLenSet, cRepr, wIsB, wCB, cLen, cAll, cSum, cMax, cMin, cSorted, cInt, cList, cTuple, cIsi, wBits, wLRg, wBM, wBM0, mChg, wDGet, wDIn, wDNew, sDPutD, wIn, nIn, wCall, wCallK, wNew, tYesD, startD, List.map_cons, List.map_nil, List.length_cons, List.length_nil, List.replicate, Nat.sub_self, List.append_nil, List.cons_append, List.nil_append, List.getElem?_cons_zero, List.getElem?_cons_succ, List.set_cons_zero, List.set_cons_succ, Nat.reduceSub, Nat.reduceAdd, ite_true, ite_false, if_true, if_false, Bool.false_eq_true, Bool.true_eq_false, Bool.not_true, Bool.not_false, Option.some.injEq, nrm_non, nrm_bl, nrm_int, nrm_str, nrm_ty, nrm_lst, nrm_tupC, nrm_dct, nrm_scr, nrm_setL, wFgt, tyN_non, tyN_bl, tyN_int, tyN_str, tyN_lst, tyN_tup, tyN_dct, keyD_int, keyD_str, isA, okT, beq_self_eq_true, String.reduceBEq, Bool.or_false, Bool.or_true, Bool.and_false, Bool.and_true, Bool.true_or, Bool.false_or, Bool.true_and, Bool.false_and, true_and, and_true, List.any_cons, List.any_nil, tyNames, Option.map_some, iRn1, iRn2, iRn3, iLst, nIt, iTp, iEn, iZp, iSt, wipeD, atI0, atI1, atI2, atI3, ixN0, ixN1, ixN2, ixN3, wSub, wLt, wLe, wGt, wGe, wDiv, wMod, wPow, wShl, Mp.set_same, Mp.set_set, cSortedA, cDictP, wNewD, wEqS, nEqS, wFrzT, mExt, mCnt, nIxL, sAugS, wSlS, wJoin, cSumL, dUnl, cSortLL, cMinLL, wLenSetT, wLenDictT, mIndexB, wLenSetJ, wAddT, wSortSet, wDNewT, sDPutT, cSortDT, wBMd, wDGet1, wDGet2, mUpd, wPairs, wDisp, wLtS, cMinS, cListD]
        exact h
      · obtain ⟨ls, ys, y6, y7, y8, rfl, rfl, hls⟩ := w
        have hj : j < 2 := (List.getElem?_eq_some_iff.mp hx).1
        obtain ⟨b, bb, rfl, hb, hba⟩ : ∃ (b : Bool) (bb : List Int), x = .lst [.str (sgn b), .lst (bb.map .int)] ∧ j = (if b then 0 else 1) ∧ ∀ a, a < n → atI (bb.map D.int) (a : Int) = some (.int (nxF n (!b) a : Nat)) := by
          match j, hx with
          | 0, hx => cases hx; exact ⟨true, bi, rfl, rfl, hbia⟩
          | 1, hx => cases hx; exact ⟨false, bo, rfl, rfl, hboa⟩
        have hMr : (M'.set r (.dK (ls.map .inl) ys)) p = some (.dK (ks.map .inl) xs) := by rw [Mp.set_ne hpr]; exact hMp
        have hMr2 : (M'.set r (.dK (ls.map .inl) ys)) r = some (.dK (ls.map .inl) ys) := Mp.set_same
        simp only [sRet, sRetN, sIf, sDrop, sNever, sNext, sBreak, sCont, sAsg, sPar, sPar3, sAug, dName, dNil, dCons, dTup, dSub, sSetL, wVar, wC, wFrz, wFrzK, wOp, wAdd, nAdd, nI, nI0, wMul, nMul, wNeg, wEq, nEq, wIsN, wB, wAndT, wOrT, wNotT, wAndV, wOrV, wNotV, wIfE, wChain, aNil, aCons, aStar, wLst, wTup, wIx, nIx, pNo, pSo, wSl, wRev, wRevE, mIndex, wLenSet, cRepr, wIsB, wCB, cLen, cAll, cSum, cMax, cMin, cSorted, cInt, cList, cTuple, cIsi, wBits, wLRg, wBM, wBM0, mChg, wDGet, wDIn, wDNew, sDPutD, wIn, nIn, wCall, wCallK, wNew, tYesD, startD, List.map_cons, List.map_nil, List.length_cons, List.length_nil, List.replicate, Nat.sub_self, List.append_nil, List.cons_append, List.nil_append, List.getElem?_cons_zero, List.getElem?_cons_succ, List.set_cons_zero, List.set_cons_succ, Nat.reduceSub, Nat.reduceAdd, ite_true, ite_false, if_true, if_false, Bool.false_eq_true, Bool.true_eq_false, Bool.not_true, Bool.not_false, Option.some.injEq, nrm_non, nrm_bl, nrm_int, nrm_str, nrm_ty, nrm_lst, nrm_tupC, nrm_dct, nrm_scr, nrm_setL, wFgt, tyN_non, tyN_bl, tyN_int, tyN_str, tyN_lst, tyN_tup, tyN_dct, keyD_int, keyD_str, isA, okT, beq_self_eq_true, String.reduceBEq, Bool.or_false, Bool.or_true, Bool.and_false, Bool.and_true, Bool.true_or, Bool.false_or, Bool.true_and, Bool.false_and, true_and, and_true, List.any_cons, List.any_nil, tyNames, Option.map_some, iRn1, iRn2, iRn3, iLst, nIt, iTp, iEn, iZp, iSt, wipeD, atI0, atI1, atI2, atI3, ixN0, ixN1, ixN2, ixN3, wSub, wLt, wLe, wGt, wGe, wDiv, wMod, wPow, wShl, Mp.set_same, Mp.set_set, cSortedA, cDictP, wNewD, wEqS, nEqS, wFrzT, mExt, mCnt, nIxL, sAugS, wSlS, wJoin, cSumL, dUnl, cSortLL, cMinLL, wLenSetT, wLenDictT, mIndexB, wLenSetJ, wAddT, wSortSet, wDNewT, sDPutT, cSortDT, wBMd, wDGet1, wDGet2, mUpd, wPairs, wDisp, wLtS, cMinS, cListD]
        obtain ⟨gj, hgj⟩ : ∃ gj, gj = (if j = 0 then g else if j = 1 then updW f g (nxF n false a) (w ++ [true]) else stepW n f g a) := ⟨_, rfl⟩
        have hg2 : (if j + 1 = 0 then g else if j + 1 = 1 then updW f g (nxF n false a) (w ++ [true]) else stepW n f g a) = updW f gj (nxF n (!b) a) (w ++ [b]) := by
          rw [hgj, hb]
          cases b
          · simp only [Bool.false_eq_true, if_false, Bool.not_false]
            rw [if_neg (by omega), if_neg (by omega), if_neg (by omega), if_pos trivial]
            unfold stepW
            rw [hw]; rfl
          · simp
        rw [← hgj] at hls
        rw [hg2]
        have hqn : nxF n (!b) a < n := nxF_lt han
        generalize hq : nxF n (!b) a = qq at hqn hg2
        have hlq : (look (ls.map Sum.inl) ys (.inl (qq : Int))).isSome = decide ((gj qq).isSome = true) := by rw [hls.2.2.2 qq, Option.isSome_map]; simp
        have hwl := hlen a w hw
        have hll := hls.le
        have hat := hba a han
        rw [hq] at hat
        have hdk : isDk (M'.set r (.dK (ls.map .inl) ys)) (.ref r) = true := by unfold isDk; rw [nrm_refD hMr2]
        ((try simp only [sSeq]); simp only [sRet, sRetN, sIf, sDrop, sNever, sNext, sBreak, sCont, sAsg, sPar, sPar3, sAug, dName, dNil, dCons, dTup, dSub, sSetL, wVar, wC, wFrz, wFrzK, wOp, wAdd, nAdd, nI, nI0, wMul, nMul, wNeg, wEq, nEq, wIsN, wB, wAndT, wOrT, wNotT, wAndV, wOrV, wNotV, wIfE, wChain, aNil, aCons, aStar, wLst, wTup, wIx, nIx, pNo, pSo, wSl, wRev, wRevE, mIndex, wLenSet, cRepr, wIsB, wCB, cLen, cAll, cSum, cMax, cMin, cSorted, cInt, cList, cTuple, cIsi, wBits, wLRg, wBM, wBM0, mChg, wDGet, wDIn, wDNew, sDPutD, wIn, nIn, wCall, wCallK, wNew, tYesD, startD, List.map_cons, List.map_nil, List.length_cons, List.length_nil, List.replicate, Nat.sub_self, List.append_nil, List.cons_append, List.nil_append, List.getElem?_cons_zero, List.getElem?_cons_succ, List.set_cons_zero, List.set_cons_succ, Nat.reduceSub, Nat.reduceAdd, ite_true, ite_false, if_true, if_false, Bool.false_eq_true, Bool.true_eq_false, Bool.not_true, Bool.not_false, Option.some.injEq, nrm_non, nrm_bl, nrm_int, nrm_str, nrm_ty, nrm_lst, nrm_tupC, nrm_dct, nrm_scr, nrm_setL, wFgt, tyN_non, tyN_bl, tyN_int, tyN_str, tyN_lst, tyN_tup, tyN_dct, keyD_int, keyD_str, isA, okT, beq_self_eq_true, String.reduceBEq, Bool.or_false, Bool.or_true, Bool.and_false, Bool.and_true, Bool.true_or, Bool.false_or, Bool.true_and, Bool.false_and, true_and, and_true, List.any_cons, List.any_nil, tyNames, Option.map_some, iRn1, iRn2, iRn3, iLst, nIt, iTp, iEn, iZp, iSt, wipeD, atI0, atI1, atI2, atI3, ixN0, ixN1, ixN2, ixN3, wSub, wLt, wLe, wGt, wGe, wDiv, wMod, wPow, wShl, Mp.set_same, Mp.set_set, cSortedA, cDictP, wNewD, wEqS, nEqS, wFrzT, mExt, mCnt, nIxL, sAugS, wSlS, wJoin, cSumL, dUnl, cSortLL, cMinLL, wLenSetT, wLenDictT, mIndexB, wLenSetJ, wAddT, wSortSet, wDNewT, sDPutT, cSortDT, wBMd, wDGet1, wDGet2, mUpd, wPairs, wDisp, wLtS, cMinS, cListD, hat, nrm_refD hMr, hfl])
        by_cases hf0 : (f qq).isSome = true
        · rw [decide_eq_true hf0, if_neg (by decide)]
          exact ⟨ls, ys, _, _, _, rfl, rfl, by rw [updW, if_pos hf0]; exact hls⟩
        · rw [decide_eq_false hf0, if_pos (by decide)]
          obtain ⟨u, hu, hu2⟩ : ∃ u, (if ltS (wordS (w ++ [b])) ((look (ls.map Sum.inl) ys (.inl (qq : Int))).getD (.str "X") |> fun d => match d with | .str z => z | _ => "X") = true then wordS (w ++ [b]) else ((look (ls.map Sum.inl) ys (.inl (qq : Int))).getD (.str "X") |> fun d => match d with | .str z => z | _ => "X")) = wordS u ∧ updW f gj qq (w ++ [b]) = fun x => if x = qq then some u else gj x := by
            cases hgq : gj qq with
            | none =>
              refine ⟨w ++ [b], ?_, ?_⟩
              · rw [hls.2.2.2 qq, hgq]
                show (if ltS (wordS (w ++ [b])) "X" = true then _ else _) = _
                rw [if_pos (ltS_X (by simp))]
              · rw [updW, if_neg hf0, hgq]
            | some c =>
              refine ⟨bminW c (w ++ [b]), ?_, ?_⟩
              · rw [hls.2.2.2 qq, hgq]
                show (if ltS (wordS (w ++ [b])) (wordS c) = true then _ else wordS c) = _
                rw [ltS_word]
                unfold bminW
                split <;> rfl
              · rw [updW, if_neg hf0, hgq]
          have hz : ∃ z, (look (ls.map Sum.inl) ys (.inl (qq : Int))).getD (.str "X") = .str z := by
            rw [hls.2.2.2 qq]
            cases gj qq with
            | none => exact ⟨_, rfl⟩
            | some c => exact ⟨_, rfl⟩
          obtain ⟨z, hz⟩ := hz
          rw [hz] at hu
          dsimp only at hu
          obtain ⟨ks2, k1, k2⟩ := hls.put hqn u
          rw [← hu2] at k2
          simp only [sRet, sRetN, sIf, sDrop, sNever, sNext, sBreak, sCont, sAsg, sPar, sPar3, sAug, dName, dNil, dCons, dTup, dSub, sSetL, wVar, wC, wFrz, wFrzK, wOp, wAdd, nAdd, nI, nI0, wMul, nMul, wNeg, wEq, nEq, wIsN, wB, wAndT, wOrT, wNotT, wAndV, wOrV, wNotV, wIfE, wChain, aNil, aCons, aStar, wLst, wTup, wIx, nIx, pNo, pSo, wSl, wRev, wRevE, mIndex, wLenSet, cRepr, wIsB, wCB, cLen, cAll, cSum, cMax, cMin, cSorted, cInt, cList, cTuple, cIsi, wBits, wLRg, wBM, wBM0, mChg, wDGet, wDIn, wDNew, sDPutD, wIn, nIn, wCall, wCallK, wNew, tYesD, startD, List.map_cons, List.map_nil, List.length_cons, List.length_nil, List.replicate, Nat.sub_self, List.append_nil, List.cons_append, List.nil_append, List.getElem?_cons_zero, List.getElem?_cons_succ, List.set_cons_zero, List.set_cons_succ, Nat.reduceSub, Nat.reduceAdd, ite_true, ite_false, if_true, if_false, Bool.false_eq_true, Bool.true_eq_false, Bool.not_true, Bool.not_false, Option.some.injEq, nrm_non, nrm_bl, nrm_int, nrm_str, nrm_ty, nrm_lst, nrm_tupC, nrm_dct, nrm_scr, nrm_setL, wFgt, tyN_non, tyN_bl, tyN_int, tyN_str, tyN_lst, tyN_tup, tyN_dct, keyD_int, keyD_str, isA, okT, beq_self_eq_true, String.reduceBEq, Bool.or_false, Bool.or_true, Bool.and_false, Bool.and_true, Bool.true_or, Bool.false_or, Bool.true_and, Bool.false_and, true_and, and_true, List.any_cons, List.any_nil, tyNames, Option.map_some, iRn1, iRn2, iRn3, iLst, nIt, iTp, iEn, iZp, iSt, wipeD, atI0, atI1, atI2, atI3, ixN0, ixN1, ixN2, ixN3, wSub, wLt, wLe, wGt, wGe, wDiv, wMod, wPow, wShl, Mp.set_same, Mp.set_set, cSortedA, cDictP, wNewD, wEqS, nEqS, wFrzT, mExt, mCnt, nIxL, sAugS, wSlS, wJoin, cSumL, dUnl, cSortLL, cMinLL, wLenSetT, wLenDictT, mIndexB, wLenSetJ, wAddT, wSortSet, wDNewT, sDPutT, cSortDT, wBMd, wDGet1, wDGet2, mUpd, wPairs, wDisp, wLtS, cMinS, cListD, hdk, nrm_refD hMr2, hla, word_snoc, hz, hu, hMr2, k1]
          exact ⟨by rw [word_len]; show Sz (w.length + 1); unfold Sz; omega, by rw [List.length_map]; omega, ks2, _, _, _, _, rfl, rfl, k2⟩
      · obtain ⟨ls, ys, y6, y7, y8, rfl, rfl, hls⟩ := w
        exact ⟨ls, ys, _, _, _, _, rfl, rfl, hls⟩
    · obtain ⟨ls, ys, y5, y6, y7, y8, rfl, rfl, hls⟩ := w
      rw [List.length_map, List.take_length] at hls
      have hlay : L2.foldl (stepW n f) (fun _ => none) = layW n f L := layW_perm hL2
      rw [hlay] at hls
      have hMr : (M'.set r (.dK (ls.map .inl) ys)) p = some (.dK (ks.map .inl) xs) := by rw [Mp.set_ne hpr]; exact hMp
      have hMr2 : (M'.set r (.dK (ls.map .inl) ys)) r = some (.dK (ls.map .inl) ys) := Mp.set_same
      have hdis : ∀ q, (layW n f L q).isSome = true → f q = none := layW_disj L _ (fun q h => by cases h)
      have hlt : ∀ q, (layW n f L q).isSome = true → q < n := layW_lt hinj L _ (fun q hq => (hL q hq).1) (fun q h => by cases h)
      obtain ⟨ks2, j1, j2, j3⟩ := hmap.join hls hdis
      have hll := hls.le
      have hdk : isDk (M'.set r (.dK (ls.map .inl) ys)) (.ref p) = true := by unfold isDk; rw [nrm_refD hMr]
      have hMp2 : ((M'.set r (.dK (ls.map .inl) ys)).set p (.dK (ks2.map .inl) (mrgD (ks.map Sum.inl, xs) ((ls.map Sum.inl).zip ys)).2)) r = some (.dK (ls.map .inl) ys) := by rw [Mp.set_ne hpr.symm]; exact hMr2
      ((try simp only [sSeq]); simp only [sRet, sRetN, sIf, sDrop, sNever, sNext, sBreak, sCont, sAsg, sPar, sPar3, sAug, dName, dNil, dCons, dTup, dSub, sSetL, wVar, wC, wFrz, wFrzK, wOp, wAdd, nAdd, nI, nI0, wMul, nMul, wNeg, wEq, nEq, wIsN, wB, wAndT, wOrT, wNotT, wAndV, wOrV, wNotV, wIfE, wChain, aNil, aCons, aStar, wLst, wTup, wIx, nIx, pNo, pSo, wSl, wRev, wRevE, mIndex, wLenSet, cRepr, wIsB, wCB, cLen, cAll, cSum, cMax, cMin, cSorted, cInt, cList, cTuple, cIsi, wBits, wLRg, wBM, wBM0, mChg, wDGet, wDIn, wDNew, sDPutD, wIn, nIn, wCall, wCallK, wNew, tYesD, startD, List.map_cons, List.map_nil, List.length_cons, List.length_nil, List.replicate, Nat.sub_self, List.append_nil, List.cons_append, List.nil_append, List.getElem?_cons_zero, List.getElem?_cons_succ, List.set_cons_zero, List.set_cons_succ, Nat.reduceSub, Nat.reduceAdd, ite_true, ite_false, if_true, if_false, Bool.false_eq_true, Bool.true_eq_false, Bool.not_true, Bool.not_false, Option.some.injEq, nrm_non, nrm_bl, nrm_int, nrm_str, nrm_ty, nrm_lst, nrm_tupC, nrm_dct, nrm_scr, nrm_setL, wFgt, tyN_non, tyN_bl, tyN_int, tyN_str, tyN_lst, tyN_tup, tyN_dct, keyD_int, keyD_str, isA, okT, beq_self_eq_true, String.reduceBEq, Bool.or_false, Bool.or_true, Bool.and_false, Bool.and_true, Bool.true_or, Bool.false_or, Bool.true_and, Bool.false_and, true_and, and_true, List.any_cons, List.any_nil, tyNames, Option.map_some, iRn1, iRn2, iRn3, iLst, nIt, iTp, iEn, iZp, iSt, wipeD, atI0, atI1, atI2, atI3, ixN0, ixN1, ixN2, ixN3, wSub, wLt, wLe, wGt, wGe, wDiv, wMod, wPow, wShl, Mp.set_same, Mp.set_set, cSortedA, cDictP, wNewD, wEqS, nEqS, wFrzT, mExt, mCnt, nIxL, sAugS, wSlS, wJoin, cSumL, dUnl, cSortLL, cMinLL, wLenSetT, wLenDictT, mIndexB, wLenSetJ, wAddT, wSortSet, wDNewT, sDPutT, cSortDT, wBMd, wDGet1, wDGet2, mUpd, wPairs, wDisp, wLtS, cMinS, cListD, hdk, hMr, nrm_refD hMr2, j1])
      refine ⟨fun e => hpr (by cases e; rfl), by rw [List.length_map, List.length_map]; omega, ?_⟩
      simp only [sRet, sRetN, sIf, sDrop, sNever, sNext, sBreak, sCont, sAsg, sPar, sPar3, sAug, dName, dNil, dCons, dTup, dSub, sSetL, wVar, wC, wFrz, wFrzK, wOp, wAdd, nAdd, nI, nI0, wMul, nMul, wNeg, wEq, nEq, wIsN, wB, wAndT, wOrT, wNotT, wAndV, wOrV, wNotV, wIfE, wChain, aNil, aCons, aStar, wLst, wTup, wIx, nIx, pNo, pSo, wSl, wRev, wRevE, mIndex, wLenSet, cRepr, wIsB, wCB, cLen, cAll, cSum, cMax, cMin, cSorted, cInt, cList, cTuple, cIsi, wBits, wLRg, wBM, wBM0, mChg, wDGet, wDIn, wDNew, sDPutD, wIn, nIn, wCall, wCallK, wNew, tYesD, startD, List.map_cons, List.map_nil, List.length_cons, List.length_nil, List.replicate, Nat.sub_self, List.append_nil, List.cons_append, List.nil_append, List.getElem?_cons_zero, List.getElem?_cons_succ, List.set_cons_zero, List.set_cons_succ, Nat.reduceSub, Nat.reduceAdd, ite_true, ite_false, if_true, if_false, Bool.false_eq_true, Bool.true_eq_false, Bool.not_true, Bool.not_false, Option.some.injEq, nrm_non, nrm_bl, nrm_int, nrm_str, nrm_ty, nrm_lst, nrm_tupC, nrm_dct, nrm_scr, nrm_setL, wFgt, tyN_non, tyN_bl, tyN_int, tyN_str, tyN_lst, tyN_tup, tyN_dct, keyD_int, keyD_str, isA, okT, beq_self_eq_true, String.reduceBEq, Bool.or_false, Bool.or_true, Bool.and_false, Bool.and_true, Bool.true_or, Bool.false_or, Bool.true_and, Bool.false_and, true_and, and_true, List.any_cons, List.any_nil, tyNames, Option.map_some, iRn1, iRn2, iRn3, iLst, nIt, iTp, iEn, iZp, iSt, wipeD, atI0, atI1, atI2, atI3, ixN0, ixN1, ixN2, ixN3, wSub, wLt, wLe, wGt, wGe, wDiv, wMod, wPow, wShl, Mp.set_same, Mp.set_set, cSortedA, cDictP, wNewD, wEqS, nEqS, wFrzT, mExt, mCnt, nIxL, sAugS, wSlS, wJoin, cSumL, dUnl, cSortLL, cMinLL, wLenSetT, wLenDictT, mIndexB, wLenSetJ, wAddT, wSortSet, wDNewT, sDPutT, cSortDT, wBMd, wDGet1, wDGet2, mUpd, wPairs, wDisp, wLtS, cMinS, cListD, nrm_refD hMp2]
      have hLn2 : ((List.range n).filter fun q => (layW n f L q).isSome).Nodup := List.Nodup.sublist List.filter_sublist List.nodup_range
      have hpm : ls.Perm (((List.range n).filter fun q => (layW n f L q).isSome).map fun q : Nat => (q : Int)) := by
        refine (List.perm_ext_iff_of_nodup hls.2.1 ?_).mpr fun k => ?_
        · unfold List.Nodup at *
          rw [List.pairwise_map]
          exact hLn2.imp fun h e => h (Int.ofNat.inj e)
        · rw [List.mem_map]
          constructor
          · intro hk
            obtain ⟨k0, k1⟩ := hls.2.2.1 k hk
            obtain ⟨q, rfl⟩ := Int.eq_ofNat_of_zero_le k0
            exact ⟨q, List.mem_filter.mpr ⟨List.mem_range.mpr (by omega), (hls.mem q).mp hk⟩, rfl⟩
          · rintro ⟨q, hq, rfl⟩
            exact (hls.mem q).mpr (List.mem_filter.mp hq).2
      have hpl := hpm.length_eq
      rw [List.length_map] at hpl
      have hmn : m ≤ n := by
        cases L with
        | nil => exact absurd rfl hLe
        | cons p0 L0 =>
          obtain ⟨w0, h0⟩ := Option.isSome_iff_exists.mp (hL p0 List.mem_cons_self).2
          have := hlen p0 w0 h0
          omega
      have eK : intsK (ls.map Sum.inl) = some ls := by rw [intsK_map]
      rw [eK]
      intro ns' hns _
      refine ⟨m, by omega, fun q => (f q).or (layW n f L q), (List.range n).filter fun q => (layW n f L q).isSome, ns', ks2, _, _, _, _, _, _, rfl, (hle.put (hle.none hr)).put hp, rfl, j3, hns.trans hpm, fun q hq => ?_, hLn2, fun q w hw => ?_, ?_, hg⟩
      · obtain ⟨q1, q2⟩ := List.mem_filter.mp hq
        refine ⟨List.mem_range.mp q1, ?_⟩
        dsimp only
        rw [hdis q q2]
        exact q2
      · dsimp only at hw
        cases hfq : f q with
        | some w2 =>
          rw [hfq] at hw
          cases hw
          have := hlen q w hfq
          omega
        | none =>
          rw [hfq] at hw
          have := layW_len (f := f) (n := n) (K := n + 1 - m) L (fun _ => none) (fun p hp => by
            have h2 := (hL p hp).2
            obtain ⟨w3, h3⟩ := Option.isSome_iff_exists.mp h2
            have := hlen p w3 h3
            rw [h3]; show w3.length + 1 ≤ _; omega) (fun q w h => by cases h) q w hw
          omega
      · by_cases e : (List.range n).filter (fun q => (layW n f L q).isSome) = []
        · exact .inl e
        · right
          have := List.length_pos_iff.mpr e
          omega
abbrev s_check_many : Stmt := topS 11
theorem sc_check_many : FnScope ["many"] ["many"] (defScope s_check_many) := ⟨rfl, rfl, rfl, by decide +kernel, rfl, by decide +kernel, by decide +kernel⟩
theorem ok_check_many {f : Addr} {fd : FuncData} (F : FnP K "check_many" s_check_many [] f fd)
    {f_is_count : Addr} {fd_is_count : FuncData} {ds_is_count : List Value} (G_is_count : Kn P w K mg base "is_count" ["value", "least"] R_is_count 2 [.int 0] ds_is_count f_is_count fd_is_count) :
    FnG P w K mg base 3 f fd ["many"] (spD R_check_many) := by
  have nd := sc_check_many.nd
  refine fnD (k := 2) F sc_check_many len_check_many fun cdv A outer s H E hr hq => ?_
  have hu := hu_of hr
  have hr65 := room65 hr
  have hr66 := room66 hr
  refine ⟨_, _, pss_one (ps_if (pt_not (pt_val (pe_callG (G_is_count.ok.mono (by decide)) hr hq (by rfl) G_is_count.m G_is_count.kp G_is_count.b G_is_count.dv (pa_cons (pv 0) (pa_nil))))) (pss_one (ps_never)) (pss_nil)),
    ts_if (tt_not (tt_B (tr_call (ta_cons (tr_var (i := 0)) (ta_nil)) (by exact .cons (d := .int 0) (fun _ => rfl) .nil)))) (ts_never) (ts_next), ?_⟩
  rintro ds M Q ⟨n, rfl, h0, q⟩
  simp only [sSeq, sRet, sRetN, sIf, sDrop, sNever, sNext, sBreak, sCont, sAsg, sPar, sPar3, sAug, dName, dNil, dCons, dTup, dSub, sSetL, wVar, wC, wFrz, wFrzK, wOp, wAdd, nAdd, nI, nI0, wMul, nMul, wNeg, wEq, nEq, wIsN, wB, wAndT, wOrT, wNotT, wAndV, wOrV, wNotV, wIfE, wChain, aNil, aCons, aStar, wLst, wTup, wIx, nIx, pNo, pSo, wSl, wRev, wRevE, mIndex, wLenSet, cRepr, wIsB, wCB, cLen, cAll, cSum, cMax, cMin, cSorted, cInt, cList, cTuple, cIsi, wBits, wLRg, wBM, wBM0, mChg, wDGet, wDIn, wDNew, sDPutD, wIn, nIn, wCall, wCallK, wNew, tYesD, startD, List.map_cons, List.map_nil, List.length_cons, List.length_nil, List.replicate, Nat.sub_self, List.append_nil, List.cons_append, List.nil_append, List.getElem?_cons_zero, List.getElem?_cons_succ, List.set_cons_zero, List.set_cons_succ, Nat.reduceSub, Nat.reduceAdd, ite_true, ite_false, if_true, if_false, Bool.false_eq_true, Bool.true_eq_false, Bool.not_true, Bool.not_false, Option.some.injEq, nrm_non, nrm_bl, nrm_int, nrm_str, nrm_ty, nrm_lst, nrm_tupC, nrm_dct, nrm_scr, nrm_setL, wFgt, tyN_non, tyN_bl, tyN_int, tyN_str, tyN_lst, tyN_tup, tyN_dct, keyD_int, keyD_str, isA, okT, beq_self_eq_true, String.reduceBEq, Bool.or_false, Bool.or_true, Bool.and_false, Bool.and_true, Bool.true_or, Bool.false_or, Bool.true_and, Bool.false_and, true_and, and_true, List.any_cons, List.any_nil, tyNames, Option.map_some, iRn1, iRn2, iRn3, iLst, nIt, iTp, iEn, iZp, iSt, wipeD, atI0, atI1, atI2, atI3, ixN0, ixN1, ixN2, ixN3, wSub, wLt, wLe, wGt, wGe, wDiv, wMod, wPow, wShl, Mp.set_same, Mp.set_set, cSortedA, cDictP, wNewD, wEqS, nEqS, wFrzT, mExt, mCnt, nIxL, sAugS, wSlS, wJoin, cSumL, dUnl, cSortLL, cMinLL, wLenSetT, wLenDictT, mIndexB, wLenSetJ, wAddT, wSortSet, wDNewT, sDPutT, cSortDT, wBMd, wDGet1, wDGet2, mUpd, wPairs, wDisp, wLtS, cMinS, cListD]
  refine ⟨.int n, 0, rfl, rfl, ?_⟩
  have e : countD 0 (.int n) = true := by unfold countD; rw [decide_eq_true_iff]; omega
  simp only [sSeq, sRet, sRetN, sIf, sDrop, sNever, sNext, sBreak, sCont, sAsg, sPar, sPar3, sAug, dName, dNil, dCons, dTup, dSub, sSetL, wVar, wC, wFrz, wFrzK, wOp, wAdd, nAdd, nI, nI0, wMul, nMul, wNeg, wEq, nEq, wIsN, wB, wAndT, wOrT, wNotT, wAndV, wOrV, wNotV, wIfE, wChain, aNil, aCons, aStar, wLst, wTup, wIx, nIx, pNo, pSo, wSl, wRev, wRevE, mIndex, wLenSet, cRepr, wIsB, wCB, cLen, cAll, cSum, cMax, cMin, cSorted, cInt, cList, cTuple, cIsi, wBits, wLRg, wBM, wBM0, mChg, wDGet, wDIn, wDNew, sDPutD, wIn, nIn, wCall, wCallK, wNew, tYesD, startD, List.map_cons, List.map_nil, List.length_cons, List.length_nil, List.replicate, Nat.sub_self, List.append_nil, List.cons_append, List.nil_append, List.getElem?_cons_zero, List.getElem?_cons_succ, List.set_cons_zero, List.set_cons_succ, Nat.reduceSub, Nat.reduceAdd, ite_true, ite_false, if_true, if_false, Bool.false_eq_true, Bool.true_eq_false, Bool.not_true, Bool.not_false, Option.some.injEq, nrm_non, nrm_bl, nrm_int, nrm_str, nrm_ty, nrm_lst, nrm_tupC, nrm_dct, nrm_scr, nrm_setL, wFgt, tyN_non, tyN_bl, tyN_int, tyN_str, tyN_lst, tyN_tup, tyN_dct, keyD_int, keyD_str, isA, okT, beq_self_eq_true, String.reduceBEq, Bool.or_false, Bool.or_true, Bool.and_false, Bool.and_true, Bool.true_or, Bool.false_or, Bool.true_and, Bool.false_and, true_and, and_true, List.any_cons, List.any_nil, tyNames, Option.map_some, iRn1, iRn2, iRn3, iLst, nIt, iTp, iEn, iZp, iSt, wipeD, atI0, atI1, atI2, atI3, ixN0, ixN1, ixN2, ixN3, wSub, wLt, wLe, wGt, wGe, wDiv, wMod, wPow, wShl, Mp.set_same, Mp.set_set, cSortedA, cDictP, wNewD, wEqS, nEqS, wFrzT, mExt, mCnt, nIxL, sAugS, wSlS, wJoin, cSumL, dUnl, cSortLL, cMinLL, wLenSetT, wLenDictT, mIndexB, wLenSetJ, wAddT, wSortSet, wDNewT, sDPutT, cSortDT, wBMd, wDGet1, wDGet2, mUpd, wPairs, wDisp, wLtS, cMinS, cListD, e]
  exact q
abbrev s_check_place : Stmt := topS 12
theorem sc_check_place : FnScope ["many", "place"] ["many", "place"] (defScope s_check_place) := ⟨rfl, rfl, rfl, by decide +kernel, rfl, by decide +kernel, by decide +kernel⟩
theorem ok_check_place {f : Addr} {fd : FuncData} (F : FnP K "check_place" s_check_place [] f fd)
    {f_is_count : Addr} {fd_is_count : FuncData} {ds_is_count : List Value} (G_is_count : Kn P w K mg base "is_count" ["value", "least"] R_is_count 2 [.int 0] ds_is_count f_is_count fd_is_count) :
    FnG P w K mg base 3 f fd ["many", "place"] (spD R_check_place) := by
  have nd := sc_check_place.nd
  refine fnD (k := 2) F sc_check_place len_check_place fun cdv A outer s H E hr hq => ?_
  have hu := hu_of hr
  have hr65 := room65 hr
  have hr66 := room66 hr
  refine ⟨_, _, pss_one (ps_if (PW.pt (pw_or (pt_not (pt_val (pe_callG (G_is_count.ok.mono (by decide)) hr hq (by rfl) G_is_count.m G_is_count.kp G_is_count.b G_is_count.dv (pa_cons (pv 1) (pa_nil))))) (pw_or1 (pt_cmpR (op_ge) (pv 1) (pv 0) (nomark _))))) (pss_one (ps_never)) (pss_nil)),
    ts_if (tt_or (tt_not (tt_B (tr_call (ta_cons (tr_var (i := 1)) (ta_nil)) (by exact .cons (d := .int 0) (fun _ => rfl) .nil)))) (tt_test (tr_op ot_ge (tr_var (i := 1)) (tr_var (i := 0))))) (ts_never) (ts_next), ?_⟩
  rintro ds M Q ⟨n, p, rfl, h0, h1, q⟩
  have e1 : countD 0 (.int p) = true := by unfold countD; rw [decide_eq_true_iff]; omega
  have e2 : decide (n ≤ p) = false := decide_eq_false (by omega)
  ((try simp only [sSeq]); simp only [sRet, sRetN, sIf, sDrop, sNever, sNext, sBreak, sCont, sAsg, sPar, sPar3, sAug, dName, dNil, dCons, dTup, dSub, sSetL, wVar, wC, wFrz, wFrzK, wOp, wAdd, nAdd, nI, nI0, wMul, nMul, wNeg, wEq, nEq, wIsN, wB, wAndT, wOrT, wNotT, wAndV, wOrV, wNotV, wIfE, wChain, aNil, aCons, aStar, wLst, wTup, wIx, nIx, pNo, pSo, wSl, wRev, wRevE, mIndex, wLenSet, cRepr, wIsB, wCB, cLen, cAll, cSum, cMax, cMin, cSorted, cInt, cList, cTuple, cIsi, wBits, wLRg, wBM, wBM0, mChg, wDGet, wDIn, wDNew, sDPutD, wIn, nIn, wCall, wCallK, wNew, tYesD, startD, List.map_cons, List.map_nil, List.length_cons, List.length_nil, List.replicate, Nat.sub_self, List.append_nil, List.cons_append, List.nil_append, List.getElem?_cons_zero, List.getElem?_cons_succ, List.set_cons_zero, List.set_cons_succ, Nat.reduceSub, Nat.reduceAdd, ite_true, ite_false, if_true, if_false, Bool.false_eq_true, Bool.true_eq_false, Bool.not_true, Bool.not_false, Option.some.injEq, nrm_non, nrm_bl, nrm_int, nrm_str, nrm_ty, nrm_lst, nrm_tupC, nrm_dct, nrm_scr, nrm_setL, wFgt, tyN_non, tyN_bl, tyN_int, tyN_str, tyN_lst, tyN_tup, tyN_dct, keyD_int, keyD_str, isA, okT, beq_self_eq_true, String.reduceBEq, Bool.or_false, Bool.or_true, Bool.and_false, Bool.and_true, Bool.true_or, Bool.false_or, Bool.true_and, Bool.false_and, true_and, and_true, List.any_cons, List.any_nil, tyNames, Option.map_some, iRn1, iRn2, iRn3, iLst, nIt, iTp, iEn, iZp, iSt, wipeD, atI0, atI1, atI2, atI3, ixN0, ixN1, ixN2, ixN3, wSub, wLt, wLe, wGt, wGe, wDiv, wMod, wPow, wShl, Mp.set_same, Mp.set_set, cSortedA, cDictP, wNewD, wEqS, nEqS, wFrzT, mExt, mCnt, nIxL, sAugS, wSlS, wJoin, cSumL, dUnl, cSortLL, cMinLL, wLenSetT, wLenDictT, mIndexB, wLenSetJ, wAddT, wSortSet, wDNewT, sDPutT, cSortDT, wBMd, wDGet1, wDGet2, mUpd, wPairs, wDisp, wLtS, cMinS, cListD])
  refine ⟨.int p, 0, rfl, rfl, ?_⟩
  simp only [sSeq, sRet, sRetN, sIf, sDrop, sNever, sNext, sBreak, sCont, sAsg, sPar, sPar3, sAug, dName, dNil, dCons, dTup, dSub, sSetL, wVar, wC, wFrz, wFrzK, wOp, wAdd, nAdd, nI, nI0, wMul, nMul, wNeg, wEq, nEq, wIsN, wB, wAndT, wOrT, wNotT, wAndV, wOrV, wNotV, wIfE, wChain, aNil, aCons, aStar, wLst, wTup, wIx, nIx, pNo, pSo, wSl, wRev, wRevE, mIndex, wLenSet, cRepr, wIsB, wCB, cLen, cAll, cSum, cMax, cMin, cSorted, cInt, cList, cTuple, cIsi, wBits, wLRg, wBM, wBM0, mChg, wDGet, wDIn, wDNew, sDPutD, wIn, nIn, wCall, wCallK, wNew, tYesD, startD, List.map_cons, List.map_nil, List.length_cons, List.length_nil, List.replicate, Nat.sub_self, List.append_nil, List.cons_append, List.nil_append, List.getElem?_cons_zero, List.getElem?_cons_succ, List.set_cons_zero, List.set_cons_succ, Nat.reduceSub, Nat.reduceAdd, ite_true, ite_false, if_true, if_false, Bool.false_eq_true, Bool.true_eq_false, Bool.not_true, Bool.not_false, Option.some.injEq, nrm_non, nrm_bl, nrm_int, nrm_str, nrm_ty, nrm_lst, nrm_tupC, nrm_dct, nrm_scr, nrm_setL, wFgt, tyN_non, tyN_bl, tyN_int, tyN_str, tyN_lst, tyN_tup, tyN_dct, keyD_int, keyD_str, isA, okT, beq_self_eq_true, String.reduceBEq, Bool.or_false, Bool.or_true, Bool.and_false, Bool.and_true, Bool.true_or, Bool.false_or, Bool.true_and, Bool.false_and, true_and, and_true, List.any_cons, List.any_nil, tyNames, Option.map_some, iRn1, iRn2, iRn3, iLst, nIt, iTp, iEn, iZp, iSt, wipeD, atI0, atI1, atI2, atI3, ixN0, ixN1, ixN2, ixN3, wSub, wLt, wLe, wGt, wGe, wDiv, wMod, wPow, wShl, Mp.set_same, Mp.set_set, cSortedA, cDictP, wNewD, wEqS, nEqS, wFrzT, mExt, mCnt, nIxL, sAugS, wSlS, wJoin, cSumL, dUnl, cSortLL, cMinLL, wLenSetT, wLenDictT, mIndexB, wLenSetJ, wAddT, wSortSet, wDNewT, sDPutT, cSortDT, wBMd, wDGet1, wDGet2, mUpd, wPairs, wDisp, wLtS, cMinS, cListD, e1, e2]
  exact q
abbrev s_words_there : Stmt := topS 21
theorem sc_words_there : FnScope ["many", "one", "found", "layer", "late", "place", "sign", "there", "word"] ["many", "one"] (defScope s_words_there) := ⟨rfl, rfl, rfl, by decide +kernel, rfl, by decide +kernel, by decide +kernel⟩
theorem ok_words_there {f : Addr} {fd : FuncData} (F : FnP K "words_there" s_words_there [] f fd)
    {f_next_place : Addr} {fd_next_place : FuncData} {ds_next_place : List Value} (G_next_place : Kn P w K mg base "next_place" ["many", "kind", "place"] R_next_place 2 [] ds_next_place f_next_place fd_next_place)
    {f_kind_of : Addr} {fd_kind_of : FuncData} {ds_kind_of : List Value} (G_kind_of : Kn P w K mg base "kind_of" ["sign"] R_kind_of 1 [] ds_kind_of f_kind_of fd_kind_of)
    (m_list : mg "list" = none) :
    FnG P w K mg base 3 f fd ["many", "one"] (spD R_words_there) := by
  have nd := sc_words_there.nd
  refine fnD (k := 2) F sc_words_there len_words_there fun cdv A outer s H E hr hq => ?_
  have hu := hu_of hr
  have hr65 := room65 hr
  have hr66 := room66 hr
  refine ⟨_, _, pss_cons (ps_par (i := 2) (j := 3) (by rfl) nd rfl rfl (by decide) rfl rfl (pa_cons (pe_disp (pps_cons (pv 1) (pe_str) (pps_nil)) (by rfl) (by rfl) (by exact nofun) (by decide)) (pa_cons (pe_lst (pa_cons (pv 1) (pa_nil))) (pa_nil))) (by rfl))
      (pss_cons (ps_while PassesOwn.never (pt_cmpR (op_neD hr.units) (pv 3) (pe_lst (pa_nil)) (nomark _)) (pss_cons (ps_set (i := 4) nd rfl (by first | exact .inl rfl | exact .inr rfl) (pe_dnewK))
      (pss_cons (ps_for PassesOwn.never rfl (pi_list (pv 3)) (pg_name (i := 5) nd rfl (by first | exact .inl rfl | exact .inr rfl)) (pss_one (ps_for PassesOwn.never rfl (pi_tup (pe_tup (pa_cons (pe_str) (pa_cons (pe_str) (pa_nil))))) (pg_name (i := 6) nd rfl (by first | exact .inl rfl | exact .inr rfl)) (pss_cons (ps_par (i := 7) (j := 8) (by rfl) nd rfl rfl (by decide) rfl rfl (pa_cons (pe_callG (G_next_place.ok.mono (by decide)) hr hq (by rfl) G_next_place.m G_next_place.kp G_next_place.b G_next_place.dv (pa_cons (pv 0) (pa_cons (pe_callG (G_kind_of.ok.mono (by decide)) hr hq (by rfl) G_kind_of.m G_kind_of.kp G_kind_of.b G_kind_of.dv (pa_cons (pv 6) (pa_nil))) (pa_cons (pv 5) (pa_nil))))) (pa_cons (pe_op op_addA (pe_dget hu (pv 2) (pv 5) (fun _ _ => rfl)) (pv 6)) (pa_nil))) (by rfl))
      (pss_one (ps_if (PW.pt (pw_and (pt_cmp (pc_dnotin hu (pv 7) (pv 2))) (pw_and1 (PW.pt (pw_or (pt_cmp (pc_dnotin hu (pv 7) (pv 4))) (pw_or1 (pt_cmpR (op_lt.or op_lt_str) (pv 8) (pe_dget hu (pv 4) (pv 7) (fun _ _ => rfl)) (nomark _)))))))) (pss_one (ps_dput hu (pv 4) (pv 7) (pv 8) rfl)) (pss_nil)))))))
      (pss_cons (ps_expr (pe_bm PySem.F.plainAttrs_dict PySem.F.slot_dict_update PySem.F.type_dict_update mt_dupd (pv 2) (pa_cons (pv 4) (pa_nil))))
      (pss_one (ps_set (i := 3) nd rfl (by first | exact .inl rfl | exact .inr rfl) (pe_callTy (call_listDK rfl) (by rfl) m_list (by decide +kernel) (pa_cons (pv 4) (pa_nil)))))))))
      (pss_one (ps_ret (pv 2)))),
    ts_seq (ts_par (i := 2) (j := 3) (ta_cons (tr_disp (md := .own) (tps_cons (tr_var (i := 1)) (tr_str) (tps_nil))) (ta_cons (tr_lst (md := .frz) (ta_cons (tr_var (i := 1)) (ta_nil))) (ta_nil))))
      (ts_seq (ts_while (tt_test (tr_op ot_ne (tr_var (i := 3)) (tr_lst (md := .frz) (ta_nil)))) (ts_seq (ts_asg (tr_dnew) (tg_name (i := 4)))
      (ts_seq (ts_for (ti_list (tr_var (i := 3))) (tg_name (i := 5)) (ts_for (ti_tup (tr_tup (ta_cons (tr_str) (ta_cons (tr_str) (ta_nil))))) (tg_name (i := 6)) (ts_seq (ts_par (i := 7) (j := 8) (ta_cons (tr_call (ta_cons (tr_var (i := 0)) (ta_cons (tr_call (ta_cons (tr_var (i := 6)) (ta_nil))) (ta_cons (tr_var (i := 5)) (ta_nil))))) (ta_cons (tr_op (ot_add (K := K) (md := .frz)) (tr_dget (tr_var (i := 2)) (tr_var (i := 5))) (tr_var (i := 6))) (ta_nil))))
      (ts_if (tt_and (tt_B (tr_dnotin (tr_var (i := 7)) (tr_var (i := 2)))) (tt_or (tt_B (tr_dnotin (tr_var (i := 7)) (tr_var (i := 4)))) (tt_test (tr_op ot_ltS (tr_var (i := 8)) (tr_dget (tr_var (i := 4)) (tr_var (i := 7))))))) (ts_dput (tr_var (i := 4)) (tr_var (i := 7)) (tr_var (i := 8))) (ts_next)))))
      (ts_seq (ts_drop (tr_bmd mt_dupdD (tr_var (i := 2)) (ta_cons (tr_var (i := 4)) (ta_nil))))
      (ts_asg (tr_cb (ct_listD (md := .frz)) (ta_cons (tr_var (i := 4)) (ta_nil))) (tg_name (i := 3)))))))
      (ts_ret (tr_fgt (tr_var (i := 2))))), ?_⟩
  rintro ds M Q ⟨n, one, rfl, h1, hn, q⟩
  ((try simp only [sSeq]); simp only [sRet, sRetN, sIf, sDrop, sNever, sNext, sBreak, sCont, sAsg, sPar, sPar3, sAug, dName, dNil, dCons, dTup, dSub, sSetL, wVar, wC, wFrz, wFrzK, wOp, wAdd, nAdd, nI, nI0, wMul, nMul, wNeg, wEq, nEq, wIsN, wB, wAndT, wOrT, wNotT, wAndV, wOrV, wNotV, wIfE, wChain, aNil, aCons, aStar, wLst, wTup, wIx, nIx, pNo, pSo, wSl, wRev, wRevE, mIndex, wLenSet, cRepr, wIsB, wCB, cLen, cAll, cSum, cMax, cMin, cSorted, cInt, cList, cTuple, cIsi, wBits, wLRg, wBM, wBM0, mChg, wDGet, wDIn, wDNew, sDPutD, wIn, nIn, wCall, wCallK, wNew, tYesD, startD, List.map_cons, List.map_nil, List.length_cons, List.length_nil, List.replicate, Nat.sub_self, List.append_nil, List.cons_append, List.nil_append, List.getElem?_cons_zero, List.getElem?_cons_succ, List.set_cons_zero, List.set_cons_succ, Nat.reduceSub, Nat.reduceAdd, ite_true, ite_false, if_true, if_false, Bool.false_eq_true, Bool.true_eq_false, Bool.not_true, Bool.not_false, Option.some.injEq, nrm_non, nrm_bl, nrm_int, nrm_str, nrm_ty, nrm_lst, nrm_tupC, nrm_dct, nrm_scr, nrm_setL, wFgt, tyN_non, tyN_bl, tyN_int, tyN_str, tyN_lst, tyN_tup, tyN_dct, keyD_int, keyD_str, isA, okT, beq_self_eq_true, String.reduceBEq, Bool.or_false, Bool.or_true, Bool.and_false, Bool.and_true, Bool.true_or, Bool.false_or, Bool.true_and, Bool.false_and, true_and, and_true, List.any_cons, List.any_nil, tyNames, Option.map_some, iRn1, iRn2, iRn3, iLst, nIt, iTp, iEn, iZp, iSt, wipeD, atI0, atI1, atI2, atI3, ixN0, ixN1, ixN2, ixN3, wSub, wLt, wLe, wGt, wGe, wDiv, wMod, wPow, wShl, Mp.set_same, Mp.set_set, cSortedA, cDictP, wNewD, wEqS, nEqS, wFrzT, mExt, mCnt, nIxL, sAugS, wSlS, wJoin, cSumL, dUnl, cSortLL, cMinLL, wLenSetT, wLenDictT, mIndexB, wLenSetJ, wAddT, wSortSet, wDNewT, sDPutT, cSortDT, wBMd, wDGet1, wDGet2, mUpd, wPairs, wDisp, wLtS, cMinS, cListD])
  have e1 : keysP [(D.int one, D.str (Str.ofString ""))] = some [(.inl (one : Int), .str (Str.ofString ""))] := rfl
  rw [e1]
  refine ⟨by decide, fun p hp => ⟨(by first | omega | (unfold Sz; omega) | (simp only [List.length_map, List.length_append, List.length_cons, List.length_nil, rngI_length, List.length_take, List.length_drop, List.length_reverse]; unfold Sz; omega)), ?_⟩⟩
  have e2 : mrgD ([], []) [((.inl (one : Int) : Key), D.str (Str.ofString ""))] = ([.inl (one : Int)], [.str (wordS [])]) := rfl
  rw [e2]
  have hinj : ∀ o q, q < n → nxF n o q < n := fun o q hq => nxF_lt hq
  refine ⟨fun m ρ M' => ∃ (f : WMap) (L : List Nat) (Ls : List Int) (ks : List Int) (xs : List D) (y4 y5 y6 y7 y8 : Option D), ρ = [some (.int n), some (.int one), some (.ref p), some (.lst (Ls.map .int)), y4, y5, y6, y7, y8] ∧ MLe M M' ∧ M' p = some (.dK (ks.map .inl) xs) ∧ MapOf n f ks xs ∧
      Ls.Perm (L.map fun q : Nat => (q : Int)) ∧ (∀ q ∈ L, q < n ∧ (f q).isSome = true) ∧ L.Nodup ∧ (∀ q w, f q = some w → w.length + m ≤ n + 1) ∧ (L = [] ∨ ks.length + m ≥ n + 2) ∧ bfsW n m f L = wordsW n one,
    ⟨n + 1, fun q => if q = one then some [] else none, [one], [(one : Int)], [(one : Int)], [.str (wordS [])], _, _, _, _, _, rfl, MLe.set hp, Mp.set_same, ⟨rfl, by simp, fun k hk => by simp at hk; subst hk; omega, fun q => ?_⟩, List.Perm.refl _, fun q hq => ?_, by simp, fun q w hw => ?_, .inr (by simp; omega), rfl⟩, ?_⟩
  · simp only [List.map_cons, List.map_nil, look]
    by_cases e : q = one
    · subst e; rw [if_pos rfl, if_pos rfl]; rfl
    · rw [if_neg e, if_neg]
      · rfl
      · intro z
        have : (one : Int) = q := Sum.inl.inj z
        omega
  · simp at hq; subst hq; exact ⟨h1, by simp⟩
  · dsimp only at hw
    by_cases e : q = one
    · rw [if_pos e] at hw; cases hw; simp
    · rw [if_neg e] at hw; cases hw
  rintro m ρ M' ⟨f, L, Ls, ks, xs, y4, y5, y6, y7, y8, rfl, hle, hMp, hmap, hperm, hL, hLn, hlen, hfu, hg⟩
  have hke := hmap.le
  have hLl : Ls.length = L.length := by rw [hperm.length_eq, List.length_map]
  have hLl2 : L.length ≤ n := nodupW_below hLn fun q hq => (hL q hq).1
  ((try simp only [sSeq]); simp only [sRet, sRetN, sIf, sDrop, sNever, sNext, sBreak, sCont, sAsg, sPar, sPar3, sAug, dName, dNil, dCons, dTup, dSub, sSetL, wVar, wC, wFrz, wFrzK, wOp, wAdd, nAdd, nI, nI0, wMul, nMul, wNeg, wEq, nEq, wIsN, wB, wAndT, wOrT, wNotT, wAndV, wOrV, wNotV, wIfE, wChain, aNil, aCons, aStar, wLst, wTup, wIx, nIx, pNo, pSo, wSl, wRev, wRevE, mIndex, wLenSet, cRepr, wIsB, wCB, cLen, cAll, cSum, cMax, cMin, cSorted, cInt, cList, cTuple, cIsi, wBits, wLRg, wBM, wBM0, mChg, wDGet, wDIn, wDNew, sDPutD, wIn, nIn, wCall, wCallK, wNew, tYesD, startD, List.map_cons, List.map_nil, List.length_cons, List.length_nil, List.replicate, Nat.sub_self, List.append_nil, List.cons_append, List.nil_append, List.getElem?_cons_zero, List.getElem?_cons_succ, List.set_cons_zero, List.set_cons_succ, Nat.reduceSub, Nat.reduceAdd, ite_true, ite_false, if_true, if_false, Bool.false_eq_true, Bool.true_eq_false, Bool.not_true, Bool.not_false, Option.some.injEq, nrm_non, nrm_bl, nrm_int, nrm_str, nrm_ty, nrm_lst, nrm_tupC, nrm_dct, nrm_scr, nrm_setL, wFgt, tyN_non, tyN_bl, tyN_int, tyN_str, tyN_lst, tyN_tup, tyN_dct, keyD_int, keyD_str, isA, okT, beq_self_eq_true, String.reduceBEq, Bool.or_false, Bool.or_true, Bool.and_false, Bool.and_true, Bool.true_or, Bool.false_or, Bool.true_and, Bool.false_and, true_and, and_true, List.any_cons, List.any_nil, tyNames, Option.map_some, iRn1, iRn2, iRn3, iLst, nIt, iTp, iEn, iZp, iSt, wipeD, atI0, atI1, atI2, atI3, ixN0, ixN1, ixN2, ixN3, wSub, wLt, wLe, wGt, wGe, wDiv, wMod, wPow, wShl, Mp.set_same, Mp.set_set, cSortedA, cDictP, wNewD, wEqS, nEqS, wFrzT, mExt, mCnt, nIxL, sAugS, wSlS, wJoin, cSumL, dUnl, cSortLL, cMinLL, wLenSetT, wLenDictT, mIndexB, wLenSetJ, wAddT, wSortSet, wDNewT, sDPutT, cSortDT, wBMd, wDGet1, wDGet2, mUpd, wPairs, wDisp, wLtS, cMinS, cListD, pdOk_ints, pdOk_nil, deq_nil])
  refine ⟨(by first | omega | (unfold Sz; omega) | (simp only [List.length_map, List.length_append, List.length_cons, List.length_nil, rngI_length, List.length_take, List.length_drop, List.length_reverse]; unfold Sz; omega)), ?_⟩
  by_cases hLe : L = []
  · subst hLe
    have : Ls = [] := List.length_eq_zero_iff.mp (by rw [hLl]; rfl)
    subst this
    have hf : f = wordsW n one := by cases m with
      | zero => exact hg
      | succ m => rw [bfsW, if_pos rfl] at hg; exact hg
    ((try simp only [sSeq]); simp only [sRet, sRetN, sIf, sDrop, sNever, sNext, sBreak, sCont, sAsg, sPar, sPar3, sAug, dName, dNil, dCons, dTup, dSub, sSetL, wVar, wC, wFrz, wFrzK, wOp, wAdd, nAdd, nI, nI0, wMul, nMul, wNeg, wEq, nEq, wIsN, wB, wAndT, wOrT, wNotT, wAndV, wOrV, wNotV, wIfE, wChain, aNil, aCons, aStar, wLst, wTup, wIx, nIx, pNo, pSo, wSl, wRev, wRevE, mIndex, wLenSet, cRepr, wIsB, wCB, cLen, cAll, cSum, cMax, cMin, cSorted, cInt, cList, cTuple, cIsi, wBits, wLRg, wBM, wBM0, mChg, wDGet, wDIn, wDNew, sDPutD, wIn, nIn, wCall, wCallK, wNew, tYesD, startD, List.map_cons, List.map_nil, List.length_cons, List.length_nil, List.replicate, Nat.sub_self, List.append_nil, List.cons_append, List.nil_append, List.getElem?_cons_zero, List.getElem?_cons_succ, List.set_cons_zero, List.set_cons_succ, Nat.reduceSub, Nat.reduceAdd, ite_true, ite_false, if_true, if_false, Bool.false_eq_true, Bool.true_eq_false, Bool.not_true, Bool.not_false, Option.some.injEq, nrm_non, nrm_bl, nrm_int, nrm_str, nrm_ty, nrm_lst, nrm_tupC, nrm_dct, nrm_scr, nrm_setL, wFgt, tyN_non, tyN_bl, tyN_int, tyN_str, tyN_lst, tyN_tup, tyN_dct, keyD_int, keyD_str, isA, okT, beq_self_eq_true, String.reduceBEq, Bool.or_false, Bool.or_true, Bool.and_false, Bool.and_true, Bool.true_or, Bool.false_or, Bool.true_and, Bool.false_and, true_and, and_true, List.any_cons, List.any_nil, tyNames, Option.map_some, iRn1, iRn2, iRn3, iLst, nIt, iTp, iEn, iZp, iSt, wipeD, atI0, atI1, atI2, atI3, ixN0, ixN1, ixN2, ixN3, wSub, wLt, wLe, wGt, wGe, wDiv, wMod, wPow, wShl, Mp.set_same, Mp.set_set, cSortedA, cDictP, wNewD, wEqS, nEqS, wFrzT, mExt, mCnt, nIxL, sAugS, wSlS, wJoin, cSumL, dUnl, cSortLL, cMinLL, wLenSetT, wLenDictT, mIndexB, wLenSetJ, wAddT, wSortSet, wDNewT, sDPutT, cSortDT, wBMd, wDGet1, wDGet2, mUpd, wPairs, wDisp, wLtS, cMinS, cListD])
    exact ⟨M', fun _ _ h => h, q p ks xs M' hle hp hMp (hf ▸ hmap)⟩
  · have hLs : Ls ≠ [] := fun e => hLe (List.length_eq_zero_iff.mp (by rw [← hLl, e]; rfl))
    have hm := hfu.resolve_left hLe
    cases m with
    | zero => omega
    | succ m =>
    rw [bfsW, if_neg hLe] at hg
    ((try simp only [sSeq]); simp only [sRet, sRetN, sIf, sDrop, sNever, sNext, sBreak, sCont, sAsg, sPar, sPar3, sAug, dName, dNil, dCons, dTup, dSub, sSetL, wVar, wC, wFrz, wFrzK, wOp, wAdd, nAdd, nI, nI0, wMul, nMul, wNeg, wEq, nEq, wIsN, wB, wAndT, wOrT, wNotT, wAndV, wOrV, wNotV, wIfE, wChain, aNil, aCons, aStar, wLst, wTup, wIx, nIx, pNo, pSo, wSl, wRev, wRevE, mIndex, wLenSet, cRepr, wIsB, wCB, cLen, cAll, cSum, cMax, cMin, cSorted, cInt, cList, cTuple, cIsi, wBits, wLRg, wBM, wBM0, mChg, wDGet, wDIn, wDNew, sDPutD, wIn, nIn, wCall, wCallK, wNew, tYesD, startD, List.map_cons, List.map_nil, List.length_cons, List.length_nil, List.replicate, Nat.sub_self, List.append_nil, List.cons_append, List.nil_append, List.getElem?_cons_zero, List.getElem?_cons_succ, List.set_cons_zero, List.set_cons_succ, Nat.reduceSub, Nat.reduceAdd, ite_true, ite_false, if_true, if_false, Bool.false_eq_true, Bool.true_eq_false, Bool.not_true, Bool.not_false, Option.some.injEq, nrm_non, nrm_bl, nrm_int, nrm_str, nrm_ty, nrm_lst, nrm_tupC, nrm_dct, nrm_scr, nrm_setL, wFgt, tyN_non, tyN_bl, tyN_int, tyN_str, tyN_lst, tyN_tup, tyN_dct, keyD_int, keyD_str, isA, okT, beq_self_eq_true, String.reduceBEq, Bool.or_false, Bool.or_true, Bool.and_false, Bool.and_true, Bool.true_or, Bool.false_or, Bool.true_and, Bool.false_and, true_and, and_true, List.any_cons, List.any_nil, tyNames, Option.map_some, iRn1, iRn2, iRn3, iLst, nIt, iTp, iEn, iZp, iSt, wipeD, atI0, atI1, atI2, atI3, ixN0, ixN1, ixN2, ixN3, wSub, wLt, wLe, wGt, wGe, wDiv, wMod, wPow, wShl, Mp.set_same, Mp.set_set, cSortedA, cDictP, wNewD, wEqS, nEqS, wFrzT, mExt, mCnt, nIxL, sAugS, wSlS, wJoin, cSumL, dUnl, cSortLL, cMinLL, wLenSetT, wLenDictT, mIndexB, wLenSetJ, wAddT, wSortSet, wDNewT, sDPutT, cSortDT, wBMd, wDGet1, wDGet2, mUpd, wPairs, wDisp, wLtS, cMinS, cListD, hLs, decide_false])
    intro r hr
    have hpr : p ≠ r := fun e => by subst e; rw [hMp] at hr; cases hr
    obtain ⟨L2, rfl, hL2⟩ : ∃ L2 : List Nat, Ls = L2.map (fun q : Nat => (q : Int)) ∧ L2.Perm L := by
      refine ⟨Ls.map Int.toNat, ?_, ?_⟩
      · rw [List.map_map]
        have : ∀ k ∈ Ls, (((fun q : Nat => (q : Int)) ∘ Int.toNat) k) = k := fun k hk => by
          obtain ⟨a, _, rfl⟩ := List.mem_map.mp (hperm.mem_iff.mp hk)
          rfl
        rw [List.map_congr_left this, List.map_id']
      · have := hperm.map Int.toNat
        rw [List.map_map] at this
        have e : L.map (Int.toNat ∘ fun q : Nat => (q : Int)) = L := by
          rw [List.map_congr_left (g := id) (fun a _ => by simp), List.map_id]
        rwa [e] at this
    have hL2m : ∀ a ∈ L2, a < n ∧ (f a).isSome = true := fun a ha => hL a (hL2.mem_iff.mp ha)
    have hfl : ∀ q : Nat, (look (ks.map Sum.inl) xs (.inl (q : Int))).isSome = decide ((f q).isSome = true) := fun q => by rw [hmap.2.2.2 q, Option.isSome_map]; simp
    refine for_ints (ns := L2.map fun q : Nat => (q : Int)) (P := fun _ => True) (fun i ρ M2 => ∃ (ls : List Int) (ys : List D) (y5 y6 y7 y8 : Option D), ρ = [some (.int n), some (.int one), some (.ref p), some (.lst ((L2.map fun q : Nat => (q : Int)).map .int)), some (.ref r), y5, y6, y7, y8] ∧ M2 = M'.set r (.dK (ls.map .inl) ys) ∧ MapOf n ((L2.take i).foldl (stepW n f) fun _ => none) ls ys)
      (fun R h => by simp only [sSeq, sRet, sRetN, sIf, sDrop, sNever, sNext, sBreak, sCont, sAsg, sPar, sPar3, sAug, dName, dNil, dCons, dTup, dSub, sSetL, wVar, wC, wFrz, wFrzK, wOp, wAdd, nAdd, nI, nI0, wMul, nMul, wNeg, wEq, nEq, wIsN, wB, wAndT, wOrT, wNotT, wAndV, wOrV, wNotV, wIfE, wChain, aNil, aCons, aStar, wLst, wTup, wIx, nIx, pNo, pSo, wSl, wRev, wRevE, mIndex, wLenSet, cRepr, wIsB, wCB, cLen, cAll, cSum, cMax, cMin, cSorted, cInt, cList, cTuple, cIsi, wBits, wLRg, wBM, wBM0, mChg, wDGet, wDIn, wDNew, sDPutD, wIn, nIn, wCall, wCallK, wNew, tYesD, startD, List.map_cons, List.map_nil, List.length_cons, List.length_nil, List.replicate, Nat.sub_self, List.append_nil, List.cons_append, List.nil_append, List.getElem?_cons_zero, List.getElem?_cons_succ, List.set_cons_zero, List.set_cons_succ, Nat.reduceSub, Nat.reduceAdd, ite_true, ite_false, if_true, if_false, Bool.false_eq_true, Bool.true_eq_false, Bool.not_true, Bool.not_false, Option.some.injEq, nrm_non, nrm_bl, nrm_int, nrm_str, nrm_ty, nrm_lst, nrm_tupC, nrm_dct, nrm_scr, nrm_setL, wFgt, tyN_non, tyN_bl, tyN_int, tyN_str, tyN_lst, tyN_tup, tyN_dct, keyD_int, keyD_str, isA, okT, beq_self_eq_true, String.reduceBEq, Bool.or_false, Bool.or_true, Bool.and_false, Bool.and_true, Bool.true_or, Bool.false_or, Bool.true_and, Bool.false_and, true_and, and_true, List.any_cons, List.any_nil, tyNames, Option.map_some, iRn1, iRn2, iRn3, iLst, nIt, iTp, iEn, iZp, iSt, wipeD, atI0, atI1, atI2, atI3, ixN0, ixN1, ixN2, ixN3, wSub, wLt, wLe, wGt, wGe, wDiv, wMod, wPow, wShl, Mp.set_same, Mp.set_set, cSortedA, cDictP, wNewD, wEqS, nEqS, wFrzT, mExt, mCnt, nIxL, sAugS, wSlS, wJoin, cSumL, dUnl, cSortLL, cMinLL, wLenSetT, wLenDictT, mIndexB, wLenSetJ, wAddT, wSortSet, wDNewT, sDPutT, cSortDT, wBMd, wDGet1, wDGet2, mUpd, wPairs, wDisp, wLtS, cMinS, cListD]; exact h) ⟨[], [], _, _, _, _, rfl, rfl, MapOf.nil⟩ (fun _ _ _ _ _ => trivial) (fun i k ρ M2 hk w => ?_) (fun ρ M2 w => ?_)
    · obtain ⟨ls, ys, y5, y6, y7, y8, rfl, rfl, hls⟩ := w
      rw [List.getElem?_map] at hk
      obtain ⟨a, ha, rfl⟩ := Option.map_eq_some_iff.mp hk
      have hae := List.getElem?_eq_some_iff.mp ha
      obtain ⟨han, hfa⟩ := hL2m a (List.mem_of_getElem? ha)
      obtain ⟨w, hw⟩ := Option.isSome_iff_exists.mp hfa
      have hla : look (ks.map Sum.inl) xs (.inl (a : Int)) = some (.str (wordS w)) := by rw [hmap.2.2.2 a, hw]; rfl
      rw [List.take_add_one, ha, Option.toList_some, List.foldl_append]
      generalize (L2.take i).foldl (stepW n f) (fun _ => none) = g at hls
      simp only [List.foldl_cons, List.foldl_nil]
      simp only [sRet, sRetN, sIf, sDrop, sNever, sNext, sBreak, sCont, sAsg, sPar, sPar3, sAug, dName, dNil, dCons, dTup, dSub, sSetL, wVar, wC, wFrz, wFrzK, wOp, wAdd, nAdd, nI, nI0, wMul, nMul, wNeg, wEq, nEq, wIsN, wB, wAndT, wOrT, wNotT, wAndV, wOrV, wNotV, wIfE, wChain, aNil, aCons, aStar, wLst, wTup, wIx, nIx, pNo, pSo, wSl, wRev, wRevE, mIndex, wLenSet, cRepr, wIsB, wCB, cLen, cAll, cSum, cMax, cMin, cSorted, cInt, cList, cTuple, cIsi, wBits, wLRg, wBM, wBM0, mChg, wDGet, wDIn, wDNew, sDPutD, wIn, nIn, wCall, wCallK, wNew, tYesD, startD, List.map_cons, List.map_nil, List.length_cons, List.length_nil, List.replicate, Nat.sub_self, List.append_nil, List.cons_append, List.nil_append, List.getElem?_cons_zero, List.getElem?_cons_succ, List.set_cons_zero, List.set_cons_succ, Nat.reduceSub, Nat.reduceAdd, ite_true, ite_false, if_true, if_false, Bool.false_eq_true, Bool.true_eq_false, Bool.not_true, Bool.not_false, Option.some.injEq, nrm_non, nrm_bl, nrm_int, nrm_str, nrm_ty, nrm_lst, nrm_tupC, nrm_dct, nrm_scr, nrm_setL, wFgt, tyN_non, tyN_bl, tyN_int, tyN_str, tyN_lst, tyN_tup, tyN_dct, keyD_int, keyD_str, isA, okT, beq_self_eq_true, String.reduceBEq, Bool.or_false, Bool.or_true, Bool.and_false, Bool.and_true, Bool.true_or, Bool.false_or, Bool.true_and, Bool.false_and, true_and, and_true, List.any_cons, List.any_nil, tyNames, Option.map_some, iRn1, iRn2, iRn3, iLst, nIt, iTp, iEn, iZp, iSt, wipeD, atI0, atI1, atI2, atI3, ixN0, ixN1, ixN2, ixN3, wSub, wLt, wLe, wGt, wGe, wDiv, wMod, wPow, wShl, Mp.set_same, Mp.set_set, cSortedA, cDictP, wNewD, wEqS, nEqS, wFrzT, mExt, mCnt, nIxL, sAugS, wSlS, wJoin, cSumL, dUnl, cSortLL, cMinLL, wLenSetT, wLenDictT, mIndexB, wLenSetJ, wAddT, wSortSet, wDNewT, sDPutT, cSortDT, wBMd, wDGet1, wDGet2, mUpd, wPairs, wDisp, wLtS, cMinS, cListD]
      refine for_of (xs := [.str (sgn true), .str (sgn false)]) (P := fun _ => True) (fun j ρ M2 => ∃ (ls : List Int) (ys : List D) (y6 y7 y8 : Option D), ρ = [some (.int n), some (.int one), some (.ref p), some (.lst ((L2.map fun q : Nat => (q : Int)).map .int)), some (.ref r), some (.int a), y6, y7, y8] ∧ M2 = M'.set r (.dK (ls.map .inl) ys) ∧
          MapOf n (if j = 0 then g else if j = 1 then updW f g (nxF n false a) (w ++ [true]) else stepW n f g a) ls ys)
        (fun R h => ?_) ⟨ls, ys, _, _, _, rfl, rfl, hls⟩ (fun _ _ _ _ _ => trivial) (fun j x ρ M2 hx w => ?_) (fun ρ M2 w => ?_)
      · simp only [sSeq, sRet, sRetN, sIf, sDrop, sNever, sNext, sBreak, sCont, sAsg, sPar, sPar3, sAug, dName, dNil, dCons, dTup, dSub, sSetL, wVar, wC, wFrz, wFrzK, wOp, wAdd, nAdd, nI, nI0, wMul, nMul, wNeg, wEq, nEq, wIsN, wB, wAndT, wOrT, wNotT, wAndV, wOrV, wNotV, wIfE, wChain, aNil, aCons, aStar, wLst, wTup, wIx, nIx, pNo, pSo, wSl, wRev, wRevE, mIndex, wLenSet, cRepr, wIsB, wCB, cLen, cAll, cSum, cMax, cMin, cSorted, cInt, cList, cTuple, cIsi, wBits, wLRg, wBM, wBM0, mChg, wDGet, wDIn, wDNew, sDPutD, wIn, nIn, wCall, wCallK, wNew, tYesD, startD, List.map_cons, List.map_nil, List.length_cons, List.length_nil, List.replicate, Nat.sub_self, List.append_nil, List.cons_append, List.nil_append, List.getElem?_cons_zero, List.getElem?_cons_succ, List.set_cons_zero, List.set_cons_succ, Nat.reduceSub, Nat.reduceAdd, ite_true, ite_false, if_true, if_false, Bool.false_eq_true, Bool.true_eq_false, Bool.not_true, Bool.not_false, Option.some.injEq, nrm_non, nrm_bl, nrm_int, nrm_str, nrm_ty, nrm_lst, nrm_tupC, nrm_dct, nrm_scr, nrm_setL, wFgt, tyN_non, tyN_bl, tyN_int, tyN_str, tyN_lst, tyN_tup, tyN_dct, keyD_int, keyD_str, isA, okT, beq_self_eq_true, String.reduceBEq, Bool.or_false, Bool.or_true, Bool.and_false, Bool.and_true, Bool.true_or, Bool.false_or, Bool.true_and, Bool.false_and, true_and, and_true, List.any_cons, List.any_nil, tyNames, Option.map_some, iRn1, iRn2, iRn3, iLst, nIt, iTp, iEn, iZp, iSt, wipeD, atI0, atI1, atI2, atI3, ixN0, ixN1, ixN2, ixN3, wSub, wLt, wLe, wGt, wGe, wDiv, wMod, wPow, wShl, Mp.set_same, Mp.set_set, cSortedA, cDictP, wNewD, wEqS, nEqS, wFrzT, mExt, mCnt, nIxL, sAugS, wSlS, wJoin, cSumL, dUnl, cSortLL, cMinLL, wLenSetT, wLenDictT, mIndexB, wLenSetJ, wAddT, wSortSet, wDNewT, sDPutT, cSortDT, wBMd, wDGet1, wDGet2, mUpd, wPairs, wDisp, wLtS, cMinS, cListD]
        have sI : Str.ofString "I" = sgn true := by decide
        have sO : Str.ofString "O" = sgn false := by decide
        rw [sI, sO]
        exact ⟨(by first | omega | (unfold Sz; omega) | (simp only [List.length_map, List.length_append, List.length_cons, List.length_nil, rngI_length, List.length_take, List.length_drop, List.length_reverse]; unfold Sz; omega)), h⟩
      · obtain ⟨ls, ys, y6, y7, y8, rfl, rfl, hls⟩ := w
        have hj : j < 2 := (List.getElem?_eq_some_iff.mp hx).1
        obtain ⟨b, rfl, hb⟩ : ∃ b : Bool, x = .str (sgn b) ∧ j = (if b then 0 else 1) := by
          match j, hx with
          | 0, hx => cases hx; exact ⟨true, rfl, rfl⟩
          | 1, hx => cases hx; exact ⟨false, rfl, rfl⟩
        have hMr : (M'.set r (.dK (ls.map .inl) ys)) p = some (.dK (ks.map .inl) xs) := by rw [Mp.set_ne hpr]; exact hMp
        have hMr2 : (M'.set r (.dK (ls.map .inl) ys)) r = some (.dK (ls.map .inl) ys) := Mp.set_same
        simp only [sRet, sRetN, sIf, sDrop, sNever, sNext, sBreak, sCont, sAsg, sPar, sPar3, sAug, dName, dNil, dCons, dTup, dSub, sSetL, wVar, wC, wFrz, wFrzK, wOp, wAdd, nAdd, nI, nI0, wMul, nMul, wNeg, wEq, nEq, wIsN, wB, wAndT, wOrT, wNotT, wAndV, wOrV, wNotV, wIfE, wChain, aNil, aCons, aStar, wLst, wTup, wIx, nIx, pNo, pSo, wSl, wRev, wRevE, mIndex, wLenSet, cRepr, wIsB, wCB, cLen, cAll, cSum, cMax, cMin, cSorted, cInt, cList, cTuple, cIsi, wBits, wLRg, wBM, wBM0, mChg, wDGet, wDIn, wDNew, sDPutD, wIn, nIn, wCall, wCallK, wNew, tYesD, startD, List.map_cons, List.map_nil, List.length_cons, List.length_nil, List.replicate, Nat.sub_self, List.append_nil, List.cons_append, List.nil_append, List.getElem?_cons_zero, List.getElem?_cons_succ, List.set_cons_zero, List.set_cons_succ, Nat.reduceSub, Nat.reduceAdd, ite_true, ite_false, if_true, if_false, Bool.false_eq_true, Bool.true_eq_false, Bool.not_true, Bool.not_false, Option.some.injEq, nrm_non, nrm_bl, nrm_int, nrm_str, nrm_ty, nrm_lst, nrm_tupC, nrm_dct, nrm_scr, nrm_setL, wFgt, tyN_non, tyN_bl, tyN_int, tyN_str, tyN_lst, tyN_tup, tyN_dct, keyD_int, keyD_str, isA, okT, beq_self_eq_true, String.reduceBEq, Bool.or_false, Bool.or_true, Bool.and_false, Bool.and_true, Bool.true_or, Bool.false_or, Bool.true_and, Bool.false_and, true_and, and_true, List.any_cons, List.any_nil, tyNames, Option.map_some, iRn1, iRn2, iRn3, iLst, nIt, iTp, iEn, iZp, iSt, wipeD, atI0, atI1, atI2, atI3, ixN0, ixN1, ixN2, ixN3, wSub, wLt, wLe, wGt, wGe, wDiv, wMod, wPow, wShl, Mp.set_same, Mp.set_set, cSortedA, cDictP, wNewD, wEqS, nEqS, wFrzT, mExt, mCnt, nIxL, sAugS, wSlS, wJoin, cSumL, dUnl, cSortLL, cMinLL, wLenSetT, wLenDictT, mIndexB, wLenSetJ, wAddT, wSortSet, wDNewT, sDPutT, cSortDT, wBMd, wDGet1, wDGet2, mUpd, wPairs, wDisp, wLtS, cMinS, cListD]
        obtain ⟨gj, hgj⟩ : ∃ gj, gj = (if j = 0 then g else if j = 1 then updW f g (nxF n false a) (w ++ [true]) else stepW n f g a) := ⟨_, rfl⟩
        have hg2 : (if j + 1 = 0 then g else if j + 1 = 1 then updW f g (nxF n false a) (w ++ [true]) else stepW n f g a) = updW f gj (nxF n (!b) a) (w ++ [b]) := by
          rw [hgj, hb]
          cases b
          · simp only [Bool.false_eq_true, if_false, Bool.not_false]
            rw [if_neg (by omega), if_neg (by omega), if_neg (by omega), if_pos trivial]
            unfold stepW
            rw [hw]; rfl
          · simp
        rw [← hgj] at hls
        rw [hg2]
        have hqn : nxF n (!b) a < n := nxF_lt han
        generalize hq : nxF n (!b) a = qq at hqn hg2
        have hlq : (look (ls.map Sum.inl) ys (.inl (qq : Int))).isSome = decide ((gj qq).isSome = true) := by rw [hls.2.2.2 qq, Option.isSome_map]; simp
        ((try simp only [sSeq]); simp only [sRet, sRetN, sIf, sDrop, sNever, sNext, sBreak, sCont, sAsg, sPar, sPar3, sAug, dName, dNil, dCons, dTup, dSub, sSetL, wVar, wC, wFrz, wFrzK, wOp, wAdd, nAdd, nI, nI0, wMul, nMul, wNeg, wEq, nEq, wIsN, wB, wAndT, wOrT, wNotT, wAndV, wOrV, wNotV, wIfE, wChain, aNil, aCons, aStar, wLst, wTup, wIx, nIx, pNo, pSo, wSl, wRev, wRevE, mIndex, wLenSet, cRepr, wIsB, wCB, cLen, cAll, cSum, cMax, cMin, cSorted, cInt, cList, cTuple, cIsi, wBits, wLRg, wBM, wBM0, mChg, wDGet, wDIn, wDNew, sDPutD, wIn, nIn, wCall, wCallK, wNew, tYesD, startD, List.map_cons, List.map_nil, List.length_cons, List.length_nil, List.replicate, Nat.sub_self, List.append_nil, List.cons_append, List.nil_append, List.getElem?_cons_zero, List.getElem?_cons_succ, List.set_cons_zero, List.set_cons_succ, Nat.reduceSub, Nat.reduceAdd, ite_true, ite_false, if_true, if_false, Bool.false_eq_true, Bool.true_eq_false, Bool.not_true, Bool.not_false, Option.some.injEq, nrm_non, nrm_bl, nrm_int, nrm_str, nrm_ty, nrm_lst, nrm_tupC, nrm_dct, nrm_scr, nrm_setL, wFgt, tyN_non, tyN_bl, tyN_int, tyN_str, tyN_lst, tyN_tup, tyN_dct, keyD_int, keyD_str, isA, okT, beq_self_eq_true, String.reduceBEq, Bool.or_false, Bool.or_true, Bool.and_false, Bool.and_true, Bool.true_or, Bool.false_or, Bool.true_and, Bool.false_and, true_and, and_true, List.any_cons, List.any_nil, tyNames, Option.map_some, iRn1, iRn2, iRn3, iLst, nIt, iTp, iEn, iZp, iSt, wipeD, atI0, atI1, atI2, atI3, ixN0, ixN1, ixN2, ixN3, wSub, wLt, wLe, wGt, wGe, wDiv, wMod, wPow, wShl, Mp.set_same, Mp.set_set, cSortedA, cDictP, wNewD, wEqS, nEqS, wFrzT, mExt, mCnt, nIxL, sAugS, wSlS, wJoin, cSumL, dUnl, cSortLL, cMinLL, wLenSetT, wLenDictT, mIndexB, wLenSetJ, wAddT, wSortSet, wDNewT, sDPutT, cSortDT, wBMd, wDGet1, wDGet2, mUpd, wPairs, wDisp, wLtS, cMinS, cListD])
        refine ⟨b, rfl, n, !b, a, rfl, han, by omega, ?_⟩
        rw [hq]
        have hwl := hlen a w hw
        have hll := hls.le
        simp only [sRet, sRetN, sIf, sDrop, sNever, sNext, sBreak, sCont, sAsg, sPar, sPar3, sAug, dName, dNil, dCons, dTup, dSub, sSetL, wVar, wC, wFrz, wFrzK, wOp, wAdd, nAdd, nI, nI0, wMul, nMul, wNeg, wEq, nEq, wIsN, wB, wAndT, wOrT, wNotT, wAndV, wOrV, wNotV, wIfE, wChain, aNil, aCons, aStar, wLst, wTup, wIx, nIx, pNo, pSo, wSl, wRev, wRevE, mIndex, wLenSet, cRepr, wIsB, wCB, cLen, cAll, cSum, cMax, cMin, cSorted, cInt, cList, cTuple, cIsi, wBits, wLRg, wBM, wBM0, mChg, wDGet, wDIn, wDNew, sDPutD, wIn, nIn, wCall, wCallK, wNew, tYesD, startD, List.map_cons, List.map_nil, List.length_cons, List.length_nil, List.replicate, Nat.sub_self, List.append_nil, List.cons_append, List.nil_append, List.getElem?_cons_zero, List.getElem?_cons_succ, List.set_cons_zero, List.set_cons_succ, Nat.reduceSub, Nat.reduceAdd, ite_true, ite_false, if_true, if_false, Bool.false_eq_true, Bool.true_eq_false, Bool.not_true, Bool.not_false, Option.some.injEq, nrm_non, nrm_bl, nrm_int, nrm_str, nrm_ty, nrm_lst, nrm_tupC, nrm_dct, nrm_scr, nrm_setL, wFgt, tyN_non, tyN_bl, tyN_int, tyN_str, tyN_lst, tyN_tup, tyN_dct, keyD_int, keyD_str, isA, okT, beq_self_eq_true, String.reduceBEq, Bool.or_false, Bool.or_true, Bool.and_false, Bool.and_true, Bool.true_or, Bool.false_or, Bool.true_and, Bool.false_and, true_and, and_true, List.any_cons, List.any_nil, tyNames, Option.map_some, iRn1, iRn2, iRn3, iLst, nIt, iTp, iEn, iZp, iSt, wipeD, atI0, atI1, atI2, atI3, ixN0, ixN1, ixN2, ixN3, wSub, wLt, wLe, wGt, wGe, wDiv, wMod, wPow, wShl, Mp.set_same, Mp.set_set, cSortedA, cDictP, wNewD, wEqS, nEqS, wFrzT, mExt, mCnt, nIxL, sAugS, wSlS, wJoin, cSumL, dUnl, cSortLL, cMinLL, wLenSetT, wLenDictT, mIndexB, wLenSetJ, wAddT, wSortSet, wDNewT, sDPutT, cSortDT, wBMd, wDGet1, wDGet2, mUpd, wPairs, wDisp, wLtS, cMinS, cListD, nrm_refD hMr, hla, word_snoc, hfl]
        refine ⟨by rw [word_len]; show Sz (w.length + 1); unfold Sz; omega, ?_⟩
        by_cases hf0 : (f qq).isSome = true
        · rw [decide_eq_true hf0, if_neg (by decide)]
          exact ⟨ls, ys, _, _, _, rfl, rfl, by rw [updW, if_pos hf0]; exact hls⟩
        · rw [decide_eq_false hf0, if_pos (by decide)]
          simp only [sRet, sRetN, sIf, sDrop, sNever, sNext, sBreak, sCont, sAsg, sPar, sPar3, sAug, dName, dNil, dCons, dTup, dSub, sSetL, wVar, wC, wFrz, wFrzK, wOp, wAdd, nAdd, nI, nI0, wMul, nMul, wNeg, wEq, nEq, wIsN, wB, wAndT, wOrT, wNotT, wAndV, wOrV, wNotV, wIfE, wChain, aNil, aCons, aStar, wLst, wTup, wIx, nIx, pNo, pSo, wSl, wRev, wRevE, mIndex, wLenSet, cRepr, wIsB, wCB, cLen, cAll, cSum, cMax, cMin, cSorted, cInt, cList, cTuple, cIsi, wBits, wLRg, wBM, wBM0, mChg, wDGet, wDIn, wDNew, sDPutD, wIn, nIn, wCall, wCallK, wNew, tYesD, startD, List.map_cons, List.map_nil, List.length_cons, List.length_nil, List.replicate, Nat.sub_self, List.append_nil, List.cons_append, List.nil_append, List.getElem?_cons_zero, List.getElem?_cons_succ, List.set_cons_zero, List.set_cons_succ, Nat.reduceSub, Nat.reduceAdd, ite_true, ite_false, if_true, if_false, Bool.false_eq_true, Bool.true_eq_false, Bool.not_true, Bool.not_false, Option.some.injEq, nrm_non, nrm_bl, nrm_int, nrm_str, nrm_ty, nrm_lst, nrm_tupC, nrm_dct, nrm_scr, nrm_setL, wFgt, tyN_non, tyN_bl, tyN_int, tyN_str, tyN_lst, tyN_tup, tyN_dct, keyD_int, keyD_str, isA, okT, beq_self_eq_true, String.reduceBEq, Bool.or_false, Bool.or_true, Bool.and_false, Bool.and_true, Bool.true_or, Bool.false_or, Bool.true_and, Bool.false_and, true_and, and_true, List.any_cons, List.any_nil, tyNames, Option.map_some, iRn1, iRn2, iRn3, iLst, nIt, iTp, iEn, iZp, iSt, wipeD, atI0, atI1, atI2, atI3, ixN0, ixN1, ixN2, ixN3, wSub, wLt, wLe, wGt, wGe, wDiv, wMod, wPow, wShl, Mp.set_same, Mp.set_set, cSortedA, cDictP, wNewD, wEqS, nEqS, wFrzT, mExt, mCnt, nIxL, sAugS, wSlS, wJoin, cSumL, dUnl, cSortLL, cMinLL, wLenSetT, wLenDictT, mIndexB, wLenSetJ, wAddT, wSortSet, wDNewT, sDPutT, cSortDT, wBMd, wDGet1, wDGet2, mUpd, wPairs, wDisp, wLtS, cMinS, cListD, nrm_refD hMr2, hlq]
          have hput := hls.put hqn (w ++ [b])
          cases hgq : gj qq with
          | none =>
            rw [decide_eq_false (show ¬ ((none : Option (List Bool)).isSome = true) by simp)]
            obtain ⟨ks2, k1, k2⟩ := hput
            simp only [sRet, sRetN, sIf, sDrop, sNever, sNext, sBreak, sCont, sAsg, sPar, sPar3, sAug, dName, dNil, dCons, dTup, dSub, sSetL, wVar, wC, wFrz, wFrzK, wOp, wAdd, nAdd, nI, nI0, wMul, nMul, wNeg, wEq, nEq, wIsN, wB, wAndT, wOrT, wNotT, wAndV, wOrV, wNotV, wIfE, wChain, aNil, aCons, aStar, wLst, wTup, wIx, nIx, pNo, pSo, wSl, wRev, wRevE, mIndex, wLenSet, cRepr, wIsB, wCB, cLen, cAll, cSum, cMax, cMin, cSorted, cInt, cList, cTuple, cIsi, wBits, wLRg, wBM, wBM0, mChg, wDGet, wDIn, wDNew, sDPutD, wIn, nIn, wCall, wCallK, wNew, tYesD, startD, List.map_cons, List.map_nil, List.length_cons, List.length_nil, List.replicate, Nat.sub_self, List.append_nil, List.cons_append, List.nil_append, List.getElem?_cons_zero, List.getElem?_cons_succ, List.set_cons_zero, List.set_cons_succ, Nat.reduceSub, Nat.reduceAdd, ite_true, ite_false, if_true, if_false, Bool.false_eq_true, Bool.true_eq_false, Bool.not_true, Bool.not_false, Option.some.injEq, nrm_non, nrm_bl, nrm_int, nrm_str, nrm_ty, nrm_lst, nrm_tupC, nrm_dct, nrm_scr, nrm_setL, wFgt, tyN_non, tyN_bl, tyN_int, tyN_str, tyN_lst, tyN_tup, tyN_dct, keyD_int, keyD_str, isA, okT, beq_self_eq_true, String.reduceBEq, Bool.or_false, Bool.or_true, Bool.and_false, Bool.and_true, Bool.true_or, Bool.false_or, Bool.true_and, Bool.false_and, true_and, and_true, List.any_cons, List.any_nil, tyNames, Option.map_some, iRn1, iRn2, iRn3, iLst, nIt, iTp, iEn, iZp, iSt, wipeD, atI0, atI1, atI2, atI3, ixN0, ixN1, ixN2, ixN3, wSub, wLt, wLe, wGt, wGe, wDiv, wMod, wPow, wShl, Mp.set_same, Mp.set_set, cSortedA, cDictP, wNewD, wEqS, nEqS, wFrzT, mExt, mCnt, nIxL, sAugS, wSlS, wJoin, cSumL, dUnl, cSortLL, cMinLL, wLenSetT, wLenDictT, mIndexB, wLenSetJ, wAddT, wSortSet, wDNewT, sDPutT, cSortDT, wBMd, wDGet1, wDGet2, mUpd, wPairs, wDisp, wLtS, cMinS, cListD, k1]
            refine ⟨by rw [List.length_map]; omega, ks2, _, _, _, _, rfl, rfl, ?_⟩
            rw [updW, if_neg hf0, hgq]
            exact k2
          | some c =>
            have hlc : look (ls.map Sum.inl) ys (.inl (qq : Int)) = some (.str (wordS c)) := by rw [hls.2.2.2 qq, hgq]; rfl
            rw [decide_eq_true (show ((some c : Option (List Bool)).isSome = true) by simp)]
            simp only [sRet, sRetN, sIf, sDrop, sNever, sNext, sBreak, sCont, sAsg, sPar, sPar3, sAug, dName, dNil, dCons, dTup, dSub, sSetL, wVar, wC, wFrz, wFrzK, wOp, wAdd, nAdd, nI, nI0, wMul, nMul, wNeg, wEq, nEq, wIsN, wB, wAndT, wOrT, wNotT, wAndV, wOrV, wNotV, wIfE, wChain, aNil, aCons, aStar, wLst, wTup, wIx, nIx, pNo, pSo, wSl, wRev, wRevE, mIndex, wLenSet, cRepr, wIsB, wCB, cLen, cAll, cSum, cMax, cMin, cSorted, cInt, cList, cTuple, cIsi, wBits, wLRg, wBM, wBM0, mChg, wDGet, wDIn, wDNew, sDPutD, wIn, nIn, wCall, wCallK, wNew, tYesD, startD, List.map_cons, List.map_nil, List.length_cons, List.length_nil, List.replicate, Nat.sub_self, List.append_nil, List.cons_append, List.nil_append, List.getElem?_cons_zero, List.getElem?_cons_succ, List.set_cons_zero, List.set_cons_succ, Nat.reduceSub, Nat.reduceAdd, ite_true, ite_false, if_true, if_false, Bool.false_eq_true, Bool.true_eq_false, Bool.not_true, Bool.not_false, Option.some.injEq, nrm_non, nrm_bl, nrm_int, nrm_str, nrm_ty, nrm_lst, nrm_tupC, nrm_dct, nrm_scr, nrm_setL, wFgt, tyN_non, tyN_bl, tyN_int, tyN_str, tyN_lst, tyN_tup, tyN_dct, keyD_int, keyD_str, isA, okT, beq_self_eq_true, String.reduceBEq, Bool.or_false, Bool.or_true, Bool.and_false, Bool.and_true, Bool.true_or, Bool.false_or, Bool.true_and, Bool.false_and, true_and, and_true, List.any_cons, List.any_nil, tyNames, Option.map_some, iRn1, iRn2, iRn3, iLst, nIt, iTp, iEn, iZp, iSt, wipeD, atI0, atI1, atI2, atI3, ixN0, ixN1, ixN2, ixN3, wSub, wLt, wLe, wGt, wGe, wDiv, wMod, wPow, wShl, Mp.set_same, Mp.set_set, cSortedA, cDictP, wNewD, wEqS, nEqS, wFrzT, mExt, mCnt, nIxL, sAugS, wSlS, wJoin, cSumL, dUnl, cSortLL, cMinLL, wLenSetT, wLenDictT, mIndexB, wLenSetJ, wAddT, wSortSet, wDNewT, sDPutT, cSortDT, wBMd, wDGet1, wDGet2, mUpd, wPairs, wDisp, wLtS, cMinS, cListD, hlc, ltS_word]
            by_cases hlt : ltW (w ++ [b]) c = true
            · obtain ⟨ks2, k1, k2⟩ := hput
              rw [if_pos hlt]
              simp only [sRet, sRetN, sIf, sDrop, sNever, sNext, sBreak, sCont, sAsg, sPar, sPar3, sAug, dName, dNil, dCons, dTup, dSub, sSetL, wVar, wC, wFrz, wFrzK, wOp, wAdd, nAdd, nI, nI0, wMul, nMul, wNeg, wEq, nEq, wIsN, wB, wAndT, wOrT, wNotT, wAndV, wOrV, wNotV, wIfE, wChain, aNil, aCons, aStar, wLst, wTup, wIx, nIx, pNo, pSo, wSl, wRev, wRevE, mIndex, wLenSet, cRepr, wIsB, wCB, cLen, cAll, cSum, cMax, cMin, cSorted, cInt, cList, cTuple, cIsi, wBits, wLRg, wBM, wBM0, mChg, wDGet, wDIn, wDNew, sDPutD, wIn, nIn, wCall, wCallK, wNew, tYesD, startD, List.map_cons, List.map_nil, List.length_cons, List.length_nil, List.replicate, Nat.sub_self, List.append_nil, List.cons_append, List.nil_append, List.getElem?_cons_zero, List.getElem?_cons_succ, List.set_cons_zero, List.set_cons_succ, Nat.reduceSub, Nat.reduceAdd, ite_true, ite_false, if_true, if_false, Bool.false_eq_true, Bool.true_eq_false, Bool.not_true, Bool.not_false, Option.some.injEq, nrm_non, nrm_bl, nrm_int, nrm_str, nrm_ty, nrm_lst, nrm_tupC, nrm_dct, nrm_scr, nrm_setL, wFgt, tyN_non, tyN_bl, tyN_int, tyN_str, tyN_lst, tyN_tup, tyN_dct, keyD_int, keyD_str, isA, okT, beq_self_eq_true, String.reduceBEq, Bool.or_false, Bool.or_true, Bool.and_false, Bool.and_true, Bool.true_or, Bool.false_or, Bool.true_and, Bool.false_and, true_and, and_true, List.any_cons, List.any_nil, tyNames, Option.map_some, iRn1, iRn2, iRn3, iLst, nIt, iTp, iEn, iZp, iSt, wipeD, atI0, atI1, atI2, atI3, ixN0, ixN1, ixN2, ixN3, wSub, wLt, wLe, wGt, wGe, wDiv, wMod, wPow, wShl, Mp.set_same, Mp.set_set, cSortedA, cDictP, wNewD, wEqS, nEqS, wFrzT, mExt, mCnt, nIxL, sAugS, wSlS, wJoin, cSumL, dUnl, cSortLL, cMinLL, wLenSetT, wLenDictT, mIndexB, wLenSetJ, wAddT, wSortSet, wDNewT, sDPutT, cSortDT, wBMd, wDGet1, wDGet2, mUpd, wPairs, wDisp, wLtS, cMinS, cListD, k1]
              refine ⟨by rw [List.length_map]; omega, ks2, _, _, _, _, rfl, rfl, ?_⟩
              rw [updW, if_neg hf0, hgq]
              simp only [bminW, if_pos hlt]
              exact k2
            · rw [if_neg hlt]
              refine ⟨ls, ys, _, _, _, rfl, rfl, ?_⟩
              have : updW f gj qq (w ++ [b]) = gj := by
                rw [updW, if_neg hf0]
                funext x
                by_cases e : x = qq
                · subst e; rw [if_pos rfl, hgq]; simp only [bminW, if_neg hlt]
                · rw [if_neg e]
              rw [this]
              exact hls
      · obtain ⟨ls, ys, y6, y7, y8, rfl, rfl, hls⟩ := w
        exact ⟨ls, ys, _, _, _, _, rfl, rfl, hls⟩
    · obtain ⟨ls, ys, y5, y6, y7, y8, rfl, rfl, hls⟩ := w
      rw [List.length_map, List.take_length] at hls
      have hlay : L2.foldl (stepW n f) (fun _ => none) = layW n f L := layW_perm hL2
      rw [hlay] at hls
      have hMr : (M'.set r (.dK (ls.map .inl) ys)) p = some (.dK (ks.map .inl) xs) := by rw [Mp.set_ne hpr]; exact hMp
      have hMr2 : (M'.set r (.dK (ls.map .inl) ys)) r = some (.dK (ls.map .inl) ys) := Mp.set_same
      have hdis : ∀ q, (layW n f L q).isSome = true → f q = none := layW_disj L _ (fun q h => by cases h)
      have hlt : ∀ q, (layW n f L q).isSome = true → q < n := layW_lt hinj L _ (fun q hq => (hL q hq).1) (fun q h => by cases h)
      obtain ⟨ks2, j1, j2, j3⟩ := hmap.join hls hdis
      have hll := hls.le
      have hdk : isDk (M'.set r (.dK (ls.map .inl) ys)) (.ref p) = true := by unfold isDk; rw [nrm_refD hMr]
      have hMp2 : ((M'.set r (.dK (ls.map .inl) ys)).set p (.dK (ks2.map .inl) (mrgD (ks.map Sum.inl, xs) ((ls.map Sum.inl).zip ys)).2)) r = some (.dK (ls.map .inl) ys) := by rw [Mp.set_ne hpr.symm]; exact hMr2
      ((try simp only [sSeq]); simp only [sRet, sRetN, sIf, sDrop, sNever, sNext, sBreak, sCont, sAsg, sPar, sPar3, sAug, dName, dNil, dCons, dTup, dSub, sSetL, wVar, wC, wFrz, wFrzK, wOp, wAdd, nAdd, nI, nI0, wMul, nMul, wNeg, wEq, nEq, wIsN, wB, wAndT, wOrT, wNotT, wAndV, wOrV, wNotV, wIfE, wChain, aNil, aCons, aStar, wLst, wTup, wIx, nIx, pNo, pSo, wSl, wRev, wRevE, mIndex, wLenSet, cRepr, wIsB, wCB, cLen, cAll, cSum, cMax, cMin, cSorted, cInt, cList, cTuple, cIsi, wBits, wLRg, wBM, wBM0, mChg, wDGet, wDIn, wDNew, sDPutD, wIn, nIn, wCall, wCallK, wNew, tYesD, startD, List.map_cons, List.map_nil, List.length_cons, List.length_nil, List.replicate, Nat.sub_self, List.append_nil, List.cons_append, List.nil_append, List.getElem?_cons_zero, List.getElem?_cons_succ, List.set_cons_zero, List.set_cons_succ, Nat.reduceSub, Nat.reduceAdd, ite_true, ite_false, if_true, if_false, Bool.false_eq_true, Bool.true_eq_false, Bool.not_true, Bool.not_false, Option.some.injEq, nrm_non, nrm_bl, nrm_int, nrm_str, nrm_ty, nrm_lst, nrm_tupC, nrm_dct, nrm_scr, nrm_setL, wFgt, tyN_non, tyN_bl, tyN_int, tyN_str, tyN_lst, tyN_tup, tyN_dct, keyD_int, keyD_str, isA, okT, beq_self_eq_true, String.reduceBEq, Bool.or_false, Bool.or_true, Bool.and_false, Bool.and_true, Bool.true_or, Bool.false_or, Bool.true_and, Bool.false_and, true_and, and_true, List.any_cons, List.any_nil, tyNames, Option.map_some, iRn1, iRn2, iRn3, iLst, nIt, iTp, iEn, iZp, iSt, wipeD, atI0, atI1, atI2, atI3, ixN0, ixN1, ixN2, ixN3, wSub, wLt, wLe, wGt, wGe, wDiv, wMod, wPow, wShl, Mp.set_same, Mp.set_set, cSortedA, cDictP, wNewD, wEqS, nEqS, wFrzT, mExt, mCnt, nIxL, sAugS, wSlS, wJoin, cSumL, dUnl, cSortLL, cMinLL, wLenSetT, wLenDictT, mIndexB, wLenSetJ, wAddT, wSortSet, wDNewT, sDPutT, cSortDT, wBMd, wDGet1, wDGet2, mUpd, wPairs, wDisp, wLtS, cMinS, cListD, hdk, hMr, nrm_refD hMr2, j1])
      refine ⟨fun e => hpr (by cases e; rfl), by rw [List.length_map, List.length_map]; omega, ?_⟩
      simp only [sRet, sRetN, sIf, sDrop, sNever, sNext, sBreak, sCont, sAsg, sPar, sPar3, sAug, dName, dNil, dCons, dTup, dSub, sSetL, wVar, wC, wFrz, wFrzK, wOp, wAdd, nAdd, nI, nI0, wMul, nMul, wNeg, wEq, nEq, wIsN, wB, wAndT, wOrT, wNotT, wAndV, wOrV, wNotV, wIfE, wChain, aNil, aCons, aStar, wLst, wTup, wIx, nIx, pNo, pSo, wSl, wRev, wRevE, mIndex, wLenSet, cRepr, wIsB, wCB, cLen, cAll, cSum, cMax, cMin, cSorted, cInt, cList, cTuple, cIsi, wBits, wLRg, wBM, wBM0, mChg, wDGet, wDIn, wDNew, sDPutD, wIn, nIn, wCall, wCallK, wNew, tYesD, startD, List.map_cons, List.map_nil, List.length_cons, List.length_nil, List.replicate, Nat.sub_self, List.append_nil, List.cons_append, List.nil_append, List.getElem?_cons_zero, List.getElem?_cons_succ, List.set_cons_zero, List.set_cons_succ, Nat.reduceSub, Nat.reduceAdd, ite_true, ite_false, if_true, if_false, Bool.false_eq_true, Bool.true_eq_false, Bool.not_true, Bool.not_false, Option.some.injEq, nrm_non, nrm_bl, nrm_int, nrm_str, nrm_ty, nrm_lst, nrm_tupC, nrm_dct, nrm_scr, nrm_setL, wFgt, tyN_non, tyN_bl, tyN_int, tyN_str, tyN_lst, tyN_tup, tyN_dct, keyD_int, keyD_str, isA, okT, beq_self_eq_true, String.reduceBEq, Bool.or_false, Bool.or_true, Bool.and_false, Bool.and_true, Bool.true_or, Bool.false_or, Bool.true_and, Bool.false_and, true_and, and_true, List.any_cons, List.any_nil, tyNames, Option.map_some, iRn1, iRn2, iRn3, iLst, nIt, iTp, iEn, iZp, iSt, wipeD, atI0, atI1, atI2, atI3, ixN0, ixN1, ixN2, ixN3, wSub, wLt, wLe, wGt, wGe, wDiv, wMod, wPow, wShl, Mp.set_same, Mp.set_set, cSortedA, cDictP, wNewD, wEqS, nEqS, wFrzT, mExt, mCnt, nIxL, sAugS, wSlS, wJoin, cSumL, dUnl, cSortLL, cMinLL, wLenSetT, wLenDictT, mIndexB, wLenSetJ, wAddT, wSortSet, wDNewT, sDPutT, cSortDT, wBMd, wDGet1, wDGet2, mUpd, wPairs, wDisp, wLtS, cMinS, cListD, nrm_refD hMp2]
      have hLn2 : ((List.range n).filter fun q => (layW n f L q).isSome).Nodup := List.Nodup.sublist List.filter_sublist List.nodup_range
      have hpm : ls.Perm (((List.range n).filter fun q => (layW n f L q).isSome).map fun q : Nat => (q : Int)) := by
        refine (List.perm_ext_iff_of_nodup hls.2.1 ?_).mpr fun k => ?_
        · unfold List.Nodup at *
          rw [List.pairwise_map]
          exact hLn2.imp fun h e => h (Int.ofNat.inj e)
        · rw [List.mem_map]
          constructor
          · intro hk
            obtain ⟨k0, k1⟩ := hls.2.2.1 k hk
            obtain ⟨q, rfl⟩ := Int.eq_ofNat_of_zero_le k0
            exact ⟨q, List.mem_filter.mpr ⟨List.mem_range.mpr (by omega), (hls.mem q).mp hk⟩, rfl⟩
          · rintro ⟨q, hq, rfl⟩
            exact (hls.mem q).mpr (List.mem_filter.mp hq).2
      have hpl := hpm.length_eq
      rw [List.length_map] at hpl
      have hmn : m ≤ n := by
        cases L with
        | nil => exact absurd rfl hLe
        | cons p0 L0 =>
          obtain ⟨w0, h0⟩ := Option.isSome_iff_exists.mp (hL p0 List.mem_cons_self).2
          have := hlen p0 w0 h0
          omega
      have eK : (ls.map Sum.inl).map dKey = ls.map D.int := by rw [List.map_map]; rfl
      rw [eK]
      refine ⟨m, by omega, fun q => (f q).or (layW n f L q), (List.range n).filter fun q => (layW n f L q).isSome, ls, ks2, _, _, _, _, _, _, rfl, (hle.put (hle.none hr)).put hp, rfl, j3, hpm, fun q hq => ?_, hLn2, fun q w hw => ?_, ?_, hg⟩
      · obtain ⟨q1, q2⟩ := List.mem_filter.mp hq
        refine ⟨List.mem_range.mp q1, ?_⟩
        dsimp only
        rw [hdis q q2]
        exact q2
      · dsimp only at hw
        cases hfq : f q with
        | some w2 =>
          rw [hfq] at hw
          cases hw
          have := hlen q w hfq
          omega
        | none =>
          rw [hfq] at hw
          have := layW_len (f := f) (n := n) (K := n + 1 - m) L (fun _ => none) (fun p hp => by
            have h2 := (hL p hp).2
            obtain ⟨w3, h3⟩ := Option.isSome_iff_exists.mp h2
            have := hlen p w3 h3
            rw [h3]; show w3.length + 1 ≤ _; omega) (fun q w h => by cases h) q w hw
          omega
      · by_cases e : (List.range n).filter (fun q => (layW n f L q).isSome) = []
        · exact .inl e
        · right
          have := List.length_pos_iff.mpr e
          omega
abbrev s_law_one_of : Stmt := topS 28
theorem sc_law_one_of : FnScope ["purse", "some"] ["purse", "some"] (defScope s_law_one_of) := ⟨rfl, rfl, rfl, by decide +kernel, rfl, by decide +kernel, by decide +kernel⟩
theorem ok_law_one_of {f : Addr} {fd : FuncData} (F : FnP K "_law_one_of" s_law_one_of [] f fd)
    {f_law_draw : Addr} {fd_law_draw : FuncData} {ds_law_draw : List Value} (G_law_draw : Kn P w K mg base "_law_draw" ["purse", "many"] R_law_draw 2 [] ds_law_draw f_law_draw fd_law_draw)
    (m_len : mg "len" = none) :
    FnG P w K mg base 3 f fd ["purse", "some"] (spD R_law_one_of) := by
  have nd := sc_law_one_of.nd
  refine fnD (k := 2) F sc_law_one_of len_law_one_of fun cdv A outer s H E hr hq => ?_
  have hu := hu_of hr
  have hr65 := room65 hr
  have hr66 := room66 hr
  refine ⟨_, _, pss_one (ps_ret (pe_ix ix_seq (pv 1) (pe_callG (G_law_draw.ok.mono (by decide)) hr hq (by rfl) G_law_draw.m G_law_draw.kp G_law_draw.b G_law_draw.dv (pa_cons (pv 0) (pa_cons (pe_callB call_lenA (by rfl) m_len (by decide +kernel) (pa_cons (pv 1) (pa_nil))) (pa_nil)))) (fun _ _ => rfl))),
    ts_ret (tr_op ot_ix (tr_var (i := 1)) (tr_call (ta_cons (tr_var (i := 0)) (ta_cons (tr_cb ct_len (ta_cons (tr_var (i := 1)) (ta_nil))) (ta_nil))))), ?_⟩
  rintro ds M Q ⟨p, xs, B, ss, rfl, hp, hx, hB, h0, h1, q⟩
  simp only [sSeq, sRet, sRetN, sIf, sDrop, sNever, sNext, sBreak, sCont, sAsg, sPar, sPar3, sAug, dName, dNil, dCons, dTup, dSub, sSetL, wVar, wC, wFrz, wFrzK, wOp, wAdd, nAdd, nI, nI0, wMul, nMul, wNeg, wEq, nEq, wIsN, wB, wAndT, wOrT, wNotT, wAndV, wOrV, wNotV, wIfE, wChain, aNil, aCons, aStar, wLst, wTup, wIx, nIx, pNo, pSo, wSl, wRev, wRevE, mIndex, wLenSet, cRepr, wIsB, wCB, cLen, cAll, cSum, cMax, cMin, cSorted, cInt, cList, cTuple, cIsi, wBits, wLRg, wBM, wBM0, mChg, wDGet, wDIn, wDNew, sDPutD, wIn, nIn, wCall, wCallK, wNew, tYesD, startD, List.map_cons, List.map_nil, List.length_cons, List.length_nil, List.replicate, Nat.sub_self, List.append_nil, List.cons_append, List.nil_append, List.getElem?_cons_zero, List.getElem?_cons_succ, List.set_cons_zero, List.set_cons_succ, Nat.reduceSub, Nat.reduceAdd, ite_true, ite_false, if_true, if_false, Bool.false_eq_true, Bool.true_eq_false, Bool.not_true, Bool.not_false, Option.some.injEq, nrm_non, nrm_bl, nrm_int, nrm_str, nrm_ty, nrm_lst, nrm_tupC, nrm_dct, nrm_scr, nrm_setL, wFgt, tyN_non, tyN_bl, tyN_int, tyN_str, tyN_lst, tyN_tup, tyN_dct, keyD_int, keyD_str, isA, okT, beq_self_eq_true, String.reduceBEq, Bool.or_false, Bool.or_true, Bool.and_false, Bool.and_true, Bool.true_or, Bool.false_or, Bool.true_and, Bool.false_and, true_and, and_true, List.any_cons, List.any_nil, tyNames, Option.map_some, iRn1, iRn2, iRn3, iLst, nIt, iTp, iEn, iZp, iSt, wipeD, atI0, atI1, atI2, atI3, ixN0, ixN1, ixN2, ixN3, wSub, wLt, wLe, wGt, wGe, wDiv, wMod, wPow, wShl, Mp.set_same, Mp.set_set, cSortedA, cDictP, wNewD, wEqS, nEqS, wFrzT, mExt, mCnt, nIxL, sAugS, wSlS, wJoin, cSumL, dUnl, cSortLL, cMinLL, wLenSetT, wLenDictT, mIndexB, wLenSetJ, wAddT, wSortSet, wDNewT, sDPutT, cSortDT, wBMd, wDGet1, wDGet2, mUpd, wPairs, wDisp, wLtS, cMinS, cListD]
  refine ⟨p, xs, ss.length, B, rfl, hp, hx, hB, by omega, by omega, fun k ys hk0 hk1 hy => ?_⟩
  have e : atI ss k = some (ss[k.toNat]'(by omega)) := by
    unfold atI ixN
    rw [if_pos hk0, if_pos hk1]
    simp only [Option.bind_some]
    exact List.getElem?_eq_getElem (by omega)
  simp only [sSeq, sRet, sRetN, sIf, sDrop, sNever, sNext, sBreak, sCont, sAsg, sPar, sPar3, sAug, dName, dNil, dCons, dTup, dSub, sSetL, wVar, wC, wFrz, wFrzK, wOp, wAdd, nAdd, nI, nI0, wMul, nMul, wNeg, wEq, nEq, wIsN, wB, wAndT, wOrT, wNotT, wAndV, wOrV, wNotV, wIfE, wChain, aNil, aCons, aStar, wLst, wTup, wIx, nIx, pNo, pSo, wSl, wRev, wRevE, mIndex, wLenSet, cRepr, wIsB, wCB, cLen, cAll, cSum, cMax, cMin, cSorted, cInt, cList, cTuple, cIsi, wBits, wLRg, wBM, wBM0, mChg, wDGet, wDIn, wDNew, sDPutD, wIn, nIn, wCall, wCallK, wNew, tYesD, startD, List.map_cons, List.map_nil, List.length_cons, List.length_nil, List.replicate, Nat.sub_self, List.append_nil, List.cons_append, List.nil_append, List.getElem?_cons_zero, List.getElem?_cons_succ, List.set_cons_zero, List.set_cons_succ, Nat.reduceSub, Nat.reduceAdd, ite_true, ite_false, if_true, if_false, Bool.false_eq_true, Bool.true_eq_false, Bool.not_true, Bool.not_false, Option.some.injEq, nrm_non, nrm_bl, nrm_int, nrm_str, nrm_ty, nrm_lst, nrm_tupC, nrm_dct, nrm_scr, nrm_setL, wFgt, tyN_non, tyN_bl, tyN_int, tyN_str, tyN_lst, tyN_tup, tyN_dct, keyD_int, keyD_str, isA, okT, beq_self_eq_true, String.reduceBEq, Bool.or_false, Bool.or_true, Bool.and_false, Bool.and_true, Bool.true_or, Bool.false_or, Bool.true_and, Bool.false_and, true_and, and_true, List.any_cons, List.any_nil, tyNames, Option.map_some, iRn1, iRn2, iRn3, iLst, nIt, iTp, iEn, iZp, iSt, wipeD, atI0, atI1, atI2, atI3, ixN0, ixN1, ixN2, ixN3, wSub, wLt, wLe, wGt, wGe, wDiv, wMod, wPow, wShl, Mp.set_same, Mp.set_set, cSortedA, cDictP, wNewD, wEqS, nEqS, wFrzT, mExt, mCnt, nIxL, sAugS, wSlS, wJoin, cSumL, dUnl, cSortLL, cMinLL, wLenSetT, wLenDictT, mIndexB, wLenSetJ, wAddT, wSortSet, wDNewT, sDPutT, cSortDT, wBMd, wDGet1, wDGet2, mUpd, wPairs, wDisp, wLtS, cMinS, cListD, e]
  exact q _ ys (List.getElem_mem _) hy
abbrev s_faros_done : Stmt := topS 18
theorem sc_faros_done : FnScope ["many", "word"] ["many", "word"] (defScope s_faros_done) := ⟨rfl, rfl, rfl, by decide +kernel, rfl, by decide +kernel, by decide +kernel⟩
theorem ok_faros_done {f : Addr} {fd : FuncData} (F : FnP K "faros_done" s_faros_done [] f fd)
    {f_check_many : Addr} {fd_check_many : FuncData} {ds_check_many : List Value} (G_check_many : Kn P w K mg base "check_many" ["many"] R_check_many 3 [] ds_check_many f_check_many fd_check_many)
    {f_is_word : Addr} {fd_is_word : FuncData} {ds_is_word : List Value} (G_is_word : Kn P w K mg base "is_word" ["value"] R_is_word 1 [] ds_is_word f_is_word fd_is_word)
    {f_done_there : Addr} {fd_done_there : FuncData} {ds_done_there : List Value} (G_done_there : Kn P w K mg base "done_there" ["many", "word"] R_done_there 2 [] ds_done_there f_done_there fd_done_there) :
    FnG P w K mg base 4 f fd ["many", "word"] (spD R_faros_done) := by
  have nd := sc_faros_done.nd
  refine fnD (k := 3) F sc_faros_done len_faros_done fun cdv A outer s H E hr hq => ?_
  have hu := hu_of hr
  have hr65 := room65 hr
  have hr66 := room66 hr
  refine ⟨_, _, pss_cons (ps_expr (pe_callG (G_check_many.ok.mono (by decide)) hr hq (by rfl) G_check_many.m G_check_many.kp G_check_many.b G_check_many.dv (pa_cons (pv 0) (pa_nil))))
      (pss_cons (ps_if (pt_not (pt_val (pe_callG (G_is_word.ok.mono (by decide)) hr hq (by rfl) G_is_word.m G_is_word.kp G_is_word.b G_is_word.dv (pa_cons (pv 1) (pa_nil))))) (pss_one (ps_never)) (pss_nil))
      (pss_one (ps_ret (pe_callG (G_done_there.ok.mono (by decide)) hr hq (by rfl) G_done_there.m G_done_there.kp G_done_there.b G_done_there.dv (pa_cons (pv 0) (pa_cons (pv 1) (pa_nil))))))),
    ts_seq (ts_drop (tr_call (ta_cons (tr_var (i := 0)) (ta_nil))))
      (ts_seq (ts_if (tt_not (tt_B (tr_call (ta_cons (tr_var (i := 1)) (ta_nil))))) (ts_never) (ts_next))
      (ts_ret (tr_call (ta_cons (tr_var (i := 0)) (ta_cons (tr_var (i := 1)) (ta_nil)))))), ?_⟩
  rintro ds M Q ⟨n, bs, rfl, hn, hl, q⟩
  simp only [sSeq, sRet, sRetN, sIf, sDrop, sNever, sNext, sBreak, sCont, sAsg, sPar, sPar3, sAug, dName, dNil, dCons, dTup, dSub, sSetL, wVar, wC, wFrz, wFrzK, wOp, wAdd, nAdd, nI, nI0, wMul, nMul, wNeg, wEq, nEq, wIsN, wB, wAndT, wOrT, wNotT, wAndV, wOrV, wNotV, wIfE, wChain, aNil, aCons, aStar, wLst, wTup, wIx, nIx, pNo, pSo, wSl, wRev, wRevE, mIndex, wLenSet, cRepr, wIsB, wCB, cLen, cAll, cSum, cMax, cMin, cSorted, cInt, cList, cTuple, cIsi, wBits, wLRg, wBM, wBM0, mChg, wDGet, wDIn, wDNew, sDPutD, wIn, nIn, wCall, wCallK, wNew, tYesD, startD, List.map_cons, List.map_nil, List.length_cons, List.length_nil, List.replicate, Nat.sub_self, List.append_nil, List.cons_append, List.nil_append, List.getElem?_cons_zero, List.getElem?_cons_succ, List.set_cons_zero, List.set_cons_succ, Nat.reduceSub, Nat.reduceAdd, ite_true, ite_false, if_true, if_false, Bool.false_eq_true, Bool.true_eq_false, Bool.not_true, Bool.not_false, Option.some.injEq, nrm_non, nrm_bl, nrm_int, nrm_str, nrm_ty, nrm_lst, nrm_tupC, nrm_dct, nrm_scr, nrm_setL, wFgt, tyN_non, tyN_bl, tyN_int, tyN_str, tyN_lst, tyN_tup, tyN_dct, keyD_int, keyD_str, isA, okT, beq_self_eq_true, String.reduceBEq, Bool.or_false, Bool.or_true, Bool.and_false, Bool.and_true, Bool.true_or, Bool.false_or, Bool.true_and, Bool.false_and, true_and, and_true, List.any_cons, List.any_nil, tyNames, Option.map_some, iRn1, iRn2, iRn3, iLst, nIt, iTp, iEn, iZp, iSt, wipeD, atI0, atI1, atI2, atI3, ixN0, ixN1, ixN2, ixN3, wSub, wLt, wLe, wGt, wGe, wDiv, wMod, wPow, wShl, Mp.set_same, Mp.set_set, cSortedA, cDictP, wNewD, wEqS, nEqS, wFrzT, mExt, mCnt, nIxL, sAugS, wSlS, wJoin, cSumL, dUnl, cSortLL, cMinLL, wLenSetT, wLenDictT, mIndexB, wLenSetJ, wAddT, wSortSet, wDNewT, sDPutT, cSortDT, wBMd, wDGet1, wDGet2, mUpd, wPairs, wDisp, wLtS, cMinS, cListD]
  exact ⟨n, rfl, by omega, bs, rfl, by omega, n, bs, rfl, by omega, by omega, q⟩
abbrev s_word_to_place : Stmt := topS 19
theorem sc_word_to_place : FnScope ["many", "place", "found"] ["many", "place"] (defScope s_word_to_place) := ⟨rfl, rfl, rfl, by decide +kernel, rfl, by decide +kernel, by decide +kernel⟩
theorem ok_word_to_place {f : Addr} {fd : FuncData} (F : FnP K "word_to_place" s_word_to_place [] f fd)
    {f_check_many : Addr} {fd_check_many : FuncData} {ds_check_many : List Value} (G_check_many : Kn P w K mg base "check_many" ["many"] R_check_many 3 [] ds_check_many f_check_many fd_check_many)
    {f_check_place : Addr} {fd_check_place : FuncData} {ds_check_place : List Value} (G_check_place : Kn P w K mg base "check_place" ["many", "place"] R_check_place 3 [] ds_check_place f_check_place fd_check_place) :
    FnG P w K mg base 4 f fd ["many", "place"] (spD R_word_to_place) := by
  have nd := sc_word_to_place.nd
  refine fnD (k := 3) F sc_word_to_place len_word_to_place fun cdv A outer s H E hr hq => ?_
  have hu := hu_of hr
  have hr65 := room65 hr
  have hr66 := room66 hr
  refine ⟨_, _, pss_cons (ps_expr (pe_callG (G_check_many.ok.mono (by decide)) hr hq (by rfl) G_check_many.m G_check_many.kp G_check_many.b G_check_many.dv (pa_cons (pv 0) (pa_nil))))
      (pss_cons (ps_expr (pe_callG (G_check_place.ok.mono (by decide)) hr hq (by rfl) G_check_place.m G_check_place.kp G_check_place.b G_check_place.dv (pa_cons (pv 0) (pa_cons (pv 1) (pa_nil)))))
      (pss_cons (ps_set (i := 2) nd rfl (by first | exact .inl rfl | exact .inr rfl) (pe_str))
      (pss_cons (ps_while PassesOwn.never (pt_cmpR (op_gt) (pv 1) (pe_int) (nomark _)) (pss_cons (ps_set (i := 2) nd rfl (by first | exact .inl rfl | exact .inr rfl) (pe_op op_addA (pe_ifExp (pt_cmpR (op_eqD hr.units) (pe_op op_mod (pv 1) (pe_int)) (pe_int) (nomark _)) (pe_str) (pe_str)) (pv 2)))
      (pss_one (ps_set (i := 1) nd rfl (by first | exact .inl rfl | exact .inr rfl) (pe_op op_fdivW (pv 1) (pe_int))))))
      (pss_one (ps_ret (pv 2)))))),
    ts_seq (ts_drop (tr_call (ta_cons (tr_var (i := 0)) (ta_nil))))
      (ts_seq (ts_drop (tr_call (ta_cons (tr_var (i := 0)) (ta_cons (tr_var (i := 1)) (ta_nil)))))
      (ts_seq (ts_asg (tr_str) (tg_name (i := 2)))
      (ts_seq (ts_while (tt_test (tr_op ot_gt (tr_var (i := 1)) (tr_int))) (ts_seq (ts_asg (tr_op (ot_add (K := K) (md := .frz)) (tr_if (tt_test (tr_op ot_eq (tr_op (ot_mod) (tr_var (i := 1)) (tr_int)) (tr_int))) (tr_str) (tr_str)) (tr_var (i := 2))) (tg_name (i := 2)))
      (ts_asg (tr_op (ot_div) (tr_var (i := 1)) (tr_int)) (tg_name (i := 1)))))
      (ts_ret (tr_var (i := 2)))))), ?_⟩
  rintro ds M Q ⟨n, p, rfl, hpn, hn, q⟩
  have hp : p < 2 ^ 40 := by omega
  ((try simp only [sSeq]); simp only [sRet, sRetN, sIf, sDrop, sNever, sNext, sBreak, sCont, sAsg, sPar, sPar3, sAug, dName, dNil, dCons, dTup, dSub, sSetL, wVar, wC, wFrz, wFrzK, wOp, wAdd, nAdd, nI, nI0, wMul, nMul, wNeg, wEq, nEq, wIsN, wB, wAndT, wOrT, wNotT, wAndV, wOrV, wNotV, wIfE, wChain, aNil, aCons, aStar, wLst, wTup, wIx, nIx, pNo, pSo, wSl, wRev, wRevE, mIndex, wLenSet, cRepr, wIsB, wCB, cLen, cAll, cSum, cMax, cMin, cSorted, cInt, cList, cTuple, cIsi, wBits, wLRg, wBM, wBM0, mChg, wDGet, wDIn, wDNew, sDPutD, wIn, nIn, wCall, wCallK, wNew, tYesD, startD, List.map_cons, List.map_nil, List.length_cons, List.length_nil, List.replicate, Nat.sub_self, List.append_nil, List.cons_append, List.nil_append, List.getElem?_cons_zero, List.getElem?_cons_succ, List.set_cons_zero, List.set_cons_succ, Nat.reduceSub, Nat.reduceAdd, ite_true, ite_false, if_true, if_false, Bool.false_eq_true, Bool.true_eq_false, Bool.not_true, Bool.not_false, Option.some.injEq, nrm_non, nrm_bl, nrm_int, nrm_str, nrm_ty, nrm_lst, nrm_tupC, nrm_dct, nrm_scr, nrm_setL, wFgt, tyN_non, tyN_bl, tyN_int, tyN_str, tyN_lst, tyN_tup, tyN_dct, keyD_int, keyD_str, isA, okT, beq_self_eq_true, String.reduceBEq, Bool.or_false, Bool.or_true, Bool.and_false, Bool.and_true, Bool.true_or, Bool.false_or, Bool.true_and, Bool.false_and, true_and, and_true, List.any_cons, List.any_nil, tyNames, Option.map_some, iRn1, iRn2, iRn3, iLst, nIt, iTp, iEn, iZp, iSt, wipeD, atI0, atI1, atI2, atI3, ixN0, ixN1, ixN2, ixN3, wSub, wLt, wLe, wGt, wGe, wDiv, wMod, wPow, wShl, Mp.set_same, Mp.set_set, cSortedA, cDictP, wNewD, wEqS, nEqS, wFrzT, mExt, mCnt, nIxL, sAugS, wSlS, wJoin, cSumL, dUnl, cSortLL, cMinLL, wLenSetT, wLenDictT, mIndexB, wLenSetJ, wAddT, wSortSet, wDNewT, sDPutT, cSortDT, wBMd, wDGet1, wDGet2, mUpd, wPairs, wDisp, wLtS, cMinS, cListD])
  refine ⟨n, rfl, by omega, ?_⟩
  ((try simp only [sSeq]); simp only [sRet, sRetN, sIf, sDrop, sNever, sNext, sBreak, sCont, sAsg, sPar, sPar3, sAug, dName, dNil, dCons, dTup, dSub, sSetL, wVar, wC, wFrz, wFrzK, wOp, wAdd, nAdd, nI, nI0, wMul, nMul, wNeg, wEq, nEq, wIsN, wB, wAndT, wOrT, wNotT, wAndV, wOrV, wNotV, wIfE, wChain, aNil, aCons, aStar, wLst, wTup, wIx, nIx, pNo, pSo, wSl, wRev, wRevE, mIndex, wLenSet, cRepr, wIsB, wCB, cLen, cAll, cSum, cMax, cMin, cSorted, cInt, cList, cTuple, cIsi, wBits, wLRg, wBM, wBM0, mChg, wDGet, wDIn, wDNew, sDPutD, wIn, nIn, wCall, wCallK, wNew, tYesD, startD, List.map_cons, List.map_nil, List.length_cons, List.length_nil, List.replicate, Nat.sub_self, List.append_nil, List.cons_append, List.nil_append, List.getElem?_cons_zero, List.getElem?_cons_succ, List.set_cons_zero, List.set_cons_succ, Nat.reduceSub, Nat.reduceAdd, ite_true, ite_false, if_true, if_false, Bool.false_eq_true, Bool.true_eq_false, Bool.not_true, Bool.not_false, Option.some.injEq, nrm_non, nrm_bl, nrm_int, nrm_str, nrm_ty, nrm_lst, nrm_tupC, nrm_dct, nrm_scr, nrm_setL, wFgt, tyN_non, tyN_bl, tyN_int, tyN_str, tyN_lst, tyN_tup, tyN_dct, keyD_int, keyD_str, isA, okT, beq_self_eq_true, String.reduceBEq, Bool.or_false, Bool.or_true, Bool.and_false, Bool.and_true, Bool.true_or, Bool.false_or, Bool.true_and, Bool.false_and, true_and, and_true, List.any_cons, List.any_nil, tyNames, Option.map_some, iRn1, iRn2, iRn3, iLst, nIt, iTp, iEn, iZp, iSt, wipeD, atI0, atI1, atI2, atI3, ixN0, ixN1, ixN2, ixN3, wSub, wLt, wLe, wGt, wGe, wDiv, wMod, wPow, wShl, Mp.set_same, Mp.set_set, cSortedA, cDictP, wNewD, wEqS, nEqS, wFrzT, mExt, mCnt, nIxL, sAugS, wSlS, wJoin, cSumL, dUnl, cSortLL, cMinLL, wLenSetT, wLenDictT, mIndexB, wLenSetJ, wAddT, wSortSet, wDNewT, sDPutT, cSortDT, wBMd, wDGet1, wDGet2, mUpd, wPairs, wDisp, wLtS, cMinS, cListD])
  refine ⟨n, p, rfl, by omega, by omega, ?_⟩
  ((try simp only [sSeq]); simp only [sRet, sRetN, sIf, sDrop, sNever, sNext, sBreak, sCont, sAsg, sPar, sPar3, sAug, dName, dNil, dCons, dTup, dSub, sSetL, wVar, wC, wFrz, wFrzK, wOp, wAdd, nAdd, nI, nI0, wMul, nMul, wNeg, wEq, nEq, wIsN, wB, wAndT, wOrT, wNotT, wAndV, wOrV, wNotV, wIfE, wChain, aNil, aCons, aStar, wLst, wTup, wIx, nIx, pNo, pSo, wSl, wRev, wRevE, mIndex, wLenSet, cRepr, wIsB, wCB, cLen, cAll, cSum, cMax, cMin, cSorted, cInt, cList, cTuple, cIsi, wBits, wLRg, wBM, wBM0, mChg, wDGet, wDIn, wDNew, sDPutD, wIn, nIn, wCall, wCallK, wNew, tYesD, startD, List.map_cons, List.map_nil, List.length_cons, List.length_nil, List.replicate, Nat.sub_self, List.append_nil, List.cons_append, List.nil_append, List.getElem?_cons_zero, List.getElem?_cons_succ, List.set_cons_zero, List.set_cons_succ, Nat.reduceSub, Nat.reduceAdd, ite_true, ite_false, if_true, if_false, Bool.false_eq_true, Bool.true_eq_false, Bool.not_true, Bool.not_false, Option.some.injEq, nrm_non, nrm_bl, nrm_int, nrm_str, nrm_ty, nrm_lst, nrm_tupC, nrm_dct, nrm_scr, nrm_setL, wFgt, tyN_non, tyN_bl, tyN_int, tyN_str, tyN_lst, tyN_tup, tyN_dct, keyD_int, keyD_str, isA, okT, beq_self_eq_true, String.reduceBEq, Bool.or_false, Bool.or_true, Bool.and_false, Bool.and_true, Bool.true_or, Bool.false_or, Bool.true_and, Bool.false_and, true_and, and_true, List.any_cons, List.any_nil, tyNames, Option.map_some, iRn1, iRn2, iRn3, iLst, nIt, iTp, iEn, iZp, iSt, wipeD, atI0, atI1, atI2, atI3, ixN0, ixN1, ixN2, ixN3, wSub, wLt, wLe, wGt, wGe, wDiv, wMod, wPow, wShl, Mp.set_same, Mp.set_set, cSortedA, cDictP, wNewD, wEqS, nEqS, wFrzT, mExt, mCnt, nIxL, sAugS, wSlS, wJoin, cSumL, dUnl, cSortLL, cMinLL, wLenSetT, wLenDictT, mIndexB, wLenSetJ, wAddT, wSortSet, wDNewT, sDPutT, cSortDT, wBMd, wDGet1, wDGet2, mUpd, wPairs, wDisp, wLtS, cMinS, cListD])
  refine ⟨fun m ρ M' => ∃ (p' : Nat) (acc : List Bool), ρ = [some (.int n), some (.int p'), some (.str (wordS acc))] ∧ M' = M ∧ p' < 2 ^ m ∧ acc.length + m = 64 ∧ figGo m p' acc = figs p, ⟨64, p, [], rfl, rfl, by omega, rfl, rfl⟩, ?_⟩
  rintro m ρ M' ⟨p', acc, rfl, rfl, h1, h2, h3⟩
  by_cases c : p' = 0
  · subst c
    have e0 : decide ((0 : Int) < ((0 : Nat) : Int)) = false := rfl
    have e1 : figGo m 0 acc = acc := by cases m <;> rfl
    rw [e1] at h3
    ((try simp only [sSeq]); simp only [sRet, sRetN, sIf, sDrop, sNever, sNext, sBreak, sCont, sAsg, sPar, sPar3, sAug, dName, dNil, dCons, dTup, dSub, sSetL, wVar, wC, wFrz, wFrzK, wOp, wAdd, nAdd, nI, nI0, wMul, nMul, wNeg, wEq, nEq, wIsN, wB, wAndT, wOrT, wNotT, wAndV, wOrV, wNotV, wIfE, wChain, aNil, aCons, aStar, wLst, wTup, wIx, nIx, pNo, pSo, wSl, wRev, wRevE, mIndex, wLenSet, cRepr, wIsB, wCB, cLen, cAll, cSum, cMax, cMin, cSorted, cInt, cList, cTuple, cIsi, wBits, wLRg, wBM, wBM0, mChg, wDGet, wDIn, wDNew, sDPutD, wIn, nIn, wCall, wCallK, wNew, tYesD, startD, List.map_cons, List.map_nil, List.length_cons, List.length_nil, List.replicate, Nat.sub_self, List.append_nil, List.cons_append, List.nil_append, List.getElem?_cons_zero, List.getElem?_cons_succ, List.set_cons_zero, List.set_cons_succ, Nat.reduceSub, Nat.reduceAdd, ite_true, ite_false, if_true, if_false, Bool.false_eq_true, Bool.true_eq_false, Bool.not_true, Bool.not_false, Option.some.injEq, nrm_non, nrm_bl, nrm_int, nrm_str, nrm_ty, nrm_lst, nrm_tupC, nrm_dct, nrm_scr, nrm_setL, wFgt, tyN_non, tyN_bl, tyN_int, tyN_str, tyN_lst, tyN_tup, tyN_dct, keyD_int, keyD_str, isA, okT, beq_self_eq_true, String.reduceBEq, Bool.or_false, Bool.or_true, Bool.and_false, Bool.and_true, Bool.true_or, Bool.false_or, Bool.true_and, Bool.false_and, true_and, and_true, List.any_cons, List.any_nil, tyNames, Option.map_some, iRn1, iRn2, iRn3, iLst, nIt, iTp, iEn, iZp, iSt, wipeD, atI0, atI1, atI2, atI3, ixN0, ixN1, ixN2, ixN3, wSub, wLt, wLe, wGt, wGe, wDiv, wMod, wPow, wShl, Mp.set_same, Mp.set_set, cSortedA, cDictP, wNewD, wEqS, nEqS, wFrzT, mExt, mCnt, nIxL, sAugS, wSlS, wJoin, cSumL, dUnl, cSortLL, cMinLL, wLenSetT, wLenDictT, mIndexB, wLenSetJ, wAddT, wSortSet, wDNewT, sDPutT, cSortDT, wBMd, wDGet1, wDGet2, mUpd, wPairs, wDisp, wLtS, cMinS, cListD, e0])
    rw [h3]
    exact q
  · have e0 : decide ((0 : Int) < (p' : Int)) = true := decide_eq_true (by omega)
    cases m with
    | zero => omega
    | succ m =>
    rw [figGo, if_neg c] at h3
    have hl : (wordS acc).length = acc.length := by unfold wordS; show Array.size _ = _; simp
    have es : ∀ b, (sgn b).length = 1 := fun b => rfl
    have e2 : (p' : Int) / 2 = ((p' / 2 : Nat) : Int) := by omega
    have hp2 : p' / 2 < 2 ^ m := by rw [Nat.pow_succ] at h1; omega
    ((try simp only [sSeq]); simp only [sRet, sRetN, sIf, sDrop, sNever, sNext, sBreak, sCont, sAsg, sPar, sPar3, sAug, dName, dNil, dCons, dTup, dSub, sSetL, wVar, wC, wFrz, wFrzK, wOp, wAdd, nAdd, nI, nI0, wMul, nMul, wNeg, wEq, nEq, wIsN, wB, wAndT, wOrT, wNotT, wAndV, wOrV, wNotV, wIfE, wChain, aNil, aCons, aStar, wLst, wTup, wIx, nIx, pNo, pSo, wSl, wRev, wRevE, mIndex, wLenSet, cRepr, wIsB, wCB, cLen, cAll, cSum, cMax, cMin, cSorted, cInt, cList, cTuple, cIsi, wBits, wLRg, wBM, wBM0, mChg, wDGet, wDIn, wDNew, sDPutD, wIn, nIn, wCall, wCallK, wNew, tYesD, startD, List.map_cons, List.map_nil, List.length_cons, List.length_nil, List.replicate, Nat.sub_self, List.append_nil, List.cons_append, List.nil_append, List.getElem?_cons_zero, List.getElem?_cons_succ, List.set_cons_zero, List.set_cons_succ, Nat.reduceSub, Nat.reduceAdd, ite_true, ite_false, if_true, if_false, Bool.false_eq_true, Bool.true_eq_false, Bool.not_true, Bool.not_false, Option.some.injEq, nrm_non, nrm_bl, nrm_int, nrm_str, nrm_ty, nrm_lst, nrm_tupC, nrm_dct, nrm_scr, nrm_setL, wFgt, tyN_non, tyN_bl, tyN_int, tyN_str, tyN_lst, tyN_tup, tyN_dct, keyD_int, keyD_str, isA, okT, beq_self_eq_true, String.reduceBEq, Bool.or_false, Bool.or_true, Bool.and_false, Bool.and_true, Bool.true_or, Bool.false_or, Bool.true_and, Bool.false_and, true_and, and_true, List.any_cons, List.any_nil, tyNames, Option.map_some, iRn1, iRn2, iRn3, iLst, nIt, iTp, iEn, iZp, iSt, wipeD, atI0, atI1, atI2, atI3, ixN0, ixN1, ixN2, ixN3, wSub, wLt, wLe, wGt, wGe, wDiv, wMod, wPow, wShl, Mp.set_same, Mp.set_set, cSortedA, cDictP, wNewD, wEqS, nEqS, wFrzT, mExt, mCnt, nIxL, sAugS, wSlS, wJoin, cSumL, dUnl, cSortLL, cMinLL, wLenSetT, wLenDictT, mIndexB, wLenSetJ, wAddT, wSortSet, wDNewT, sDPutT, cSortDT, wBMd, wDGet1, wDGet2, mUpd, wPairs, wDisp, wLtS, cMinS, cListD, e0])
    refine ⟨by decide, ?_⟩
    by_cases c2 : p' % 2 = 1
    · rw [decide_eq_true (show (p' : Int) % 2 = 1 by omega)]
      rw [decide_eq_true c2] at h3
      ((try simp only [sSeq]); simp only [sRet, sRetN, sIf, sDrop, sNever, sNext, sBreak, sCont, sAsg, sPar, sPar3, sAug, dName, dNil, dCons, dTup, dSub, sSetL, wVar, wC, wFrz, wFrzK, wOp, wAdd, nAdd, nI, nI0, wMul, nMul, wNeg, wEq, nEq, wIsN, wB, wAndT, wOrT, wNotT, wAndV, wOrV, wNotV, wIfE, wChain, aNil, aCons, aStar, wLst, wTup, wIx, nIx, pNo, pSo, wSl, wRev, wRevE, mIndex, wLenSet, cRepr, wIsB, wCB, cLen, cAll, cSum, cMax, cMin, cSorted, cInt, cList, cTuple, cIsi, wBits, wLRg, wBM, wBM0, mChg, wDGet, wDIn, wDNew, sDPutD, wIn, nIn, wCall, wCallK, wNew, tYesD, startD, List.map_cons, List.map_nil, List.length_cons, List.length_nil, List.replicate, Nat.sub_self, List.append_nil, List.cons_append, List.nil_append, List.getElem?_cons_zero, List.getElem?_cons_succ, List.set_cons_zero, List.set_cons_succ, Nat.reduceSub, Nat.reduceAdd, ite_true, ite_false, if_true, if_false, Bool.false_eq_true, Bool.true_eq_false, Bool.not_true, Bool.not_false, Option.some.injEq, nrm_non, nrm_bl, nrm_int, nrm_str, nrm_ty, nrm_lst, nrm_tupC, nrm_dct, nrm_scr, nrm_setL, wFgt, tyN_non, tyN_bl, tyN_int, tyN_str, tyN_lst, tyN_tup, tyN_dct, keyD_int, keyD_str, isA, okT, beq_self_eq_true, String.reduceBEq, Bool.or_false, Bool.or_true, Bool.and_false, Bool.and_true, Bool.true_or, Bool.false_or, Bool.true_and, Bool.false_and, true_and, and_true, List.any_cons, List.any_nil, tyNames, Option.map_some, iRn1, iRn2, iRn3, iLst, nIt, iTp, iEn, iZp, iSt, wipeD, atI0, atI1, atI2, atI3, ixN0, ixN1, ixN2, ixN3, wSub, wLt, wLe, wGt, wGe, wDiv, wMod, wPow, wShl, Mp.set_same, Mp.set_set, cSortedA, cDictP, wNewD, wEqS, nEqS, wFrzT, mExt, mCnt, nIxL, sAugS, wSlS, wJoin, cSumL, dUnl, cSortLL, cMinLL, wLenSetT, wLenDictT, mIndexB, wLenSetJ, wAddT, wSortSet, wDNewT, sDPutT, cSortDT, wBMd, wDGet1, wDGet2, mUpd, wPairs, wDisp, wLtS, cMinS, cListD])
      rw [sgnI]
      refine ⟨by rw [es, hl]; unfold Sz; omega, ⟨by omega, by omega⟩, m, by omega, p' / 2, true :: acc, by rw [e2, sgn_word], hp2, by rw [List.length_cons]; omega, h3⟩
    · rw [decide_eq_false (show ¬ (p' : Int) % 2 = 1 by omega)]
      rw [decide_eq_false c2] at h3
      ((try simp only [sSeq]); simp only [sRet, sRetN, sIf, sDrop, sNever, sNext, sBreak, sCont, sAsg, sPar, sPar3, sAug, dName, dNil, dCons, dTup, dSub, sSetL, wVar, wC, wFrz, wFrzK, wOp, wAdd, nAdd, nI, nI0, wMul, nMul, wNeg, wEq, nEq, wIsN, wB, wAndT, wOrT, wNotT, wAndV, wOrV, wNotV, wIfE, wChain, aNil, aCons, aStar, wLst, wTup, wIx, nIx, pNo, pSo, wSl, wRev, wRevE, mIndex, wLenSet, cRepr, wIsB, wCB, cLen, cAll, cSum, cMax, cMin, cSorted, cInt, cList, cTuple, cIsi, wBits, wLRg, wBM, wBM0, mChg, wDGet, wDIn, wDNew, sDPutD, wIn, nIn, wCall, wCallK, wNew, tYesD, startD, List.map_cons, List.map_nil, List.length_cons, List.length_nil, List.replicate, Nat.sub_self, List.append_nil, List.cons_append, List.nil_append, List.getElem?_cons_zero, List.getElem?_cons_succ, List.set_cons_zero, List.set_cons_succ, Nat.reduceSub, Nat.reduceAdd, ite_true, ite_false, if_true, if_false, Bool.false_eq_true, Bool.true_eq_false, Bool.not_true, Bool.not_false, Option.some.injEq, nrm_non, nrm_bl, nrm_int, nrm_str, nrm_ty, nrm_lst, nrm_tupC, nrm_dct, nrm_scr, nrm_setL, wFgt, tyN_non, tyN_bl, tyN_int, tyN_str, tyN_lst, tyN_tup, tyN_dct, keyD_int, keyD_str, isA, okT, beq_self_eq_true, String.reduceBEq, Bool.or_false, Bool.or_true, Bool.and_false, Bool.and_true, Bool.true_or, Bool.false_or, Bool.true_and, Bool.false_and, true_and, and_true, List.any_cons, List.any_nil, tyNames, Option.map_some, iRn1, iRn2, iRn3, iLst, nIt, iTp, iEn, iZp, iSt, wipeD, atI0, atI1, atI2, atI3, ixN0, ixN1, ixN2, ixN3, wSub, wLt, wLe, wGt, wGe, wDiv, wMod, wPow, wShl, Mp.set_same, Mp.set_set, cSortedA, cDictP, wNewD, wEqS, nEqS, wFrzT, mExt, mCnt, nIxL, sAugS, wSlS, wJoin, cSumL, dUnl, cSortLL, cMinLL, wLenSetT, wLenDictT, mIndexB, wLenSetJ, wAddT, wSortSet, wDNewT, sDPutT, cSortDT, wBMd, wDGet1, wDGet2, mUpd, wPairs, wDisp, wLtS, cMinS, cListD])
      rw [sgnO]
      refine ⟨by rw [es, hl]; unfold Sz; omega, ⟨by omega, by omega⟩, m, by omega, p' / 2, false :: acc, by rw [e2, sgn_word], hp2, by rw [List.length_cons]; omega, h3⟩
abbrev s_shortest_word : Stmt := topS 22
theorem sc_shortest_word : FnScope ["many", "one", "other"] ["many", "one", "other"] (defScope s_shortest_word) := ⟨rfl, rfl, rfl, by decide +kernel, rfl, by decide +kernel, by decide +kernel⟩
theorem ok_shortest_word {f : Addr} {fd : FuncData} (F : FnP K "shortest_word" s_shortest_word [] f fd)
    {f_check_many : Addr} {fd_check_many : FuncData} {ds_check_many : List Value} (G_check_many : Kn P w K mg base "check_many" ["many"] R_check_many 3 [] ds_check_many f_check_many fd_check_many)
    {f_check_place : Addr} {fd_check_place : FuncData} {ds_check_place : List Value} (G_check_place : Kn P w K mg base "check_place" ["many", "place"] R_check_place 3 [] ds_check_place f_check_place fd_check_place)
    {f_is_count : Addr} {fd_is_count : FuncData} {ds_is_count : List Value} (G_is_count : Kn P w K mg base "is_count" ["value", "least"] R_is_count 2 [.int 0] ds_is_count f_is_count fd_is_count)
    {f_words_there : Addr} {fd_words_there : FuncData} {ds_words_there : List Value} (G_words_there : Kn P w K mg base "words_there" ["many", "one"] R_words_there 3 [] ds_words_there f_words_there fd_words_there) :
    FnG P w K mg base 4 f fd ["many", "one", "other"] (spD R_shortest_word) := by
  have nd := sc_shortest_word.nd
  refine fnD (k := 3) F sc_shortest_word len_shortest_word fun cdv A outer s H E hr hq => ?_
  have hu := hu_of hr
  have hr65 := room65 hr
  have hr66 := room66 hr
  refine ⟨_, _, pss_cons (ps_expr (pe_callG (G_check_many.ok.mono (by decide)) hr hq (by rfl) G_check_many.m G_check_many.kp G_check_many.b G_check_many.dv (pa_cons (pv 0) (pa_nil))))
      (pss_cons (ps_expr (pe_callG (G_check_place.ok.mono (by decide)) hr hq (by rfl) G_check_place.m G_check_place.kp G_check_place.b G_check_place.dv (pa_cons (pv 0) (pa_cons (pv 1) (pa_nil)))))
      (pss_cons (ps_if (PW.pt (pw_or (pt_not (pt_val (pe_callG (G_is_count.ok.mono (by decide)) hr hq (by rfl) G_is_count.m G_is_count.kp G_is_count.b G_is_count.dv (pa_cons (pv 2) (pa_nil))))) (pw_or1 (pt_cmpR (op_ge) (pv 2) (pv 0) (nomark _))))) (pss_one (ps_never)) (pss_nil))
      (pss_one (ps_ret (pe_dget hu (pe_callG (G_words_there.ok.mono (by decide)) hr hq (by rfl) G_words_there.m G_words_there.kp G_words_there.b G_words_there.dv (pa_cons (pv 0) (pa_cons (pv 1) (pa_nil)))) (pv 2) (fun _ _ => rfl)))))),
    ts_seq (ts_drop (tr_call (ta_cons (tr_var (i := 0)) (ta_nil))))
      (ts_seq (ts_drop (tr_call (ta_cons (tr_var (i := 0)) (ta_cons (tr_var (i := 1)) (ta_nil)))))
      (ts_seq (ts_if (tt_or (tt_not (tt_B (tr_call (ta_cons (tr_var (i := 2)) (ta_nil)) (by exact .cons (d := .int 0) (fun _ => rfl) .nil)))) (tt_test (tr_op ot_ge (tr_var (i := 2)) (tr_var (i := 0))))) (ts_never) (ts_next))
      (ts_ret (tr_fgt (tr_dget (tr_call (ta_cons (tr_var (i := 0)) (ta_cons (tr_var (i := 1)) (ta_nil)))) (tr_var (i := 2))))))), ?_⟩
  rintro ds M Q ⟨n, one, other, w, rfl, h1, h2, hn, hw, q⟩
  ((try simp only [sSeq]); simp only [sRet, sRetN, sIf, sDrop, sNever, sNext, sBreak, sCont, sAsg, sPar, sPar3, sAug, dName, dNil, dCons, dTup, dSub, sSetL, wVar, wC, wFrz, wFrzK, wOp, wAdd, nAdd, nI, nI0, wMul, nMul, wNeg, wEq, nEq, wIsN, wB, wAndT, wOrT, wNotT, wAndV, wOrV, wNotV, wIfE, wChain, aNil, aCons, aStar, wLst, wTup, wIx, nIx, pNo, pSo, wSl, wRev, wRevE, mIndex, wLenSet, cRepr, wIsB, wCB, cLen, cAll, cSum, cMax, cMin, cSorted, cInt, cList, cTuple, cIsi, wBits, wLRg, wBM, wBM0, mChg, wDGet, wDIn, wDNew, sDPutD, wIn, nIn, wCall, wCallK, wNew, tYesD, startD, List.map_cons, List.map_nil, List.length_cons, List.length_nil, List.replicate, Nat.sub_self, List.append_nil, List.cons_append, List.nil_append, List.getElem?_cons_zero, List.getElem?_cons_succ, List.set_cons_zero, List.set_cons_succ, Nat.reduceSub, Nat.reduceAdd, ite_true, ite_false, if_true, if_false, Bool.false_eq_true, Bool.true_eq_false, Bool.not_true, Bool.not_false, Option.some.injEq, nrm_non, nrm_bl, nrm_int, nrm_str, nrm_ty, nrm_lst, nrm_tupC, nrm_dct, nrm_scr, nrm_setL, wFgt, tyN_non, tyN_bl, tyN_int, tyN_str, tyN_lst, tyN_tup, tyN_dct, keyD_int, keyD_str, isA, okT, beq_self_eq_true, String.reduceBEq, Bool.or_false, Bool.or_true, Bool.and_false, Bool.and_true, Bool.true_or, Bool.false_or, Bool.true_and, Bool.false_and, true_and, and_true, List.any_cons, List.any_nil, tyNames, Option.map_some, iRn1, iRn2, iRn3, iLst, nIt, iTp, iEn, iZp, iSt, wipeD, atI0, atI1, atI2, atI3, ixN0, ixN1, ixN2, ixN3, wSub, wLt, wLe, wGt, wGe, wDiv, wMod, wPow, wShl, Mp.set_same, Mp.set_set, cSortedA, cDictP, wNewD, wEqS, nEqS, wFrzT, mExt, mCnt, nIxL, sAugS, wSlS, wJoin, cSumL, dUnl, cSortLL, cMinLL, wLenSetT, wLenDictT, mIndexB, wLenSetJ, wAddT, wSortSet, wDNewT, sDPutT, cSortDT, wBMd, wDGet1, wDGet2, mUpd, wPairs, wDisp, wLtS, cMinS, cListD])
  refine ⟨n, rfl, by omega, ?_⟩
  ((try simp only [sSeq]); simp only [sRet, sRetN, sIf, sDrop, sNever, sNext, sBreak, sCont, sAsg, sPar, sPar3, sAug, dName, dNil, dCons, dTup, dSub, sSetL, wVar, wC, wFrz, wFrzK, wOp, wAdd, nAdd, nI, nI0, wMul, nMul, wNeg, wEq, nEq, wIsN, wB, wAndT, wOrT, wNotT, wAndV, wOrV, wNotV, wIfE, wChain, aNil, aCons, aStar, wLst, wTup, wIx, nIx, pNo, pSo, wSl, wRev, wRevE, mIndex, wLenSet, cRepr, wIsB, wCB, cLen, cAll, cSum, cMax, cMin, cSorted, cInt, cList, cTuple, cIsi, wBits, wLRg, wBM, wBM0, mChg, wDGet, wDIn, wDNew, sDPutD, wIn, nIn, wCall, wCallK, wNew, tYesD, startD, List.map_cons, List.map_nil, List.length_cons, List.length_nil, List.replicate, Nat.sub_self, List.append_nil, List.cons_append, List.nil_append, List.getElem?_cons_zero, List.getElem?_cons_succ, List.set_cons_zero, List.set_cons_succ, Nat.reduceSub, Nat.reduceAdd, ite_true, ite_false, if_true, if_false, Bool.false_eq_true, Bool.true_eq_false, Bool.not_true, Bool.not_false, Option.some.injEq, nrm_non, nrm_bl, nrm_int, nrm_str, nrm_ty, nrm_lst, nrm_tupC, nrm_dct, nrm_scr, nrm_setL, wFgt, tyN_non, tyN_bl, tyN_int, tyN_str, tyN_lst, tyN_tup, tyN_dct, keyD_int, keyD_str, isA, okT, beq_self_eq_true, String.reduceBEq, Bool.or_false, Bool.or_true, Bool.and_false, Bool.and_true, Bool.true_or, Bool.false_or, Bool.true_and, Bool.false_and, true_and, and_true, List.any_cons, List.any_nil, tyNames, Option.map_some, iRn1, iRn2, iRn3, iLst, nIt, iTp, iEn, iZp, iSt, wipeD, atI0, atI1, atI2, atI3, ixN0, ixN1, ixN2, ixN3, wSub, wLt, wLe, wGt, wGe, wDiv, wMod, wPow, wShl, Mp.set_same, Mp.set_set, cSortedA, cDictP, wNewD, wEqS, nEqS, wFrzT, mExt, mCnt, nIxL, sAugS, wSlS, wJoin, cSumL, dUnl, cSortLL, cMinLL, wLenSetT, wLenDictT, mIndexB, wLenSetJ, wAddT, wSortSet, wDNewT, sDPutT, cSortDT, wBMd, wDGet1, wDGet2, mUpd, wPairs, wDisp, wLtS, cMinS, cListD])
  refine ⟨n, one, rfl, by omega, by omega, ?_⟩
  ((try simp only [sSeq]); simp only [sRet, sRetN, sIf, sDrop, sNever, sNext, sBreak, sCont, sAsg, sPar, sPar3, sAug, dName, dNil, dCons, dTup, dSub, sSetL, wVar, wC, wFrz, wFrzK, wOp, wAdd, nAdd, nI, nI0, wMul, nMul, wNeg, wEq, nEq, wIsN, wB, wAndT, wOrT, wNotT, wAndV, wOrV, wNotV, wIfE, wChain, aNil, aCons, aStar, wLst, wTup, wIx, nIx, pNo, pSo, wSl, wRev, wRevE, mIndex, wLenSet, cRepr, wIsB, wCB, cLen, cAll, cSum, cMax, cMin, cSorted, cInt, cList, cTuple, cIsi, wBits, wLRg, wBM, wBM0, mChg, wDGet, wDIn, wDNew, sDPutD, wIn, nIn, wCall, wCallK, wNew, tYesD, startD, List.map_cons, List.map_nil, List.length_cons, List.length_nil, List.replicate, Nat.sub_self, List.append_nil, List.cons_append, List.nil_append, List.getElem?_cons_zero, List.getElem?_cons_succ, List.set_cons_zero, List.set_cons_succ, Nat.reduceSub, Nat.reduceAdd, ite_true, ite_false, if_true, if_false, Bool.false_eq_true, Bool.true_eq_false, Bool.not_true, Bool.not_false, Option.some.injEq, nrm_non, nrm_bl, nrm_int, nrm_str, nrm_ty, nrm_lst, nrm_tupC, nrm_dct, nrm_scr, nrm_setL, wFgt, tyN_non, tyN_bl, tyN_int, tyN_str, tyN_lst, tyN_tup, tyN_dct, keyD_int, keyD_str, isA, okT, beq_self_eq_true, String.reduceBEq, Bool.or_false, Bool.or_true, Bool.and_false, Bool.and_true, Bool.true_or, Bool.false_or, Bool.true_and, Bool.false_and, true_and, and_true, List.any_cons, List.any_nil, tyNames, Option.map_some, iRn1, iRn2, iRn3, iLst, nIt, iTp, iEn, iZp, iSt, wipeD, atI0, atI1, atI2, atI3, ixN0, ixN1, ixN2, ixN3, wSub, wLt, wLe, wGt, wGe, wDiv, wMod, wPow, wShl, Mp.set_same, Mp.set_set, cSortedA, cDictP, wNewD, wEqS, nEqS, wFrzT, mExt, mCnt, nIxL, sAugS, wSlS, wJoin, cSumL, dUnl, cSortLL, cMinLL, wLenSetT, wLenDictT, mIndexB, wLenSetJ, wAddT, wSortSet, wDNewT, sDPutT, cSortDT, wBMd, wDGet1, wDGet2, mUpd, wPairs, wDisp, wLtS, cMinS, cListD])
  refine ⟨.int other, 0, rfl, rfl, ?_⟩
  have ec : countD 0 (.int (other : Int)) = true := by unfold countD; rw [decide_eq_true_iff]; omega
  have e2 : decide ((n : Int) ≤ (other : Int)) = false := decide_eq_false (by omega)
  simp only [sRet, sRetN, sIf, sDrop, sNever, sNext, sBreak, sCont, sAsg, sPar, sPar3, sAug, dName, dNil, dCons, dTup, dSub, sSetL, wVar, wC, wFrz, wFrzK, wOp, wAdd, nAdd, nI, nI0, wMul, nMul, wNeg, wEq, nEq, wIsN, wB, wAndT, wOrT, wNotT, wAndV, wOrV, wNotV, wIfE, wChain, aNil, aCons, aStar, wLst, wTup, wIx, nIx, pNo, pSo, wSl, wRev, wRevE, mIndex, wLenSet, cRepr, wIsB, wCB, cLen, cAll, cSum, cMax, cMin, cSorted, cInt, cList, cTuple, cIsi, wBits, wLRg, wBM, wBM0, mChg, wDGet, wDIn, wDNew, sDPutD, wIn, nIn, wCall, wCallK, wNew, tYesD, startD, List.map_cons, List.map_nil, List.length_cons, List.length_nil, List.replicate, Nat.sub_self, List.append_nil, List.cons_append, List.nil_append, List.getElem?_cons_zero, List.getElem?_cons_succ, List.set_cons_zero, List.set_cons_succ, Nat.reduceSub, Nat.reduceAdd, ite_true, ite_false, if_true, if_false, Bool.false_eq_true, Bool.true_eq_false, Bool.not_true, Bool.not_false, Option.some.injEq, nrm_non, nrm_bl, nrm_int, nrm_str, nrm_ty, nrm_lst, nrm_tupC, nrm_dct, nrm_scr, nrm_setL, wFgt, tyN_non, tyN_bl, tyN_int, tyN_str, tyN_lst, tyN_tup, tyN_dct, keyD_int, keyD_str, isA, okT, beq_self_eq_true, String.reduceBEq, Bool.or_false, Bool.or_true, Bool.and_false, Bool.and_true, Bool.true_or, Bool.false_or, Bool.true_and, Bool.false_and, true_and, and_true, List.any_cons, List.any_nil, tyNames, Option.map_some, iRn1, iRn2, iRn3, iLst, nIt, iTp, iEn, iZp, iSt, wipeD, atI0, atI1, atI2, atI3, ixN0, ixN1, ixN2, ixN3, wSub, wLt, wLe, wGt, wGe, wDiv, wMod, wPow, wShl, Mp.set_same, Mp.set_set, cSortedA, cDictP, wNewD, wEqS, nEqS, wFrzT, mExt, mCnt, nIxL, sAugS, wSlS, wJoin, cSumL, dUnl, cSortLL, cMinLL, wLenSetT, wLenDictT, mIndexB, wLenSetJ, wAddT, wSortSet, wDNewT, sDPutT, cSortDT, wBMd, wDGet1, wDGet2, mUpd, wPairs, wDisp, wLtS, cMinS, cListD, ec, e2]
  refine ⟨n, one, rfl, h1, hn, fun p ks xs M2 hle hp hM2 hmap => ?_⟩
  simp only [sRet, sRetN, sIf, sDrop, sNever, sNext, sBreak, sCont, sAsg, sPar, sPar3, sAug, dName, dNil, dCons, dTup, dSub, sSetL, wVar, wC, wFrz, wFrzK, wOp, wAdd, nAdd, nI, nI0, wMul, nMul, wNeg, wEq, nEq, wIsN, wB, wAndT, wOrT, wNotT, wAndV, wOrV, wNotV, wIfE, wChain, aNil, aCons, aStar, wLst, wTup, wIx, nIx, pNo, pSo, wSl, wRev, wRevE, mIndex, wLenSet, cRepr, wIsB, wCB, cLen, cAll, cSum, cMax, cMin, cSorted, cInt, cList, cTuple, cIsi, wBits, wLRg, wBM, wBM0, mChg, wDGet, wDIn, wDNew, sDPutD, wIn, nIn, wCall, wCallK, wNew, tYesD, startD, List.map_cons, List.map_nil, List.length_cons, List.length_nil, List.replicate, Nat.sub_self, List.append_nil, List.cons_append, List.nil_append, List.getElem?_cons_zero, List.getElem?_cons_succ, List.set_cons_zero, List.set_cons_succ, Nat.reduceSub, Nat.reduceAdd, ite_true, ite_false, if_true, if_false, Bool.false_eq_true, Bool.true_eq_false, Bool.not_true, Bool.not_false, Option.some.injEq, nrm_non, nrm_bl, nrm_int, nrm_str, nrm_ty, nrm_lst, nrm_tupC, nrm_dct, nrm_scr, nrm_setL, wFgt, tyN_non, tyN_bl, tyN_int, tyN_str, tyN_lst, tyN_tup, tyN_dct, keyD_int, keyD_str, isA, okT, beq_self_eq_true, String.reduceBEq, Bool.or_false, Bool.or_true, Bool.and_false, Bool.and_true, Bool.true_or, Bool.false_or, Bool.true_and, Bool.false_and, true_and, and_true, List.any_cons, List.any_nil, tyNames, Option.map_some, iRn1, iRn2, iRn3, iLst, nIt, iTp, iEn, iZp, iSt, wipeD, atI0, atI1, atI2, atI3, ixN0, ixN1, ixN2, ixN3, wSub, wLt, wLe, wGt, wGe, wDiv, wMod, wPow, wShl, Mp.set_same, Mp.set_set, cSortedA, cDictP, wNewD, wEqS, nEqS, wFrzT, mExt, mCnt, nIxL, sAugS, wSlS, wJoin, cSumL, dUnl, cSortLL, cMinLL, wLenSetT, wLenDictT, mIndexB, wLenSetJ, wAddT, wSortSet, wDNewT, sDPutT, cSortDT, wBMd, wDGet1, wDGet2, mUpd, wPairs, wDisp, wLtS, cMinS, cListD, nrm_refD hM2]
  rw [hmap.2.2.2 other, hw]
  exact ⟨M, hle, q⟩
abbrev s_word_lengths : Stmt := topS 23
theorem sc_word_lengths : FnScope ["many", "one", "words", "place"] ["many", "one"] (defScope s_word_lengths) := ⟨rfl, rfl, rfl, by decide +kernel, rfl, by decide +kernel, by decide +kernel⟩
theorem ok_word_lengths {f : Addr} {fd : FuncData} (F : FnP K "word_lengths" s_word_lengths [] f fd)
    {f_check_many : Addr} {fd_check_many : FuncData} {ds_check_many : List Value} (G_check_many : Kn P w K mg base "check_many" ["many"] R_check_many 3 [] ds_check_many f_check_many fd_check_many)
    {f_check_place : Addr} {fd_check_place : FuncData} {ds_check_place : List Value} (G_check_place : Kn P w K mg base "check_place" ["many", "place"] R_check_place 3 [] ds_check_place f_check_place fd_check_place)
    {f_words_there : Addr} {fd_words_there : FuncData} {ds_words_there : List Value} (G_words_there : Kn P w K mg base "words_there" ["many", "one"] R_words_there 3 [] ds_words_there f_words_there fd_words_there)
    (m_range : mg "range" = none)
    (m_len : mg "len" = none) :
    FnG P w K mg base 4 f fd ["many", "one"] (spD R_word_lengths) := by
  have nd := sc_word_lengths.nd
  refine fnD (k := 3) F sc_word_lengths len_word_lengths fun cdv A outer s H E hr hq => ?_
  have hu := hu_of hr
  have hr65 := room65 hr
  have hr66 := room66 hr
  refine ⟨_, _, pss_cons (ps_expr (pe_callG (G_check_many.ok.mono (by decide)) hr hq (by rfl) G_check_many.m G_check_many.kp G_check_many.b G_check_many.dv (pa_cons (pv 0) (pa_nil))))
      (pss_cons (ps_expr (pe_callG (G_check_place.ok.mono (by decide)) hr hq (by rfl) G_check_place.m G_check_place.kp G_check_place.b G_check_place.dv (pa_cons (pv 0) (pa_cons (pv 1) (pa_nil)))))
      (pss_cons (ps_set (i := 2) nd rfl (by first | exact .inl rfl | exact .inr rfl) (pe_callG (G_words_there.ok.mono (by decide)) hr hq (by rfl) G_words_there.m G_words_there.kp G_words_there.b G_words_there.dv (pa_cons (pv 0) (pa_cons (pv 1) (pa_nil)))))
      (pss_one (ps_ret (pe_lc (own := [("place", 3)]) (by rfl) nd (pi_range1 (by rfl) m_range (pa_cons (pv 0) (pa_nil))) (blkOk_by (by kernel_rfl)) (fun _ _ _ _ _ => pg_name (i := 3) nd rfl (by first | exact .inl rfl | exact .inr rfl)) (fun _ _ _ _ _ => pts_nil) (fun _ _ _ _ _ => pe_callB call_lenA (by rfl) m_len (by decide +kernel) (pa_cons (pe_dget hu (pv 2) (pv 3) (fun _ _ => rfl)) (pa_nil)))))))),
    ts_seq (ts_drop (tr_call (ta_cons (tr_var (i := 0)) (ta_nil))))
      (ts_seq (ts_drop (tr_call (ta_cons (tr_var (i := 0)) (ta_cons (tr_var (i := 1)) (ta_nil)))))
      (ts_seq (ts_asg (tr_call (ta_cons (tr_var (i := 0)) (ta_cons (tr_var (i := 1)) (ta_nil)))) (tg_name (i := 2)))
      (ts_ret (tr_fgt (tr_lc (md := .own) (ti_rng1 (ta_cons (tr_var (i := 0)) (ta_nil))) (tc_name (i := 3) (by decide)) (tt_yes) (tr_cb ct_len (ta_cons (tr_dget (tr_var (i := 2)) (tr_var (i := 3))) (ta_nil)))))))), ?_⟩
  rintro ds M Q ⟨n, one, rfl, h1, hn, hw, q⟩
  ((try simp only [sSeq]); simp only [sRet, sRetN, sIf, sDrop, sNever, sNext, sBreak, sCont, sAsg, sPar, sPar3, sAug, dName, dNil, dCons, dTup, dSub, sSetL, wVar, wC, wFrz, wFrzK, wOp, wAdd, nAdd, nI, nI0, wMul, nMul, wNeg, wEq, nEq, wIsN, wB, wAndT, wOrT, wNotT, wAndV, wOrV, wNotV, wIfE, wChain, aNil, aCons, aStar, wLst, wTup, wIx, nIx, pNo, pSo, wSl, wRev, wRevE, mIndex, wLenSet, cRepr, wIsB, wCB, cLen, cAll, cSum, cMax, cMin, cSorted, cInt, cList, cTuple, cIsi, wBits, wLRg, wBM, wBM0, mChg, wDGet, wDIn, wDNew, sDPutD, wIn, nIn, wCall, wCallK, wNew, tYesD, startD, List.map_cons, List.map_nil, List.length_cons, List.length_nil, List.replicate, Nat.sub_self, List.append_nil, List.cons_append, List.nil_append, List.getElem?_cons_zero, List.getElem?_cons_succ, List.set_cons_zero, List.set_cons_succ, Nat.reduceSub, Nat.reduceAdd, ite_true, ite_false, if_true, if_false, Bool.false_eq_true, Bool.true_eq_false, Bool.not_true, Bool.not_false, Option.some.injEq, nrm_non, nrm_bl, nrm_int, nrm_str, nrm_ty, nrm_lst, nrm_tupC, nrm_dct, nrm_scr, nrm_setL, wFgt, tyN_non, tyN_bl, tyN_int, tyN_str, tyN_lst, tyN_tup, tyN_dct, keyD_int, keyD_str, isA, okT, beq_self_eq_true, String.reduceBEq, Bool.or_false, Bool.or_true, Bool.and_false, Bool.and_true, Bool.true_or, Bool.false_or, Bool.true_and, Bool.false_and, true_and, and_true, List.any_cons, List.any_nil, tyNames, Option.map_some, iRn1, iRn2, iRn3, iLst, nIt, iTp, iEn, iZp, iSt, wipeD, atI0, atI1, atI2, atI3, ixN0, ixN1, ixN2, ixN3, wSub, wLt, wLe, wGt, wGe, wDiv, wMod, wPow, wShl, Mp.set_same, Mp.set_set, cSortedA, cDictP, wNewD, wEqS, nEqS, wFrzT, mExt, mCnt, nIxL, sAugS, wSlS, wJoin, cSumL, dUnl, cSortLL, cMinLL, wLenSetT, wLenDictT, mIndexB, wLenSetJ, wAddT, wSortSet, wDNewT, sDPutT, cSortDT, wBMd, wDGet1, wDGet2, mUpd, wPairs, wDisp, wLtS, cMinS, cListD])
  refine ⟨n, rfl, by omega, ?_⟩
  ((try simp only [sSeq]); simp only [sRet, sRetN, sIf, sDrop, sNever, sNext, sBreak, sCont, sAsg, sPar, sPar3, sAug, dName, dNil, dCons, dTup, dSub, sSetL, wVar, wC, wFrz, wFrzK, wOp, wAdd, nAdd, nI, nI0, wMul, nMul, wNeg, wEq, nEq, wIsN, wB, wAndT, wOrT, wNotT, wAndV, wOrV, wNotV, wIfE, wChain, aNil, aCons, aStar, wLst, wTup, wIx, nIx, pNo, pSo, wSl, wRev, wRevE, mIndex, wLenSet, cRepr, wIsB, wCB, cLen, cAll, cSum, cMax, cMin, cSorted, cInt, cList, cTuple, cIsi, wBits, wLRg, wBM, wBM0, mChg, wDGet, wDIn, wDNew, sDPutD, wIn, nIn, wCall, wCallK, wNew, tYesD, startD, List.map_cons, List.map_nil, List.length_cons, List.length_nil, List.replicate, Nat.sub_self, List.append_nil, List.cons_append, List.nil_append, List.getElem?_cons_zero, List.getElem?_cons_succ, List.set_cons_zero, List.set_cons_succ, Nat.reduceSub, Nat.reduceAdd, ite_true, ite_false, if_true, if_false, Bool.false_eq_true, Bool.true_eq_false, Bool.not_true, Bool.not_false, Option.some.injEq, nrm_non, nrm_bl, nrm_int, nrm_str, nrm_ty, nrm_lst, nrm_tupC, nrm_dct, nrm_scr, nrm_setL, wFgt, tyN_non, tyN_bl, tyN_int, tyN_str, tyN_lst, tyN_tup, tyN_dct, keyD_int, keyD_str, isA, okT, beq_self_eq_true, String.reduceBEq, Bool.or_false, Bool.or_true, Bool.and_false, Bool.and_true, Bool.true_or, Bool.false_or, Bool.true_and, Bool.false_and, true_and, and_true, List.any_cons, List.any_nil, tyNames, Option.map_some, iRn1, iRn2, iRn3, iLst, nIt, iTp, iEn, iZp, iSt, wipeD, atI0, atI1, atI2, atI3, ixN0, ixN1, ixN2, ixN3, wSub, wLt, wLe, wGt, wGe, wDiv, wMod, wPow, wShl, Mp.set_same, Mp.set_set, cSortedA, cDictP, wNewD, wEqS, nEqS, wFrzT, mExt, mCnt, nIxL, sAugS, wSlS, wJoin, cSumL, dUnl, cSortLL, cMinLL, wLenSetT, wLenDictT, mIndexB, wLenSetJ, wAddT, wSortSet, wDNewT, sDPutT, cSortDT, wBMd, wDGet1, wDGet2, mUpd, wPairs, wDisp, wLtS, cMinS, cListD])
  refine ⟨n, one, rfl, by omega, by omega, ?_⟩
  ((try simp only [sSeq]); simp only [sRet, sRetN, sIf, sDrop, sNever, sNext, sBreak, sCont, sAsg, sPar, sPar3, sAug, dName, dNil, dCons, dTup, dSub, sSetL, wVar, wC, wFrz, wFrzK, wOp, wAdd, nAdd, nI, nI0, wMul, nMul, wNeg, wEq, nEq, wIsN, wB, wAndT, wOrT, wNotT, wAndV, wOrV, wNotV, wIfE, wChain, aNil, aCons, aStar, wLst, wTup, wIx, nIx, pNo, pSo, wSl, wRev, wRevE, mIndex, wLenSet, cRepr, wIsB, wCB, cLen, cAll, cSum, cMax, cMin, cSorted, cInt, cList, cTuple, cIsi, wBits, wLRg, wBM, wBM0, mChg, wDGet, wDIn, wDNew, sDPutD, wIn, nIn, wCall, wCallK, wNew, tYesD, startD, List.map_cons, List.map_nil, List.length_cons, List.length_nil, List.replicate, Nat.sub_self, List.append_nil, List.cons_append, List.nil_append, List.getElem?_cons_zero, List.getElem?_cons_succ, List.set_cons_zero, List.set_cons_succ, Nat.reduceSub, Nat.reduceAdd, ite_true, ite_false, if_true, if_false, Bool.false_eq_true, Bool.true_eq_false, Bool.not_true, Bool.not_false, Option.some.injEq, nrm_non, nrm_bl, nrm_int, nrm_str, nrm_ty, nrm_lst, nrm_tupC, nrm_dct, nrm_scr, nrm_setL, wFgt, tyN_non, tyN_bl, tyN_int, tyN_str, tyN_lst, tyN_tup, tyN_dct, keyD_int, keyD_str, isA, okT, beq_self_eq_true, String.reduceBEq, Bool.or_false, Bool.or_true, Bool.and_false, Bool.and_true, Bool.true_or, Bool.false_or, Bool.true_and, Bool.false_and, true_and, and_true, List.any_cons, List.any_nil, tyNames, Option.map_some, iRn1, iRn2, iRn3, iLst, nIt, iTp, iEn, iZp, iSt, wipeD, atI0, atI1, atI2, atI3, ixN0, ixN1, ixN2, ixN3, wSub, wLt, wLe, wGt, wGe, wDiv, wMod, wPow, wShl, Mp.set_same, Mp.set_set, cSortedA, cDictP, wNewD, wEqS, nEqS, wFrzT, mExt, mCnt, nIxL, sAugS, wSlS, wJoin, cSumL, dUnl, cSortLL, cMinLL, wLenSetT, wLenDictT, mIndexB, wLenSetJ, wAddT, wSortSet, wDNewT, sDPutT, cSortDT, wBMd, wDGet1, wDGet2, mUpd, wPairs, wDisp, wLtS, cMinS, cListD])
  refine ⟨n, one, rfl, h1, hn, fun p ks xs M2 hle hp hM2 hmap => ?_⟩
  refine lc_ints (ns := rngI 0 1 n) (P := fun _ => True) (fun q => (((wordsW n one q.toNat).getD []).length : Int)) (fun R h => ?_) trivial (by rw [rngI_length]; unfold Sz; omega) (fun k hk C h => ?_) ?_
  · simp only [sSeq, sRet, sRetN, sIf, sDrop, sNever, sNext, sBreak, sCont, sAsg, sPar, sPar3, sAug, dName, dNil, dCons, dTup, dSub, sSetL, wVar, wC, wFrz, wFrzK, wOp, wAdd, nAdd, nI, nI0, wMul, nMul, wNeg, wEq, nEq, wIsN, wB, wAndT, wOrT, wNotT, wAndV, wOrV, wNotV, wIfE, wChain, aNil, aCons, aStar, wLst, wTup, wIx, nIx, pNo, pSo, wSl, wRev, wRevE, mIndex, wLenSet, cRepr, wIsB, wCB, cLen, cAll, cSum, cMax, cMin, cSorted, cInt, cList, cTuple, cIsi, wBits, wLRg, wBM, wBM0, mChg, wDGet, wDIn, wDNew, sDPutD, wIn, nIn, wCall, wCallK, wNew, tYesD, startD, List.map_cons, List.map_nil, List.length_cons, List.length_nil, List.replicate, Nat.sub_self, List.append_nil, List.cons_append, List.nil_append, List.getElem?_cons_zero, List.getElem?_cons_succ, List.set_cons_zero, List.set_cons_succ, Nat.reduceSub, Nat.reduceAdd, ite_true, ite_false, if_true, if_false, Bool.false_eq_true, Bool.true_eq_false, Bool.not_true, Bool.not_false, Option.some.injEq, nrm_non, nrm_bl, nrm_int, nrm_str, nrm_ty, nrm_lst, nrm_tupC, nrm_dct, nrm_scr, nrm_setL, wFgt, tyN_non, tyN_bl, tyN_int, tyN_str, tyN_lst, tyN_tup, tyN_dct, keyD_int, keyD_str, isA, okT, beq_self_eq_true, String.reduceBEq, Bool.or_false, Bool.or_true, Bool.and_false, Bool.and_true, Bool.true_or, Bool.false_or, Bool.true_and, Bool.false_and, true_and, and_true, List.any_cons, List.any_nil, tyNames, Option.map_some, iRn1, iRn2, iRn3, iLst, nIt, iTp, iEn, iZp, iSt, wipeD, atI0, atI1, atI2, atI3, ixN0, ixN1, ixN2, ixN3, wSub, wLt, wLe, wGt, wGe, wDiv, wMod, wPow, wShl, Mp.set_same, Mp.set_set, cSortedA, cDictP, wNewD, wEqS, nEqS, wFrzT, mExt, mCnt, nIxL, sAugS, wSlS, wJoin, cSumL, dUnl, cSortLL, cMinLL, wLenSetT, wLenDictT, mIndexB, wLenSetJ, wAddT, wSortSet, wDNewT, sDPutT, cSortDT, wBMd, wDGet1, wDGet2, mUpd, wPairs, wDisp, wLtS, cMinS, cListD]
    exact ⟨⟨by omega, by omega⟩, by rw [rngD_ints, Int.toNat_natCast]; exact h⟩
  · have hk2 := mem_rngI.mp hk
    obtain ⟨k, rfl⟩ := Int.eq_ofNat_of_zero_le hk2.1
    rw [Int.toNat_natCast] at h
    obtain ⟨w, hw2⟩ := Option.isSome_iff_exists.mp (hw k (by omega))
    rw [hw2] at h
    simp only [sSeq, sRet, sRetN, sIf, sDrop, sNever, sNext, sBreak, sCont, sAsg, sPar, sPar3, sAug, dName, dNil, dCons, dTup, dSub, sSetL, wVar, wC, wFrz, wFrzK, wOp, wAdd, nAdd, nI, nI0, wMul, nMul, wNeg, wEq, nEq, wIsN, wB, wAndT, wOrT, wNotT, wAndV, wOrV, wNotV, wIfE, wChain, aNil, aCons, aStar, wLst, wTup, wIx, nIx, pNo, pSo, wSl, wRev, wRevE, mIndex, wLenSet, cRepr, wIsB, wCB, cLen, cAll, cSum, cMax, cMin, cSorted, cInt, cList, cTuple, cIsi, wBits, wLRg, wBM, wBM0, mChg, wDGet, wDIn, wDNew, sDPutD, wIn, nIn, wCall, wCallK, wNew, tYesD, startD, List.map_cons, List.map_nil, List.length_cons, List.length_nil, List.replicate, Nat.sub_self, List.append_nil, List.cons_append, List.nil_append, List.getElem?_cons_zero, List.getElem?_cons_succ, List.set_cons_zero, List.set_cons_succ, Nat.reduceSub, Nat.reduceAdd, ite_true, ite_false, if_true, if_false, Bool.false_eq_true, Bool.true_eq_false, Bool.not_true, Bool.not_false, Option.some.injEq, nrm_non, nrm_bl, nrm_int, nrm_str, nrm_ty, nrm_lst, nrm_tupC, nrm_dct, nrm_scr, nrm_setL, wFgt, tyN_non, tyN_bl, tyN_int, tyN_str, tyN_lst, tyN_tup, tyN_dct, keyD_int, keyD_str, isA, okT, beq_self_eq_true, String.reduceBEq, Bool.or_false, Bool.or_true, Bool.and_false, Bool.and_true, Bool.true_or, Bool.false_or, Bool.true_and, Bool.false_and, true_and, and_true, List.any_cons, List.any_nil, tyNames, Option.map_some, iRn1, iRn2, iRn3, iLst, nIt, iTp, iEn, iZp, iSt, wipeD, atI0, atI1, atI2, atI3, ixN0, ixN1, ixN2, ixN3, wSub, wLt, wLe, wGt, wGe, wDiv, wMod, wPow, wShl, Mp.set_same, Mp.set_set, cSortedA, cDictP, wNewD, wEqS, nEqS, wFrzT, mExt, mCnt, nIxL, sAugS, wSlS, wJoin, cSumL, dUnl, cSortLL, cMinLL, wLenSetT, wLenDictT, mIndexB, wLenSetJ, wAddT, wSortSet, wDNewT, sDPutT, cSortDT, wBMd, wDGet1, wDGet2, mUpd, wPairs, wDisp, wLtS, cMinS, cListD, nrm_refD hM2]
    rw [hmap.2.2.2 k, hw2]
    have hwl := wordsW_len hw2
    show Sz (wordS w).length ∧ C (.int ((wordS w).length : Nat)) M2
    rw [word_len]
    exact ⟨by unfold Sz; omega, h⟩
  · intro a ha
    refine ⟨M.set a (.lst ((lensW n one).map .int)), ?_, q a (hle.none ha)⟩
    exact MLe.set2 hle
abbrev s_law_exact : Stmt := topS 29
theorem sc_law_exact : FnScope ["mine", "theirs", "is_list", "is_like", "a", "b", "key"] ["mine", "theirs"] (defScope s_law_exact) := ⟨rfl, rfl, rfl, by decide +kernel, rfl, by decide +kernel, by decide +kernel⟩
theorem ok_law_exact (n : Nat) {f : Addr} {fd : FuncData} (F : FnP K "_law_exact" s_law_exact [] f fd)
    (m_isinstance : mg "isinstance" = none)
    (m_tuple : mg "tuple" = none)
    (m_list : mg "list" = none)
    (m_len : mg "len" = none)
    (m_all : mg "all" = none)
    (m_zip : mg "zip" = none)
    (m_dict : mg "dict" = none)
    (m_int : mg "int" = none)
    (m_str : mg "str" = none)
    (m_bool : mg "bool" = none)
    (mf : mg "_law_exact" = some (.ref f)) (bf : Binds K fd ["mine", "theirs"] []) :
    FnG P w K mg base (1 + n) f fd ["mine", "theirs"] (spD (Rn_law_exact n)) := by
  have nd := sc_law_exact.nd
  induction n with
  | zero => exact fnNever never_law_exact
  | succ n ih =>
  have G_law_exact : Kn P w K mg base "_law_exact" ["mine", "theirs"] (Rn_law_exact n) (1 + n) [] [] f fd := ⟨ih, mf, F.kp, bf, .nil⟩
  refine fnD (k := 1 + n) F sc_law_exact (len_law_exact (n + 1)) fun cdv A outer s H E hr hq => ?_
  have hu := hu_of hr
  have hr65 := room65 hr
  have hr66 := room66 hr
  refine ⟨_, _, pss_cons (ps_if (pt_val (pe_callB call_isiA (by rfl) m_isinstance (by decide +kernel) (pa_cons (pv 0) (pa_cons (pe_tup (pa_cons (pe_bltn (v := .ty "list") (by rfl) m_list (by decide +kernel) rfl) (pa_cons (pe_bltn (v := .ty "tuple") (by rfl) m_tuple (by decide +kernel) rfl) (pa_nil)))) (pa_nil))))) (pss_cons (ps_set (i := 2) nd rfl (by first | exact .inl rfl | exact .inr rfl) (pe_cmpR (op_eqD hr.units) (pe_callB call_isiA (by rfl) m_isinstance (by decide +kernel) (pa_cons (pv 1) (pa_cons (pe_bltn (v := .ty "list") (by rfl) m_list (by decide +kernel) rfl) (pa_nil)))) (pe_callB call_isiA (by rfl) m_isinstance (by decide +kernel) (pa_cons (pv 0) (pa_cons (pe_bltn (v := .ty "list") (by rfl) m_list (by decide +kernel) rfl) (pa_nil)))) (nomark _)))
      (pss_cons (ps_set (i := 3) nd rfl (by first | exact .inl rfl | exact .inr rfl) (pe_and (pv 2) (pe_one (pe_cmpR (op_eqD hr.units) (pe_callB call_isiA (by rfl) m_isinstance (by decide +kernel) (pa_cons (pv 1) (pa_cons (pe_bltn (v := .ty "tuple") (by rfl) m_tuple (by decide +kernel) rfl) (pa_nil)))) (pe_callB call_isiA (by rfl) m_isinstance (by decide +kernel) (pa_cons (pv 0) (pa_cons (pe_bltn (v := .ty "tuple") (by rfl) m_tuple (by decide +kernel) rfl) (pa_nil)))) (nomark _)))))
      (pss_one (ps_ret (pe_and (pv 3) (pe_and (pe_cmpR (op_eqD hr.units) (pe_callB call_lenA (by rfl) m_len (by decide +kernel) (pa_cons (pv 0) (pa_nil))) (pe_callB call_lenA (by rfl) m_len (by decide +kernel) (pa_cons (pv 1) (pa_nil))) (nomark _)) (pe_one (pe_callB (cr_all rfl) (by rfl) m_all (by decide +kernel) (pa_cons (pe_lc (own := [("a", 4), ("b", 5)]) (by rfl) nd (RZ.pi_zipA (by rfl) m_zip (pa_cons (pv 0) (pa_cons (pv 1) (pa_nil)))) (blkOk_by (by kernel_rfl)) (fun _ _ _ _ _ => pg_tup (n := 2) rfl (pgs_cons (pg_name (i := 4) nd rfl (by first | exact .inl rfl | exact .inr rfl)) (pgs_cons (pg_name (i := 5) nd rfl (by first | exact .inl rfl | exact .inr rfl)) (pgs_nil)))) (fun _ _ _ _ _ => pts_nil) (fun _ _ _ _ _ => pe_callG (G_law_exact.ok.mono (by omega)) hr hq (by rfl) G_law_exact.m G_law_exact.kp G_law_exact.b G_law_exact.dv (pa_cons (pv 4) (pa_cons (pv 5) (pa_nil))))) (pa_nil)))))))))) (pss_nil))
      (pss_cons (ps_if (pt_val (pe_callB call_isiA (by rfl) m_isinstance (by decide +kernel) (pa_cons (pv 0) (pa_cons (pe_bltn (v := .ty "dict") (by rfl) m_dict (by decide +kernel) rfl) (pa_nil))))) (pss_cons (ps_set (i := 3) nd rfl (by first | exact .inl rfl | exact .inr rfl) (pe_and (pe_callB call_isiA (by rfl) m_isinstance (by decide +kernel) (pa_cons (pv 1) (pa_cons (pe_bltn (v := .ty "dict") (by rfl) m_dict (by decide +kernel) rfl) (pa_nil)))) (pe_and (pe_cmpR (op_eqD hr.units) (pe_callB call_lenA (by rfl) m_len (by decide +kernel) (pa_cons (pv 0) (pa_nil))) (pe_callB call_lenA (by rfl) m_len (by decide +kernel) (pa_cons (pv 1) (pa_nil))) (nomark _)) (pe_one (pe_cmpR (op_eqD hr.units) (pe_lc (own := [("key", 6)]) (by rfl) nd (pi_list (pv 0)) (blkOk_by (by kernel_rfl)) (fun _ _ _ _ _ => pg_name (i := 6) nd rfl (by first | exact .inl rfl | exact .inr rfl)) (fun _ _ _ _ _ => pts_one (pt_cmpR (op_notInA hr65) (pv 6) (pv 1) (by rfl))) (fun _ _ _ _ _ => pv 6)) (pe_lst (pa_nil)) (nomark _))))))
      (pss_one (ps_ret (pe_and (pv 3) (pe_one (pe_callB (cr_all rfl) (by rfl) m_all (by decide +kernel) (pa_cons (pe_lc (own := [("key", 6)]) (by rfl) nd (pi_list (pv 0)) (blkOk_by (by kernel_rfl)) (fun _ _ _ _ _ => pg_name (i := 6) nd rfl (by first | exact .inl rfl | exact .inr rfl)) (fun _ _ _ _ _ => pts_nil) (fun _ _ _ _ _ => pe_callG (G_law_exact.ok.mono (by omega)) hr hq (by rfl) G_law_exact.m G_law_exact.kp G_law_exact.b G_law_exact.dv (pa_cons (pe_ix ix_seq (pv 0) (pv 6) (fun _ _ => rfl)) (pa_cons (pe_ix ix_seq (pv 1) (pv 6) (fun _ _ => rfl)) (pa_nil))))) (pa_nil)))))))) (pss_nil))
      (pss_cons (ps_if (PW.pt (pw_or (pt_val (pe_callB call_isiA (by rfl) m_isinstance (by decide +kernel) (pa_cons (pv 1) (pa_cons (pe_tup (pa_cons (pe_bltn (v := .ty "list") (by rfl) m_list (by decide +kernel) rfl) (pa_cons (pe_bltn (v := .ty "tuple") (by rfl) m_tuple (by decide +kernel) rfl) (pa_cons (pe_bltn (v := .ty "dict") (by rfl) m_dict (by decide +kernel) rfl) (pa_nil))))) (pa_nil))))) (pw_or1 (pt_cmpR (op_neD hr.units) (pe_cmp (pc_isN (pv 0))) (pe_cmp (pc_isN (pv 1))) (nomark _))))) (pss_one (ps_ret (pe_bl))) (pss_nil))
      (pss_cons (ps_set (i := 3) nd rfl (by first | exact .inl rfl | exact .inr rfl) (pe_and (pe_cmpR (op_eqD hr.units) (pe_callB call_isiA (by rfl) m_isinstance (by decide +kernel) (pa_cons (pv 0) (pa_cons (pe_bltn (v := .ty "int") (by rfl) m_int (by decide +kernel) rfl) (pa_nil)))) (pe_callB call_isiA (by rfl) m_isinstance (by decide +kernel) (pa_cons (pv 1) (pa_cons (pe_bltn (v := .ty "int") (by rfl) m_int (by decide +kernel) rfl) (pa_nil)))) (nomark _)) (pe_one (pe_cmpR (op_eqD hr.units) (pe_callB call_isiA (by rfl) m_isinstance (by decide +kernel) (pa_cons (pv 0) (pa_cons (pe_bltn (v := .ty "str") (by rfl) m_str (by decide +kernel) rfl) (pa_nil)))) (pe_callB call_isiA (by rfl) m_isinstance (by decide +kernel) (pa_cons (pv 1) (pa_cons (pe_bltn (v := .ty "str") (by rfl) m_str (by decide +kernel) rfl) (pa_nil)))) (nomark _)))))
      (pss_one (ps_ret (pe_and (pv 3) (pe_and (pe_cmpR (op_eqD hr.units) (pe_callB call_isiA (by rfl) m_isinstance (by decide +kernel) (pa_cons (pv 0) (pa_cons (pe_bltn (v := .ty "bool") (by rfl) m_bool (by decide +kernel) rfl) (pa_nil)))) (pe_callB call_isiA (by rfl) m_isinstance (by decide +kernel) (pa_cons (pv 1) (pa_cons (pe_bltn (v := .ty "bool") (by rfl) m_bool (by decide +kernel) rfl) (pa_nil)))) (nomark _)) (pe_one (pe_cmpR (op_eqD hr.units) (pv 0) (pv 1) (nomark _)))))))))),
    ts_seq (ts_if (tt_B (tr_cb ct_isi (ta_cons (tr_var (i := 0)) (ta_cons (tr_tup (ta_cons (tr_ty) (ta_cons (tr_ty) (ta_nil)))) (ta_nil))))) (ts_seq (ts_asg (tr_op ot_eq (tr_cb ct_isi (ta_cons (tr_var (i := 1)) (ta_cons (tr_ty) (ta_nil)))) (tr_cb ct_isi (ta_cons (tr_var (i := 0)) (ta_cons (tr_ty) (ta_nil))))) (tg_name (i := 2)))
      (ts_seq (ts_asg (tr_and (tr_var (i := 2)) (tr_op ot_eq (tr_cb ct_isi (ta_cons (tr_var (i := 1)) (ta_cons (tr_ty) (ta_nil)))) (tr_cb ct_isi (ta_cons (tr_var (i := 0)) (ta_cons (tr_ty) (ta_nil)))))) (tg_name (i := 3)))
      (ts_ret (tr_and (tr_var (i := 3)) (tr_and (tr_op ot_eq (tr_cb ct_len (ta_cons (tr_var (i := 0)) (ta_nil))) (tr_cb ct_len (ta_cons (tr_var (i := 1)) (ta_nil)))) (tr_cb ct_all (ta_cons (tr_lc (md := .frz) (ti_zip (ta_cons (tr_var (i := 0)) (ta_cons (tr_var (i := 1)) (ta_nil)))) (tc_tup (n := 2) (tcs_cons (tc_name (i := 4) (by decide)) (tcs_cons (tc_name (i := 5) (by decide)) (tcs_nil)))) (tt_yes) (tr_call (ta_cons (tr_var (i := 4)) (ta_cons (tr_var (i := 5)) (ta_nil))))) (ta_nil)))))))) (ts_next))
      (ts_seq (ts_if (tt_B (tr_cb ct_isi (ta_cons (tr_var (i := 0)) (ta_cons (tr_ty) (ta_nil))))) (ts_seq (ts_asg (tr_and (tr_cb ct_isi (ta_cons (tr_var (i := 1)) (ta_cons (tr_ty) (ta_nil)))) (tr_and (tr_op ot_eq (tr_cb ct_len (ta_cons (tr_var (i := 0)) (ta_nil))) (tr_cb ct_len (ta_cons (tr_var (i := 1)) (ta_nil)))) (tr_op ot_eq (tr_lc (md := .frz) (ti_list (tr_var (i := 0))) (tc_name (i := 6) (by decide)) (tt_test (tr_op ot_notin (tr_var (i := 6)) (tr_var (i := 1)))) (tr_var (i := 6))) (tr_lst (md := .frz) (ta_nil))))) (tg_name (i := 3)))
      (ts_ret (tr_and (tr_var (i := 3)) (tr_cb ct_all (ta_cons (tr_lc (md := .frz) (ti_list (tr_var (i := 0))) (tc_name (i := 6) (by decide)) (tt_yes) (tr_call (ta_cons (tr_op ot_ix (tr_var (i := 0)) (tr_var (i := 6))) (ta_cons (tr_op ot_ix (tr_var (i := 1)) (tr_var (i := 6))) (ta_nil))))) (ta_nil)))))) (ts_next))
      (ts_seq (ts_if (tt_or (tt_B (tr_cb ct_isi (ta_cons (tr_var (i := 1)) (ta_cons (tr_tup (ta_cons (tr_ty) (ta_cons (tr_ty) (ta_cons (tr_ty) (ta_nil))))) (ta_nil))))) (tt_test (tr_op ot_ne (tr_isN (tr_var (i := 0))) (tr_isN (tr_var (i := 1)))))) (ts_ret (tr_bl)) (ts_next))
      (ts_seq (ts_asg (tr_and (tr_op ot_eq (tr_cb ct_isi (ta_cons (tr_var (i := 0)) (ta_cons (tr_ty) (ta_nil)))) (tr_cb ct_isi (ta_cons (tr_var (i := 1)) (ta_cons (tr_ty) (ta_nil))))) (tr_op ot_eq (tr_cb ct_isi (ta_cons (tr_var (i := 0)) (ta_cons (tr_ty) (ta_nil)))) (tr_cb ct_isi (ta_cons (tr_var (i := 1)) (ta_cons (tr_ty) (ta_nil)))))) (tg_name (i := 3)))
      (ts_ret (tr_and (tr_var (i := 3)) (tr_and (tr_op ot_eq (tr_cb ct_isi (ta_cons (tr_var (i := 0)) (ta_cons (tr_ty) (ta_nil)))) (tr_cb ct_isi (ta_cons (tr_var (i := 1)) (ta_cons (tr_ty) (ta_nil))))) (tr_op ot_eq (tr_var (i := 0)) (tr_var (i := 1))))))))), ?_⟩
  rintro ds M Q ⟨d, rfl, hk, q⟩
  have s2 : Sz 2 := by unfold Sz; omega
  have s3 : Sz 3 := by unfold Sz; omega
  cases d with
  | int i => simp only [sSeq, sRet, sRetN, sIf, sDrop, sNever, sNext, sBreak, sCont, sAsg, sPar, sPar3, sAug, dName, dNil, dCons, dTup, dSub, sSetL, wVar, wC, wFrz, wFrzK, wOp, wAdd, nAdd, nI, nI0, wMul, nMul, wNeg, wEq, nEq, wIsN, wB, wAndT, wOrT, wNotT, wAndV, wOrV, wNotV, wIfE, wChain, aNil, aCons, aStar, wLst, wTup, wIx, nIx, pNo, pSo, wSl, wRev, wRevE, mIndex, wLenSet, cRepr, wIsB, wCB, cLen, cAll, cSum, cMax, cMin, cSorted, cInt, cList, cTuple, cIsi, wBits, wLRg, wBM, wBM0, mChg, wDGet, wDIn, wDNew, sDPutD, wIn, nIn, wCall, wCallK, wNew, tYesD, startD, List.map_cons, List.map_nil, List.length_cons, List.length_nil, List.replicate, Nat.sub_self, List.append_nil, List.cons_append, List.nil_append, List.getElem?_cons_zero, List.getElem?_cons_succ, List.set_cons_zero, List.set_cons_succ, Nat.reduceSub, Nat.reduceAdd, ite_true, ite_false, if_true, if_false, Bool.false_eq_true, Bool.true_eq_false, Bool.not_true, Bool.not_false, Option.some.injEq, nrm_non, nrm_bl, nrm_int, nrm_str, nrm_ty, nrm_lst, nrm_tupC, nrm_dct, nrm_scr, nrm_setL, wFgt, tyN_non, tyN_bl, tyN_int, tyN_str, tyN_lst, tyN_tup, tyN_dct, keyD_int, keyD_str, isA, okT, beq_self_eq_true, String.reduceBEq, Bool.or_false, Bool.or_true, Bool.and_false, Bool.and_true, Bool.true_or, Bool.false_or, Bool.true_and, Bool.false_and, true_and, and_true, List.any_cons, List.any_nil, tyNames, Option.map_some, iRn1, iRn2, iRn3, iLst, nIt, iTp, iEn, iZp, iSt, wipeD, atI0, atI1, atI2, atI3, ixN0, ixN1, ixN2, ixN3, wSub, wLt, wLe, wGt, wGe, wDiv, wMod, wPow, wShl, Mp.set_same, Mp.set_set, cSortedA, cDictP, wNewD, wEqS, nEqS, wFrzT, mExt, mCnt, nIxL, sAugS, wSlS, wJoin, cSumL, dUnl, cSortLL, cMinLL, wLenSetT, wLenDictT, mIndexB, wLenSetJ, wAddT, wSortSet, wDNewT, sDPutT, cSortDT, wBMd, wDGet1, wDGet2, mUpd, wPairs, wDisp, wLtS, cMinS, cListD, pdOk_bl, deq_bl, BEq.rfl, decide_true]; exact ⟨s2, s3, q⟩
  | bl b => simp only [sSeq, sRet, sRetN, sIf, sDrop, sNever, sNext, sBreak, sCont, sAsg, sPar, sPar3, sAug, dName, dNil, dCons, dTup, dSub, sSetL, wVar, wC, wFrz, wFrzK, wOp, wAdd, nAdd, nI, nI0, wMul, nMul, wNeg, wEq, nEq, wIsN, wB, wAndT, wOrT, wNotT, wAndV, wOrV, wNotV, wIfE, wChain, aNil, aCons, aStar, wLst, wTup, wIx, nIx, pNo, pSo, wSl, wRev, wRevE, mIndex, wLenSet, cRepr, wIsB, wCB, cLen, cAll, cSum, cMax, cMin, cSorted, cInt, cList, cTuple, cIsi, wBits, wLRg, wBM, wBM0, mChg, wDGet, wDIn, wDNew, sDPutD, wIn, nIn, wCall, wCallK, wNew, tYesD, startD, List.map_cons, List.map_nil, List.length_cons, List.length_nil, List.replicate, Nat.sub_self, List.append_nil, List.cons_append, List.nil_append, List.getElem?_cons_zero, List.getElem?_cons_succ, List.set_cons_zero, List.set_cons_succ, Nat.reduceSub, Nat.reduceAdd, ite_true, ite_false, if_true, if_false, Bool.false_eq_true, Bool.true_eq_false, Bool.not_true, Bool.not_false, Option.some.injEq, nrm_non, nrm_bl, nrm_int, nrm_str, nrm_ty, nrm_lst, nrm_tupC, nrm_dct, nrm_scr, nrm_setL, wFgt, tyN_non, tyN_bl, tyN_int, tyN_str, tyN_lst, tyN_tup, tyN_dct, keyD_int, keyD_str, isA, okT, beq_self_eq_true, String.reduceBEq, Bool.or_false, Bool.or_true, Bool.and_false, Bool.and_true, Bool.true_or, Bool.false_or, Bool.true_and, Bool.false_and, true_and, and_true, List.any_cons, List.any_nil, tyNames, Option.map_some, iRn1, iRn2, iRn3, iLst, nIt, iTp, iEn, iZp, iSt, wipeD, atI0, atI1, atI2, atI3, ixN0, ixN1, ixN2, ixN3, wSub, wLt, wLe, wGt, wGe, wDiv, wMod, wPow, wShl, Mp.set_same, Mp.set_set, cSortedA, cDictP, wNewD, wEqS, nEqS, wFrzT, mExt, mCnt, nIxL, sAugS, wSlS, wJoin, cSumL, dUnl, cSortLL, cMinLL, wLenSetT, wLenDictT, mIndexB, wLenSetJ, wAddT, wSortSet, wDNewT, sDPutT, cSortDT, wBMd, wDGet1, wDGet2, mUpd, wPairs, wDisp, wLtS, cMinS, cListD, pdOk_bl, deq_bl, BEq.rfl]; exact ⟨s2, s3, q⟩
  | non => simp only [sSeq, sRet, sRetN, sIf, sDrop, sNever, sNext, sBreak, sCont, sAsg, sPar, sPar3, sAug, dName, dNil, dCons, dTup, dSub, sSetL, wVar, wC, wFrz, wFrzK, wOp, wAdd, nAdd, nI, nI0, wMul, nMul, wNeg, wEq, nEq, wIsN, wB, wAndT, wOrT, wNotT, wAndV, wOrV, wNotV, wIfE, wChain, aNil, aCons, aStar, wLst, wTup, wIx, nIx, pNo, pSo, wSl, wRev, wRevE, mIndex, wLenSet, cRepr, wIsB, wCB, cLen, cAll, cSum, cMax, cMin, cSorted, cInt, cList, cTuple, cIsi, wBits, wLRg, wBM, wBM0, mChg, wDGet, wDIn, wDNew, sDPutD, wIn, nIn, wCall, wCallK, wNew, tYesD, startD, List.map_cons, List.map_nil, List.length_cons, List.length_nil, List.replicate, Nat.sub_self, List.append_nil, List.cons_append, List.nil_append, List.getElem?_cons_zero, List.getElem?_cons_succ, List.set_cons_zero, List.set_cons_succ, Nat.reduceSub, Nat.reduceAdd, ite_true, ite_false, if_true, if_false, Bool.false_eq_true, Bool.true_eq_false, Bool.not_true, Bool.not_false, Option.some.injEq, nrm_non, nrm_bl, nrm_int, nrm_str, nrm_ty, nrm_lst, nrm_tupC, nrm_dct, nrm_scr, nrm_setL, wFgt, tyN_non, tyN_bl, tyN_int, tyN_str, tyN_lst, tyN_tup, tyN_dct, keyD_int, keyD_str, isA, okT, beq_self_eq_true, String.reduceBEq, Bool.or_false, Bool.or_true, Bool.and_false, Bool.and_true, Bool.true_or, Bool.false_or, Bool.true_and, Bool.false_and, true_and, and_true, List.any_cons, List.any_nil, tyNames, Option.map_some, iRn1, iRn2, iRn3, iLst, nIt, iTp, iEn, iZp, iSt, wipeD, atI0, atI1, atI2, atI3, ixN0, ixN1, ixN2, ixN3, wSub, wLt, wLe, wGt, wGe, wDiv, wMod, wPow, wShl, Mp.set_same, Mp.set_set, cSortedA, cDictP, wNewD, wEqS, nEqS, wFrzT, mExt, mCnt, nIxL, sAugS, wSlS, wJoin, cSumL, dUnl, cSortLL, cMinLL, wLenSetT, wLenDictT, mIndexB, wLenSetJ, wAddT, wSortSet, wDNewT, sDPutT, cSortDT, wBMd, wDGet1, wDGet2, mUpd, wPairs, wDisp, wLtS, cMinS, cListD, pdOk_bl, deq_bl, BEq.rfl, pdOk_non, deq_refl pdOk_non]; exact ⟨s2, s3, q⟩
  | str x =>
    have hp := pdOk_str hk
    simp only [sSeq, sRet, sRetN, sIf, sDrop, sNever, sNext, sBreak, sCont, sAsg, sPar, sPar3, sAug, dName, dNil, dCons, dTup, dSub, sSetL, wVar, wC, wFrz, wFrzK, wOp, wAdd, nAdd, nI, nI0, wMul, nMul, wNeg, wEq, nEq, wIsN, wB, wAndT, wOrT, wNotT, wAndV, wOrV, wNotV, wIfE, wChain, aNil, aCons, aStar, wLst, wTup, wIx, nIx, pNo, pSo, wSl, wRev, wRevE, mIndex, wLenSet, cRepr, wIsB, wCB, cLen, cAll, cSum, cMax, cMin, cSorted, cInt, cList, cTuple, cIsi, wBits, wLRg, wBM, wBM0, mChg, wDGet, wDIn, wDNew, sDPutD, wIn, nIn, wCall, wCallK, wNew, tYesD, startD, List.map_cons, List.map_nil, List.length_cons, List.length_nil, List.replicate, Nat.sub_self, List.append_nil, List.cons_append, List.nil_append, List.getElem?_cons_zero, List.getElem?_cons_succ, List.set_cons_zero, List.set_cons_succ, Nat.reduceSub, Nat.reduceAdd, ite_true, ite_false, if_true, if_false, Bool.false_eq_true, Bool.true_eq_false, Bool.not_true, Bool.not_false, Option.some.injEq, nrm_non, nrm_bl, nrm_int, nrm_str, nrm_ty, nrm_lst, nrm_tupC, nrm_dct, nrm_scr, nrm_setL, wFgt, tyN_non, tyN_bl, tyN_int, tyN_str, tyN_lst, tyN_tup, tyN_dct, keyD_int, keyD_str, isA, okT, beq_self_eq_true, String.reduceBEq, Bool.or_false, Bool.or_true, Bool.and_false, Bool.and_true, Bool.true_or, Bool.false_or, Bool.true_and, Bool.false_and, true_and, and_true, List.any_cons, List.any_nil, tyNames, Option.map_some, iRn1, iRn2, iRn3, iLst, nIt, iTp, iEn, iZp, iSt, wipeD, atI0, atI1, atI2, atI3, ixN0, ixN1, ixN2, ixN3, wSub, wLt, wLe, wGt, wGe, wDiv, wMod, wPow, wShl, Mp.set_same, Mp.set_set, cSortedA, cDictP, wNewD, wEqS, nEqS, wFrzT, mExt, mCnt, nIxL, sAugS, wSlS, wJoin, cSumL, dUnl, cSortLL, cMinLL, wLenSetT, wLenDictT, mIndexB, wLenSetJ, wAddT, wSortSet, wDNewT, sDPutT, cSortDT, wBMd, wDGet1, wDGet2, mUpd, wPairs, wDisp, wLtS, cMinS, cListD, pdOk_bl, deq_bl, BEq.rfl, hp, deq_refl hp]; exact ⟨s2, s3, q⟩
  | lst xs =>
    simp only [okD, Bool.and_eq_true, decide_eq_true_iff] at hk
    simp only [sSeq, sRet, sRetN, sIf, sDrop, sNever, sNext, sBreak, sCont, sAsg, sPar, sPar3, sAug, dName, dNil, dCons, dTup, dSub, sSetL, wVar, wC, wFrz, wFrzK, wOp, wAdd, nAdd, nI, nI0, wMul, nMul, wNeg, wEq, nEq, wIsN, wB, wAndT, wOrT, wNotT, wAndV, wOrV, wNotV, wIfE, wChain, aNil, aCons, aStar, wLst, wTup, wIx, nIx, pNo, pSo, wSl, wRev, wRevE, mIndex, wLenSet, cRepr, wIsB, wCB, cLen, cAll, cSum, cMax, cMin, cSorted, cInt, cList, cTuple, cIsi, wBits, wLRg, wBM, wBM0, mChg, wDGet, wDIn, wDNew, sDPutD, wIn, nIn, wCall, wCallK, wNew, tYesD, startD, List.map_cons, List.map_nil, List.length_cons, List.length_nil, List.replicate, Nat.sub_self, List.append_nil, List.cons_append, List.nil_append, List.getElem?_cons_zero, List.getElem?_cons_succ, List.set_cons_zero, List.set_cons_succ, Nat.reduceSub, Nat.reduceAdd, ite_true, ite_false, if_true, if_false, Bool.false_eq_true, Bool.true_eq_false, Bool.not_true, Bool.not_false, Option.some.injEq, nrm_non, nrm_bl, nrm_int, nrm_str, nrm_ty, nrm_lst, nrm_tupC, nrm_dct, nrm_scr, nrm_setL, wFgt, tyN_non, tyN_bl, tyN_int, tyN_str, tyN_lst, tyN_tup, tyN_dct, keyD_int, keyD_str, isA, okT, beq_self_eq_true, String.reduceBEq, Bool.or_false, Bool.or_true, Bool.and_false, Bool.and_true, Bool.true_or, Bool.false_or, Bool.true_and, Bool.false_and, true_and, and_true, List.any_cons, List.any_nil, tyNames, Option.map_some, iRn1, iRn2, iRn3, iLst, nIt, iTp, iEn, iZp, iSt, wipeD, atI0, atI1, atI2, atI3, ixN0, ixN1, ixN2, ixN3, wSub, wLt, wLe, wGt, wGe, wDiv, wMod, wPow, wShl, Mp.set_same, Mp.set_set, cSortedA, cDictP, wNewD, wEqS, nEqS, wFrzT, mExt, mCnt, nIxL, sAugS, wSlS, wJoin, cSumL, dUnl, cSortLL, cMinLL, wLenSetT, wLenDictT, mIndexB, wLenSetJ, wAddT, wSortSet, wDNewT, sDPutT, cSortDT, wBMd, wDGet1, wDGet2, mUpd, wPairs, wDisp, wLtS, cMinS, cListD, pdOk_bl, deq_bl, BEq.rfl, decide_true]
    refine ⟨s2, lc_map (xs := zipD xs xs) (P := fun _ => True) (fun _ => .bl true) (fun R h => h) trivial (by rw [zipD_length, Nat.min_self]; exact hk.1) (fun x hx C c => ?_) ?_⟩
    · rw [zip_self] at hx
      obtain ⟨y, hy, rfl⟩ := List.mem_map.mp hx
      have hy' := okDs_mem hk.2 y hy
      simp only [sSeq, sRet, sRetN, sIf, sDrop, sNever, sNext, sBreak, sCont, sAsg, sPar, sPar3, sAug, dName, dNil, dCons, dTup, dSub, sSetL, wVar, wC, wFrz, wFrzK, wOp, wAdd, nAdd, nI, nI0, wMul, nMul, wNeg, wEq, nEq, wIsN, wB, wAndT, wOrT, wNotT, wAndV, wOrV, wNotV, wIfE, wChain, aNil, aCons, aStar, wLst, wTup, wIx, nIx, pNo, pSo, wSl, wRev, wRevE, mIndex, wLenSet, cRepr, wIsB, wCB, cLen, cAll, cSum, cMax, cMin, cSorted, cInt, cList, cTuple, cIsi, wBits, wLRg, wBM, wBM0, mChg, wDGet, wDIn, wDNew, sDPutD, wIn, nIn, wCall, wCallK, wNew, tYesD, startD, List.map_cons, List.map_nil, List.length_cons, List.length_nil, List.replicate, Nat.sub_self, List.append_nil, List.cons_append, List.nil_append, List.getElem?_cons_zero, List.getElem?_cons_succ, List.set_cons_zero, List.set_cons_succ, Nat.reduceSub, Nat.reduceAdd, ite_true, ite_false, if_true, if_false, Bool.false_eq_true, Bool.true_eq_false, Bool.not_true, Bool.not_false, Option.some.injEq, nrm_non, nrm_bl, nrm_int, nrm_str, nrm_ty, nrm_lst, nrm_tupC, nrm_dct, nrm_scr, nrm_setL, wFgt, tyN_non, tyN_bl, tyN_int, tyN_str, tyN_lst, tyN_tup, tyN_dct, keyD_int, keyD_str, isA, okT, beq_self_eq_true, String.reduceBEq, Bool.or_false, Bool.or_true, Bool.and_false, Bool.and_true, Bool.true_or, Bool.false_or, Bool.true_and, Bool.false_and, true_and, and_true, List.any_cons, List.any_nil, tyNames, Option.map_some, iRn1, iRn2, iRn3, iLst, nIt, iTp, iEn, iZp, iSt, wipeD, atI0, atI1, atI2, atI3, ixN0, ixN1, ixN2, ixN3, wSub, wLt, wLe, wGt, wGe, wDiv, wMod, wPow, wShl, Mp.set_same, Mp.set_set, cSortedA, cDictP, wNewD, wEqS, nEqS, wFrzT, mExt, mCnt, nIxL, sAugS, wSlS, wJoin, cSumL, dUnl, cSortLL, cMinLL, wLenSetT, wLenDictT, mIndexB, wLenSetJ, wAddT, wSortSet, wDNewT, sDPutT, cSortDT, wBMd, wDGet1, wDGet2, mUpd, wPairs, wDisp, wLtS, cMinS, cListD]
      cases n with
      | zero => cases y <;> cases hy'
      | succ n => exact ⟨y, rfl, hy', c⟩
    · simp only [sSeq, sRet, sRetN, sIf, sDrop, sNever, sNext, sBreak, sCont, sAsg, sPar, sPar3, sAug, dName, dNil, dCons, dTup, dSub, sSetL, wVar, wC, wFrz, wFrzK, wOp, wAdd, nAdd, nI, nI0, wMul, nMul, wNeg, wEq, nEq, wIsN, wB, wAndT, wOrT, wNotT, wAndV, wOrV, wNotV, wIfE, wChain, aNil, aCons, aStar, wLst, wTup, wIx, nIx, pNo, pSo, wSl, wRev, wRevE, mIndex, wLenSet, cRepr, wIsB, wCB, cLen, cAll, cSum, cMax, cMin, cSorted, cInt, cList, cTuple, cIsi, wBits, wLRg, wBM, wBM0, mChg, wDGet, wDIn, wDNew, sDPutD, wIn, nIn, wCall, wCallK, wNew, tYesD, startD, List.map_cons, List.map_nil, List.length_cons, List.length_nil, List.replicate, Nat.sub_self, List.append_nil, List.cons_append, List.nil_append, List.getElem?_cons_zero, List.getElem?_cons_succ, List.set_cons_zero, List.set_cons_succ, Nat.reduceSub, Nat.reduceAdd, ite_true, ite_false, if_true, if_false, Bool.false_eq_true, Bool.true_eq_false, Bool.not_true, Bool.not_false, Option.some.injEq, nrm_non, nrm_bl, nrm_int, nrm_str, nrm_ty, nrm_lst, nrm_tupC, nrm_dct, nrm_scr, nrm_setL, wFgt, tyN_non, tyN_bl, tyN_int, tyN_str, tyN_lst, tyN_tup, tyN_dct, keyD_int, keyD_str, isA, okT, beq_self_eq_true, String.reduceBEq, Bool.or_false, Bool.or_true, Bool.and_false, Bool.and_true, Bool.true_or, Bool.false_or, Bool.true_and, Bool.false_and, true_and, and_true, List.any_cons, List.any_nil, tyNames, Option.map_some, iRn1, iRn2, iRn3, iLst, nIt, iTp, iEn, iZp, iSt, wipeD, atI0, atI1, atI2, atI3, ixN0, ixN1, ixN2, ixN3, wSub, wLt, wLe, wGt, wGe, wDiv, wMod, wPow, wShl, Mp.set_same, Mp.set_set, cSortedA, cDictP, wNewD, wEqS, nEqS, wFrzT, mExt, mCnt, nIxL, sAugS, wSlS, wJoin, cSumL, dUnl, cSortLL, cMinLL, wLenSetT, wLenDictT, mIndexB, wLenSetJ, wAddT, wSortSet, wDNewT, sDPutT, cSortDT, wBMd, wDGet1, wDGet2, mUpd, wPairs, wDisp, wLtS, cMinS, cListD, bools_trues]
      have e : ((zipD xs xs).map fun _ => true).all id = true := by rw [List.all_map]; exact List.all_eq_true.mpr fun _ _ => rfl
      rw [e]; exact q
  | tup xs =>
    simp only [okD, Bool.and_eq_true, decide_eq_true_iff] at hk
    simp only [sSeq, sRet, sRetN, sIf, sDrop, sNever, sNext, sBreak, sCont, sAsg, sPar, sPar3, sAug, dName, dNil, dCons, dTup, dSub, sSetL, wVar, wC, wFrz, wFrzK, wOp, wAdd, nAdd, nI, nI0, wMul, nMul, wNeg, wEq, nEq, wIsN, wB, wAndT, wOrT, wNotT, wAndV, wOrV, wNotV, wIfE, wChain, aNil, aCons, aStar, wLst, wTup, wIx, nIx, pNo, pSo, wSl, wRev, wRevE, mIndex, wLenSet, cRepr, wIsB, wCB, cLen, cAll, cSum, cMax, cMin, cSorted, cInt, cList, cTuple, cIsi, wBits, wLRg, wBM, wBM0, mChg, wDGet, wDIn, wDNew, sDPutD, wIn, nIn, wCall, wCallK, wNew, tYesD, startD, List.map_cons, List.map_nil, List.length_cons, List.length_nil, List.replicate, Nat.sub_self, List.append_nil, List.cons_append, List.nil_append, List.getElem?_cons_zero, List.getElem?_cons_succ, List.set_cons_zero, List.set_cons_succ, Nat.reduceSub, Nat.reduceAdd, ite_true, ite_false, if_true, if_false, Bool.false_eq_true, Bool.true_eq_false, Bool.not_true, Bool.not_false, Option.some.injEq, nrm_non, nrm_bl, nrm_int, nrm_str, nrm_ty, nrm_lst, nrm_tupC, nrm_dct, nrm_scr, nrm_setL, wFgt, tyN_non, tyN_bl, tyN_int, tyN_str, tyN_lst, tyN_tup, tyN_dct, keyD_int, keyD_str, isA, okT, beq_self_eq_true, String.reduceBEq, Bool.or_false, Bool.or_true, Bool.and_false, Bool.and_true, Bool.true_or, Bool.false_or, Bool.true_and, Bool.false_and, true_and, and_true, List.any_cons, List.any_nil, tyNames, Option.map_some, iRn1, iRn2, iRn3, iLst, nIt, iTp, iEn, iZp, iSt, wipeD, atI0, atI1, atI2, atI3, ixN0, ixN1, ixN2, ixN3, wSub, wLt, wLe, wGt, wGe, wDiv, wMod, wPow, wShl, Mp.set_same, Mp.set_set, cSortedA, cDictP, wNewD, wEqS, nEqS, wFrzT, mExt, mCnt, nIxL, sAugS, wSlS, wJoin, cSumL, dUnl, cSortLL, cMinLL, wLenSetT, wLenDictT, mIndexB, wLenSetJ, wAddT, wSortSet, wDNewT, sDPutT, cSortDT, wBMd, wDGet1, wDGet2, mUpd, wPairs, wDisp, wLtS, cMinS, cListD, pdOk_bl, deq_bl, BEq.rfl, decide_true]
    refine ⟨s2, lc_map (xs := zipD xs xs) (P := fun _ => True) (fun _ => .bl true) (fun R h => h) trivial (by rw [zipD_length, Nat.min_self]; exact hk.1) (fun x hx C c => ?_) ?_⟩
    · rw [zip_self] at hx
      obtain ⟨y, hy, rfl⟩ := List.mem_map.mp hx
      have hy' := okDs_mem hk.2 y hy
      simp only [sSeq, sRet, sRetN, sIf, sDrop, sNever, sNext, sBreak, sCont, sAsg, sPar, sPar3, sAug, dName, dNil, dCons, dTup, dSub, sSetL, wVar, wC, wFrz, wFrzK, wOp, wAdd, nAdd, nI, nI0, wMul, nMul, wNeg, wEq, nEq, wIsN, wB, wAndT, wOrT, wNotT, wAndV, wOrV, wNotV, wIfE, wChain, aNil, aCons, aStar, wLst, wTup, wIx, nIx, pNo, pSo, wSl, wRev, wRevE, mIndex, wLenSet, cRepr, wIsB, wCB, cLen, cAll, cSum, cMax, cMin, cSorted, cInt, cList, cTuple, cIsi, wBits, wLRg, wBM, wBM0, mChg, wDGet, wDIn, wDNew, sDPutD, wIn, nIn, wCall, wCallK, wNew, tYesD, startD, List.map_cons, List.map_nil, List.length_cons, List.length_nil, List.replicate, Nat.sub_self, List.append_nil, List.cons_append, List.nil_append, List.getElem?_cons_zero, List.getElem?_cons_succ, List.set_cons_zero, List.set_cons_succ, Nat.reduceSub, Nat.reduceAdd, ite_true, ite_false, if_true, if_false, Bool.false_eq_true, Bool.true_eq_false, Bool.not_true, Bool.not_false, Option.some.injEq, nrm_non, nrm_bl, nrm_int, nrm_str, nrm_ty, nrm_lst, nrm_tupC, nrm_dct, nrm_scr, nrm_setL, wFgt, tyN_non, tyN_bl, tyN_int, tyN_str, tyN_lst, tyN_tup, tyN_dct, keyD_int, keyD_str, isA, okT, beq_self_eq_true, String.reduceBEq, Bool.or_false, Bool.or_true, Bool.and_false, Bool.and_true, Bool.true_or, Bool.false_or, Bool.true_and, Bool.false_and, true_and, and_true, List.any_cons, List.any_nil, tyNames, Option.map_some, iRn1, iRn2, iRn3, iLst, nIt, iTp, iEn, iZp, iSt, wipeD, atI0, atI1, atI2, atI3, ixN0, ixN1, ixN2, ixN3, wSub, wLt, wLe, wGt, wGe, wDiv, wMod, wPow, wShl, Mp.set_same, Mp.set_set, cSortedA, cDictP, wNewD, wEqS, nEqS, wFrzT, mExt, mCnt, nIxL, sAugS, wSlS, wJoin, cSumL, dUnl, cSortLL, cMinLL, wLenSetT, wLenDictT, mIndexB, wLenSetJ, wAddT, wSortSet, wDNewT, sDPutT, cSortDT, wBMd, wDGet1, wDGet2, mUpd, wPairs, wDisp, wLtS, cMinS, cListD]
      cases n with
      | zero => cases y <;> cases hy'
      | succ n => exact ⟨y, rfl, hy', c⟩
    · simp only [sSeq, sRet, sRetN, sIf, sDrop, sNever, sNext, sBreak, sCont, sAsg, sPar, sPar3, sAug, dName, dNil, dCons, dTup, dSub, sSetL, wVar, wC, wFrz, wFrzK, wOp, wAdd, nAdd, nI, nI0, wMul, nMul, wNeg, wEq, nEq, wIsN, wB, wAndT, wOrT, wNotT, wAndV, wOrV, wNotV, wIfE, wChain, aNil, aCons, aStar, wLst, wTup, wIx, nIx, pNo, pSo, wSl, wRev, wRevE, mIndex, wLenSet, cRepr, wIsB, wCB, cLen, cAll, cSum, cMax, cMin, cSorted, cInt, cList, cTuple, cIsi, wBits, wLRg, wBM, wBM0, mChg, wDGet, wDIn, wDNew, sDPutD, wIn, nIn, wCall, wCallK, wNew, tYesD, startD, List.map_cons, List.map_nil, List.length_cons, List.length_nil, List.replicate, Nat.sub_self, List.append_nil, List.cons_append, List.nil_append, List.getElem?_cons_zero, List.getElem?_cons_succ, List.set_cons_zero, List.set_cons_succ, Nat.reduceSub, Nat.reduceAdd, ite_true, ite_false, if_true, if_false, Bool.false_eq_true, Bool.true_eq_false, Bool.not_true, Bool.not_false, Option.some.injEq, nrm_non, nrm_bl, nrm_int, nrm_str, nrm_ty, nrm_lst, nrm_tupC, nrm_dct, nrm_scr, nrm_setL, wFgt, tyN_non, tyN_bl, tyN_int, tyN_str, tyN_lst, tyN_tup, tyN_dct, keyD_int, keyD_str, isA, okT, beq_self_eq_true, String.reduceBEq, Bool.or_false, Bool.or_true, Bool.and_false, Bool.and_true, Bool.true_or, Bool.false_or, Bool.true_and, Bool.false_and, true_and, and_true, List.any_cons, List.any_nil, tyNames, Option.map_some, iRn1, iRn2, iRn3, iLst, nIt, iTp, iEn, iZp, iSt, wipeD, atI0, atI1, atI2, atI3, ixN0, ixN1, ixN2, ixN3, wSub, wLt, wLe, wGt, wGe, wDiv, wMod, wPow, wShl, Mp.set_same, Mp.set_set, cSortedA, cDictP, wNewD, wEqS, nEqS, wFrzT, mExt, mCnt, nIxL, sAugS, wSlS, wJoin, cSumL, dUnl, cSortLL, cMinLL, wLenSetT, wLenDictT, mIndexB, wLenSetJ, wAddT, wSortSet, wDNewT, sDPutT, cSortDT, wBMd, wDGet1, wDGet2, mUpd, wPairs, wDisp, wLtS, cMinS, cListD, bools_trues]
      have e : ((zipD xs xs).map fun _ => true).all id = true := by rw [List.all_map]; exact List.all_eq_true.mpr fun _ _ => rfl
      rw [e]; exact q
  | _ => cases hk
abbrev s_law_right : Stmt := topS 36
theorem sc_law_right : FnScope ["purse", "many", "word", "due", "told", "place", "one", "other", "words", "lengths", "spin", "late"] ["purse", "many"] (defScope s_law_right) := ⟨rfl, rfl, rfl, by decide +kernel, rfl, by decide +kernel, by decide +kernel⟩
theorem ok_law_right {f : Addr} {fd : FuncData} (F : FnP K "_law_right" s_law_right [] f fd)
    {f_law_draw : Addr} {fd_law_draw : FuncData} {ds_law_draw : List Value} (G_law_draw : Kn P w K mg base "_law_draw" ["purse", "many"] R_law_draw 2 [] ds_law_draw f_law_draw fd_law_draw)
    {f_law_one_of : Addr} {fd_law_one_of : FuncData} {ds_law_one_of : List Value} (G_law_one_of : Kn P w K mg base "_law_one_of" ["purse", "some"] R_law_one_of 3 [] ds_law_one_of f_law_one_of fd_law_one_of)
    {f_law_done : Addr} {fd_law_done : FuncData} {ds_law_done : List Value} (G_law_done : Kn P w K mg base "_law_done" ["many", "word"] R_law_done 2 [] ds_law_done f_law_done fd_law_done)
    {f_faros_done : Addr} {fd_faros_done : FuncData} {ds_faros_done : List Value} (G_faros_done : Kn P w K mg base "faros_done" ["many", "word"] R_faros_done 4 [] ds_faros_done f_faros_done fd_faros_done)
    {f_law_exact : Addr} {fd_law_exact : FuncData} {ds_law_exact : List Value} (G_law_exact : Kn P w K mg base "_law_exact" ["mine", "theirs"] R_law_exact 9 [] ds_law_exact f_law_exact fd_law_exact)
    {f_law_figures : Addr} {fd_law_figures : FuncData} {ds_law_figures : List Value} (G_law_figures : Kn P w K mg base "_law_figures" ["place"] R_law_figures 1 [] ds_law_figures f_law_figures fd_law_figures)
    {f_word_to_place : Addr} {fd_word_to_place : FuncData} {ds_word_to_place : List Value} (G_word_to_place : Kn P w K mg base "word_to_place" ["many", "place"] R_word_to_place 4 [] ds_word_to_place f_word_to_place fd_word_to_place)
    {f_law_words : Addr} {fd_law_words : FuncData} {ds_law_words : List Value} (G_law_words : Kn P w K mg base "_law_words" ["many", "one"] R_law_words 2 [] ds_law_words f_law_words fd_law_words)
    {f_word_lengths : Addr} {fd_word_lengths : FuncData} {ds_word_lengths : List Value} (G_word_lengths : Kn P w K mg base "word_lengths" ["many", "one"] R_word_lengths 4 [] ds_word_lengths f_word_lengths fd_word_lengths)
    {f_shortest_word : Addr} {fd_shortest_word : FuncData} {ds_shortest_word : List Value} (G_shortest_word : Kn P w K mg base "shortest_word" ["many", "one", "other"] R_shortest_word 4 [] ds_shortest_word f_shortest_word fd_shortest_word)
    (KB_faros_done_0 : KBinds K fd_faros_done ["many", "word"] ["word", "many"] (pick 0 2 [1, 0]) (pick 0 2 [1, 0]))
    (KB_word_to_place_1 : KBinds K fd_word_to_place ["many", "place"] ["place", "many"] (pick 0 2 [1, 0]) (pick 0 2 [1, 0]))
    (KB_word_lengths_2 : KBinds K fd_word_lengths ["many", "one"] ["one", "many"] (pick 0 2 [1, 0]) (pick 0 2 [1, 0]))
    (KB_shortest_word_3 : KBinds K fd_shortest_word ["many", "one", "other"] ["other", "one", "many"] (pick 0 3 [2, 1, 0]) (pick 0 3 [2, 1, 0]))
    (m_range : mg "range" = none)
    (m_len : mg "len" = none) :
    FnG P w K mg base 10 f fd ["purse", "many"] (spD R_law_right) := by
  have nd := sc_law_right.nd
  refine fnD (k := 9) F sc_law_right len_law_right fun cdv A outer s H E hr hq => ?_
  have hu := hu_of hr
  have hr65 := room65 hr
  have hr66 := room66 hr
  refine ⟨_, _, pss_cons (ps_set (i := 2) nd rfl (by first | exact .inl rfl | exact .inr rfl) (pe_join (pe_str) (pe_lc (own := [("spin", 10)]) (by rfl) nd (pi_range1 (by rfl) m_range (pa_cons (pe_callG (G_law_draw.ok.mono (by decide)) hr hq (by rfl) G_law_draw.m G_law_draw.kp G_law_draw.b G_law_draw.dv (pa_cons (pv 0) (pa_cons (pe_int) (pa_nil)))) (pa_nil))) (blkOk_by (by kernel_rfl)) (fun _ _ _ _ _ => pg_name (i := 10) nd rfl (by first | exact .inl rfl | exact .inr rfl)) (fun _ _ _ _ _ => pts_nil) (fun _ _ _ _ _ => pe_callG (G_law_one_of.ok.mono (by decide)) hr hq (by rfl) G_law_one_of.m G_law_one_of.kp G_law_one_of.b G_law_one_of.dv (pa_cons (pv 0) (pa_cons (pe_lst (pa_cons (pe_str) (pa_cons (pe_str) (pa_nil)))) (pa_nil)))))))
      (pss_cons (ps_set (i := 3) nd rfl (by first | exact .inl rfl | exact .inr rfl) (pe_callG (G_law_done.ok.mono (by decide)) hr hq (by rfl) G_law_done.m G_law_done.kp G_law_done.b G_law_done.dv (pa_cons (pv 1) (pa_cons (pv 2) (pa_nil)))))
      (pss_cons (ps_set (i := 4) nd rfl (by first | exact .inl rfl | exact .inr rfl) (pe_callG (G_faros_done.ok.mono (by decide)) hr hq (by rfl) G_faros_done.m G_faros_done.kp G_faros_done.b G_faros_done.dv (pa_cons (pv 1) (pa_cons (pv 2) (pa_nil)))))
      (pss_cons (ps_if (pt_not (pt_val (pe_callG (G_law_exact.ok.mono (by decide)) hr hq (by rfl) G_law_exact.m G_law_exact.kp G_law_exact.b G_law_exact.dv (pa_cons (pe_lst (pa_cons (pv 3) (pa_cons (pv 3) (pa_nil)))) (pa_cons (pe_lst (pa_cons (pv 4) (pa_cons (pe_callGK0 (G_faros_done.ok.mono (by decide)) hr hq (by rfl) G_faros_done.m G_faros_done.kp KB_faros_done_0 (pk_cons (pv 2) (pk_cons (pv 1) (pk_nil)))) (pa_nil)))) (pa_nil)))))) (pss_one (ps_ret (pe_bl))) (pss_nil))
      (pss_cons (ps_expr (pe_bm PySem.F.plainAttrs_list PySem.F.slot_list_append PySem.F.type_list_append mt_append (pv 4) (pa_cons (pe_str) (pa_nil))))
      (pss_cons (ps_if (pt_cmpR (op_eqD hr.units) (pv 1) (pe_int) (nomark _)) (pss_one (ps_ret (pe_cmpR (op_eqD hr.units) (pe_callG (G_faros_done.ok.mono (by decide)) hr hq (by rfl) G_faros_done.m G_faros_done.kp G_faros_done.b G_faros_done.dv (pa_cons (pv 1) (pa_cons (pv 2) (pa_nil)))) (pe_lst (pa_nil)) (nomark _)))) (pss_nil))
      (pss_cons (ps_set (i := 5) nd rfl (by first | exact .inl rfl | exact .inr rfl) (pe_callG (G_law_draw.ok.mono (by decide)) hr hq (by rfl) G_law_draw.m G_law_draw.kp G_law_draw.b G_law_draw.dv (pa_cons (pv 0) (pa_cons (pv 1) (pa_nil)))))
      (pss_cons (ps_set (i := 3) nd rfl (by first | exact .inl rfl | exact .inr rfl) (pe_callG (G_law_figures.ok.mono (by decide)) hr hq (by rfl) G_law_figures.m G_law_figures.kp G_law_figures.b G_law_figures.dv (pa_cons (pv 5) (pa_nil))))
      (pss_cons (ps_if (pt_not (pt_val (pe_callG (G_law_exact.ok.mono (by decide)) hr hq (by rfl) G_law_exact.m G_law_exact.kp G_law_exact.b G_law_exact.dv (pa_cons (pe_lst (pa_cons (pv 3) (pa_cons (pv 3) (pa_cons (pe_int) (pa_nil))))) (pa_cons (pe_lst (pa_cons (pe_callG (G_word_to_place.ok.mono (by decide)) hr hq (by rfl) G_word_to_place.m G_word_to_place.kp G_word_to_place.b G_word_to_place.dv (pa_cons (pv 1) (pa_cons (pv 5) (pa_nil)))) (pa_cons (pe_callGK0 (G_word_to_place.ok.mono (by decide)) hr hq (by rfl) G_word_to_place.m G_word_to_place.kp KB_word_to_place_1 (pk_cons (pv 5) (pk_cons (pv 1) (pk_nil)))) (pa_cons (pe_ix ix_seq (pe_callG (G_law_done.ok.mono (by decide)) hr hq (by rfl) G_law_done.m G_law_done.kp G_law_done.b G_law_done.dv (pa_cons (pv 1) (pa_cons (pv 3) (pa_nil)))) (pv 5) (fun _ _ => rfl)) (pa_nil))))) (pa_nil)))))) (pss_one (ps_ret (pe_bl))) (pss_nil))
      (pss_cons (ps_par (i := 6) (j := 7) (by rfl) nd rfl rfl (by decide) rfl rfl (pa_cons (pe_callG (G_law_draw.ok.mono (by decide)) hr hq (by rfl) G_law_draw.m G_law_draw.kp G_law_draw.b G_law_draw.dv (pa_cons (pv 0) (pa_cons (pv 1) (pa_nil)))) (pa_cons (pe_callG (G_law_draw.ok.mono (by decide)) hr hq (by rfl) G_law_draw.m G_law_draw.kp G_law_draw.b G_law_draw.dv (pa_cons (pv 0) (pa_cons (pv 1) (pa_nil)))) (pa_nil))) (by rfl))
      (pss_cons (ps_set (i := 8) nd rfl (by first | exact .inl rfl | exact .inr rfl) (pe_callG (G_law_words.ok.mono (by decide)) hr hq (by rfl) G_law_words.m G_law_words.kp G_law_words.b G_law_words.dv (pa_cons (pv 1) (pa_cons (pv 6) (pa_nil)))))
      (pss_cons (ps_setLc (i := 9) (own := [("late", 11)]) (by rfl) nd rfl rfl (sw_true rfl rfl rfl (by decide +kernel)) (pi_range1 (by rfl) m_range (pa_cons (pv 1) (pa_nil))) (blkOk_by (by kernel_rfl)) (fun _ _ _ _ _ => pg_name (i := 11) nd rfl (by first | exact .inl rfl | exact .inr rfl)) (fun _ _ _ _ _ => pts_nil) (fun _ _ _ _ _ => pe_callB call_lenA (by rfl) m_len (by decide +kernel) (pa_cons (pe_dget hu (pv 8) (pv 11) (fun _ _ => rfl)) (pa_nil))))
      (pss_cons (ps_set (i := 4) nd rfl (by first | exact .inl rfl | exact .inr rfl) (pe_callG (G_word_lengths.ok.mono (by decide)) hr hq (by rfl) G_word_lengths.m G_word_lengths.kp G_word_lengths.b G_word_lengths.dv (pa_cons (pv 1) (pa_cons (pv 6) (pa_nil)))))
      (pss_cons (ps_if (pt_not (pt_val (pe_callG (G_law_exact.ok.mono (by decide)) hr hq (by rfl) G_law_exact.m G_law_exact.kp G_law_exact.b G_law_exact.dv (pa_cons (pe_op op_addA (pe_op op_mulA (pe_lst (pa_cons (pe_dget hu (pv 8) (pv 7) (fun _ _ => rfl)) (pa_nil))) (pe_int)) (pe_lst (pa_cons (pv 9) (pa_cons (pv 9) (pa_nil))))) (pa_cons (pe_lst (pa_cons (pe_callG (G_shortest_word.ok.mono (by decide)) hr hq (by rfl) G_shortest_word.m G_shortest_word.kp G_shortest_word.b G_shortest_word.dv (pa_cons (pv 1) (pa_cons (pv 6) (pa_cons (pv 7) (pa_nil))))) (pa_cons (pe_callGK0 (G_shortest_word.ok.mono (by decide)) hr hq (by rfl) G_shortest_word.m G_shortest_word.kp KB_shortest_word_3 (pk_cons (pv 7) (pk_cons (pv 6) (pk_cons (pv 1) (pk_nil))))) (pa_cons (pv 4) (pa_cons (pe_callGK0 (G_word_lengths.ok.mono (by decide)) hr hq (by rfl) G_word_lengths.m G_word_lengths.kp KB_word_lengths_2 (pk_cons (pv 6) (pk_cons (pv 1) (pk_nil)))) (pa_nil)))))) (pa_nil)))))) (pss_one (ps_ret (pe_bl))) (pss_nil))
      (pss_cons (ps_expr (pe_bm PySem.F.plainAttrs_list PySem.F.slot_list_append PySem.F.type_list_append mt_append (pv 4) (pa_cons (pe_str) (pa_nil))))
      (pss_one (ps_ret (pe_callG (G_law_exact.ok.mono (by decide)) hr hq (by rfl) G_law_exact.m G_law_exact.kp G_law_exact.b G_law_exact.dv (pa_cons (pe_lst (pa_cons (pv 9) (pa_cons (pv 6) (pa_nil)))) (pa_cons (pe_lst (pa_cons (pe_callG (G_word_lengths.ok.mono (by decide)) hr hq (by rfl) G_word_lengths.m G_word_lengths.kp G_word_lengths.b G_word_lengths.dv (pa_cons (pv 1) (pa_cons (pv 6) (pa_nil)))) (pa_cons (pe_ix ix_seq (pe_callG (G_law_done.ok.mono (by decide)) hr hq (by rfl) G_law_done.m G_law_done.kp G_law_done.b G_law_done.dv (pa_cons (pv 1) (pa_cons (pe_dget hu (pv 8) (pv 7) (fun _ _ => rfl)) (pa_nil)))) (pv 7) (fun _ _ => rfl)) (pa_nil)))) (pa_nil)))))))))))))))))))),
    ts_seq (ts_asg (tr_join (tr_str) (tr_lc (md := .frz) (ti_rng1 (ta_cons (tr_call (ta_cons (tr_var (i := 0)) (ta_cons (tr_int) (ta_nil)))) (ta_nil))) (tc_name (i := 10) (by decide)) (tt_yes) (tr_call (ta_cons (tr_var (i := 0)) (ta_cons (tr_lst (md := .frz) (ta_cons (tr_str) (ta_cons (tr_str) (ta_nil)))) (ta_nil)))))) (tg_name (i := 2)))
      (ts_seq (ts_asg (tr_call (ta_cons (tr_var (i := 1)) (ta_cons (tr_var (i := 2)) (ta_nil)))) (tg_name (i := 3)))
      (ts_seq (ts_asg (tr_call (ta_cons (tr_var (i := 1)) (ta_cons (tr_var (i := 2)) (ta_nil)))) (tg_name (i := 4)))
      (ts_seq (ts_if (tt_snap (tt_not (tt_B (tr_call (ta_cons (tr_lst (md := .frz) (ta_cons (tr_var (i := 3)) (ta_cons (tr_var (i := 3)) (ta_nil)))) (ta_cons (tr_lst (md := .frz) (ta_cons (tr_var (i := 4)) (ta_cons (tr_frz (tr_callP ta_nil (ta_cons (tr_var (i := 2)) (ta_cons (tr_var (i := 1)) (ta_nil))))) (ta_nil)))) (ta_nil))))))) (ts_ret (tr_fgt (tr_bl))) (ts_next))
      (ts_seq (ts_drop (tr_bm mt_appendD (tr_var (i := 4)) (ta_cons (tr_str) (ta_nil))))
      (ts_seq (ts_if (tt_test (tr_op ot_eq (tr_var (i := 1)) (tr_int))) (ts_ret (tr_fgt (tr_op ot_eq (tr_frz (tr_call (ta_cons (tr_var (i := 1)) (ta_cons (tr_var (i := 2)) (ta_nil))))) (tr_lst (md := .frz) (ta_nil))))) (ts_next))
      (ts_seq (ts_asg (tr_call (ta_cons (tr_var (i := 0)) (ta_cons (tr_var (i := 1)) (ta_nil)))) (tg_name (i := 5)))
      (ts_seq (ts_asg (tr_call (ta_cons (tr_var (i := 5)) (ta_nil))) (tg_name (i := 3)))
      (ts_seq (ts_if (tt_not (tt_B (tr_call (ta_cons (tr_lst (md := .frz) (ta_cons (tr_var (i := 3)) (ta_cons (tr_var (i := 3)) (ta_cons (tr_int) (ta_nil))))) (ta_cons (tr_lst (md := .frz) (ta_cons (tr_call (ta_cons (tr_var (i := 1)) (ta_cons (tr_var (i := 5)) (ta_nil)))) (ta_cons (tr_callP ta_nil (ta_cons (tr_var (i := 5)) (ta_cons (tr_var (i := 1)) (ta_nil)))) (ta_cons (tr_op ot_ix (tr_call (ta_cons (tr_var (i := 1)) (ta_cons (tr_var (i := 3)) (ta_nil)))) (tr_var (i := 5))) (ta_nil))))) (ta_nil)))))) (ts_ret (tr_fgt (tr_bl))) (ts_next))
      (ts_seq (ts_par (i := 6) (j := 7) (ta_cons (tr_call (ta_cons (tr_var (i := 0)) (ta_cons (tr_var (i := 1)) (ta_nil)))) (ta_cons (tr_call (ta_cons (tr_var (i := 0)) (ta_cons (tr_var (i := 1)) (ta_nil)))) (ta_nil))))
      (ts_seq (ts_asg (tr_call (ta_cons (tr_var (i := 1)) (ta_cons (tr_var (i := 6)) (ta_nil)))) (tg_name (i := 8)))
      (ts_seq (ts_asg (tr_lc (md := .frz) (ti_rng1 (ta_cons (tr_var (i := 1)) (ta_nil))) (tc_name (i := 11) (by decide)) (tt_yes) (tr_cb ct_len (ta_cons (tr_dget (tr_var (i := 8)) (tr_var (i := 11))) (ta_nil)))) (tg_name (i := 9)))
      (ts_seq (ts_asg (tr_call (ta_cons (tr_var (i := 1)) (ta_cons (tr_var (i := 6)) (ta_nil)))) (tg_name (i := 4)))
      (ts_seq (ts_if (tt_snap (tt_not (tt_B (tr_call (ta_cons (tr_op (ot_add (K := K) (md := .frz)) (tr_op (ot_mul (md := .frz)) (tr_lst (md := .frz) (ta_cons (tr_dget (tr_var (i := 8)) (tr_var (i := 7))) (ta_nil))) (tr_int)) (tr_lst (md := .frz) (ta_cons (tr_var (i := 9)) (ta_cons (tr_var (i := 9)) (ta_nil))))) (ta_cons (tr_lst (md := .frz) (ta_cons (tr_call (ta_cons (tr_var (i := 1)) (ta_cons (tr_var (i := 6)) (ta_cons (tr_var (i := 7)) (ta_nil))))) (ta_cons (tr_callP ta_nil (ta_cons (tr_var (i := 7)) (ta_cons (tr_var (i := 6)) (ta_cons (tr_var (i := 1)) (ta_nil))))) (ta_cons (tr_var (i := 4)) (ta_cons (tr_frz (tr_callP ta_nil (ta_cons (tr_var (i := 6)) (ta_cons (tr_var (i := 1)) (ta_nil))))) (ta_nil)))))) (ta_nil))))))) (ts_ret (tr_fgt (tr_bl))) (ts_next))
      (ts_seq (ts_drop (tr_bm mt_appendD (tr_var (i := 4)) (ta_cons (tr_str) (ta_nil))))
      (ts_ret (tr_fgt (tr_call (ta_cons (tr_lst (md := .frz) (ta_cons (tr_var (i := 9)) (ta_cons (tr_var (i := 6)) (ta_nil)))) (ta_cons (tr_lst (md := .frz) (ta_cons (tr_frz (tr_call (ta_cons (tr_var (i := 1)) (ta_cons (tr_var (i := 6)) (ta_nil))))) (ta_cons (tr_op ot_ix (tr_call (ta_cons (tr_var (i := 1)) (ta_cons (tr_dget (tr_var (i := 8)) (tr_var (i := 7))) (ta_nil)))) (tr_var (i := 7))) (ta_nil)))) (ta_nil)))))))))))))))))))), ?_⟩
  rintro ds M Q ⟨p, xs, B, n, rfl, hp, hx, hB, hn, q⟩
  have s8 : ∀ k : Nat, k ≤ 30 → Sz k := fun k h => (by first | omega | (unfold Sz; omega) | (simp only [List.length_map, List.length_append, List.length_cons, List.length_nil, rngI_length, List.length_take, List.length_drop, List.length_reverse]; unfold Sz; omega))
  refine seq_mid (fun ρ' M' => ∃ (bs : List Bool) (vs : List D), ρ' = [some (.ref p), some (.int n), some (.str (wordS bs)), none, none, none, none, none, none, none, none, none] ∧ bs.length ≤ 20 ∧ PurseOk (B + 70) vs ∧ M' = M.set p (.lst vs)) (fun nx hnx => ?_) (fun ρ' M' w => ?_)
  · unfold wLc
    simp only [sRet, sRetN, sIf, sDrop, sNever, sNext, sBreak, sCont, sAsg, sPar, sPar3, sAug, dName, dNil, dCons, dTup, dSub, sSetL, wVar, wC, wFrz, wFrzK, wOp, wAdd, nAdd, nI, nI0, wMul, nMul, wNeg, wEq, nEq, wIsN, wB, wAndT, wOrT, wNotT, wAndV, wOrV, wNotV, wIfE, wChain, aNil, aCons, aStar, wLst, wTup, wIx, nIx, pNo, pSo, wSl, wRev, wRevE, mIndex, wLenSet, cRepr, wIsB, wCB, cLen, cAll, cSum, cMax, cMin, cSorted, cInt, cList, cTuple, cIsi, wBits, wLRg, wBM, wBM0, mChg, wDGet, wDIn, wDNew, sDPutD, wIn, nIn, wCall, wCallK, wNew, tYesD, startD, List.map_cons, List.map_nil, List.length_cons, List.length_nil, List.replicate, Nat.sub_self, List.append_nil, List.cons_append, List.nil_append, List.getElem?_cons_zero, List.getElem?_cons_succ, List.set_cons_zero, List.set_cons_succ, Nat.reduceSub, Nat.reduceAdd, ite_true, ite_false, if_true, if_false, Bool.false_eq_true, Bool.true_eq_false, Bool.not_true, Bool.not_false, Option.some.injEq, nrm_non, nrm_bl, nrm_int, nrm_str, nrm_ty, nrm_lst, nrm_tupC, nrm_dct, nrm_scr, nrm_setL, wFgt, tyN_non, tyN_bl, tyN_int, tyN_str, tyN_lst, tyN_tup, tyN_dct, keyD_int, keyD_str, isA, okT, beq_self_eq_true, String.reduceBEq, Bool.or_false, Bool.or_true, Bool.and_false, Bool.and_true, Bool.true_or, Bool.false_or, Bool.true_and, Bool.false_and, true_and, and_true, List.any_cons, List.any_nil, tyNames, Option.map_some, iRn1, iRn2, iRn3, iLst, nIt, iTp, iEn, iZp, iSt, wipeD, atI0, atI1, atI2, atI3, ixN0, ixN1, ixN2, ixN3, wSub, wLt, wLe, wGt, wGe, wDiv, wMod, wPow, wShl, Mp.set_same, Mp.set_set, cSortedA, cDictP, wNewD, wEqS, nEqS, wFrzT, mExt, mCnt, nIxL, sAugS, wSlS, wJoin, cSumL, dUnl, cSortLL, cMinLL, wLenSetT, wLenDictT, mIndexB, wLenSetJ, wAddT, wSortSet, wDNewT, sDPutT, cSortDT, wBMd, wDGet1, wDGet2, mUpd, wPairs, wDisp, wLtS, cMinS, cListD]
    refine ⟨p, xs, 21, _, rfl, hp, hx, by omega, by omega, by omega, fun c ws hc0 hc1 hws => ?_⟩
    obtain ⟨c, rfl⟩ := Int.eq_ofNat_of_zero_le hc0
    refine ⟨⟨by omega, by omega⟩, by rw [rngD_ints, List.length_map, rngI_length]; exact (by first | omega | (unfold Sz; omega) | (simp only [List.length_map, List.length_append, List.length_cons, List.length_nil, rngI_length, List.length_take, List.length_drop, List.length_reverse]; unfold Sz; omega)), fun i acc M' => ∃ (bs : List Bool) (vs : List D), acc = bs.map (fun b => D.str (sgn b)) ∧ bs.length = i ∧ PurseOk (B + 3 + 3 * i) vs ∧ M' = M.set p (.lst vs), ⟨[], ws, rfl, rfl, hws.mono (by omega), rfl⟩, fun _ _ _ _ _ => trivial, fun i x acc M' hx w => ?_, fun acc M' w => ?_⟩
    · obtain ⟨bs, vs, rfl, rfl, hv, rfl⟩ := w
      have hib : bs.length < 21 := by have := (List.getElem?_eq_some_iff.mp hx).1; rw [rngD_ints, List.length_map, rngI_length] at this; omega
      simp only [sRet, sRetN, sIf, sDrop, sNever, sNext, sBreak, sCont, sAsg, sPar, sPar3, sAug, dName, dNil, dCons, dTup, dSub, sSetL, wVar, wC, wFrz, wFrzK, wOp, wAdd, nAdd, nI, nI0, wMul, nMul, wNeg, wEq, nEq, wIsN, wB, wAndT, wOrT, wNotT, wAndV, wOrV, wNotV, wIfE, wChain, aNil, aCons, aStar, wLst, wTup, wIx, nIx, pNo, pSo, wSl, wRev, wRevE, mIndex, wLenSet, cRepr, wIsB, wCB, cLen, cAll, cSum, cMax, cMin, cSorted, cInt, cList, cTuple, cIsi, wBits, wLRg, wBM, wBM0, mChg, wDGet, wDIn, wDNew, sDPutD, wIn, nIn, wCall, wCallK, wNew, tYesD, startD, List.map_cons, List.map_nil, List.length_cons, List.length_nil, List.replicate, Nat.sub_self, List.append_nil, List.cons_append, List.nil_append, List.getElem?_cons_zero, List.getElem?_cons_succ, List.set_cons_zero, List.set_cons_succ, Nat.reduceSub, Nat.reduceAdd, ite_true, ite_false, if_true, if_false, Bool.false_eq_true, Bool.true_eq_false, Bool.not_true, Bool.not_false, Option.some.injEq, nrm_non, nrm_bl, nrm_int, nrm_str, nrm_ty, nrm_lst, nrm_tupC, nrm_dct, nrm_scr, nrm_setL, wFgt, tyN_non, tyN_bl, tyN_int, tyN_str, tyN_lst, tyN_tup, tyN_dct, keyD_int, keyD_str, isA, okT, beq_self_eq_true, String.reduceBEq, Bool.or_false, Bool.or_true, Bool.and_false, Bool.and_true, Bool.true_or, Bool.false_or, Bool.true_and, Bool.false_and, true_and, and_true, List.any_cons, List.any_nil, tyNames, Option.map_some, iRn1, iRn2, iRn3, iLst, nIt, iTp, iEn, iZp, iSt, wipeD, atI0, atI1, atI2, atI3, ixN0, ixN1, ixN2, ixN3, wSub, wLt, wLe, wGt, wGe, wDiv, wMod, wPow, wShl, Mp.set_same, Mp.set_set, cSortedA, cDictP, wNewD, wEqS, nEqS, wFrzT, mExt, mCnt, nIxL, sAugS, wSlS, wJoin, cSumL, dUnl, cSortLL, cMinLL, wLenSetT, wLenDictT, mIndexB, wLenSetJ, wAddT, wSortSet, wDNewT, sDPutT, cSortDT, wBMd, wDGet1, wDGet2, mUpd, wPairs, wDisp, wLtS, cMinS, cListD]
      refine ⟨s8 2 (by omega), p, vs, _, _, rfl, Mp.set_same, hv, by omega, by decide, by decide, fun y ys hy hys => ?_⟩
      have hb : ∃ b, y = .str (sgn b) := by
        simp only [List.mem_cons, List.not_mem_nil, or_false] at hy
        rcases hy with rfl | rfl
        · exact ⟨true, rfl⟩
        · exact ⟨false, rfl⟩
      obtain ⟨b, rfl⟩ := hb
      exact ⟨bs ++ [b], ys, by rw [List.map_append]; rfl, by simp, hys.mono (by omega), by rw [Mp.set_set]⟩
    obtain ⟨bs, vs, rfl, hbl, hv, rfl⟩ := w
    rw [rngD_ints, List.length_map, rngI_length] at hbl hv
    simp only [sRet, sRetN, sIf, sDrop, sNever, sNext, sBreak, sCont, sAsg, sPar, sPar3, sAug, dName, dNil, dCons, dTup, dSub, sSetL, wVar, wC, wFrz, wFrzK, wOp, wAdd, nAdd, nI, nI0, wMul, nMul, wNeg, wEq, nEq, wIsN, wB, wAndT, wOrT, wNotT, wAndV, wOrV, wNotV, wIfE, wChain, aNil, aCons, aStar, wLst, wTup, wIx, nIx, pNo, pSo, wSl, wRev, wRevE, mIndex, wLenSet, cRepr, wIsB, wCB, cLen, cAll, cSum, cMax, cMin, cSorted, cInt, cList, cTuple, cIsi, wBits, wLRg, wBM, wBM0, mChg, wDGet, wDIn, wDNew, sDPutD, wIn, nIn, wCall, wCallK, wNew, tYesD, startD, List.map_cons, List.map_nil, List.length_cons, List.length_nil, List.replicate, Nat.sub_self, List.append_nil, List.cons_append, List.nil_append, List.getElem?_cons_zero, List.getElem?_cons_succ, List.set_cons_zero, List.set_cons_succ, Nat.reduceSub, Nat.reduceAdd, ite_true, ite_false, if_true, if_false, Bool.false_eq_true, Bool.true_eq_false, Bool.not_true, Bool.not_false, Option.some.injEq, nrm_non, nrm_bl, nrm_int, nrm_str, nrm_ty, nrm_lst, nrm_tupC, nrm_dct, nrm_scr, nrm_setL, wFgt, tyN_non, tyN_bl, tyN_int, tyN_str, tyN_lst, tyN_tup, tyN_dct, keyD_int, keyD_str, isA, okT, beq_self_eq_true, String.reduceBEq, Bool.or_false, Bool.or_true, Bool.and_false, Bool.and_true, Bool.true_or, Bool.false_or, Bool.true_and, Bool.false_and, true_and, and_true, List.any_cons, List.any_nil, tyNames, Option.map_some, iRn1, iRn2, iRn3, iLst, nIt, iTp, iEn, iZp, iSt, wipeD, atI0, atI1, atI2, atI3, ixN0, ixN1, ixN2, ixN3, wSub, wLt, wLe, wGt, wGe, wDiv, wMod, wPow, wShl, Mp.set_same, Mp.set_set, cSortedA, cDictP, wNewD, wEqS, nEqS, wFrzT, mExt, mCnt, nIxL, sAugS, wSlS, wJoin, cSumL, dUnl, cSortLL, cMinLL, wLenSetT, wLenDictT, mIndexB, wLenSetJ, wAddT, wSortSet, wDNewT, sDPutT, cSortDT, wBMd, wDGet1, wDGet2, mUpd, wPairs, wDisp, wLtS, cMinS, cListD, strsD_sgn, sum_sgn, join_word]
    have hle0 : (Str.ofString "").length = 0 := rfl
    refine ⟨by rw [hle0]; omega, ?_⟩
    exact hnx _ _ ⟨bs, vs, rfl, by omega, hv.mono (by omega), rfl⟩
  obtain ⟨bs, vs, rfl, hbl, hv2, rfl⟩ := w
  have hle : MLe (M.set p (.lst vs)) (M.set p (.lst vs)) := MLe.refl _
  have hM0p : (M.set p (.lst vs)) p = some (.lst vs) := Mp.set_same
  generalize hM0 : M.set p (.lst vs) = M0 at hle hM0p ⊢
  ((try simp only [sSeq]); simp only [sRet, sRetN, sIf, sDrop, sNever, sNext, sBreak, sCont, sAsg, sPar, sPar3, sAug, dName, dNil, dCons, dTup, dSub, sSetL, wVar, wC, wFrz, wFrzK, wOp, wAdd, nAdd, nI, nI0, wMul, nMul, wNeg, wEq, nEq, wIsN, wB, wAndT, wOrT, wNotT, wAndV, wOrV, wNotV, wIfE, wChain, aNil, aCons, aStar, wLst, wTup, wIx, nIx, pNo, pSo, wSl, wRev, wRevE, mIndex, wLenSet, cRepr, wIsB, wCB, cLen, cAll, cSum, cMax, cMin, cSorted, cInt, cList, cTuple, cIsi, wBits, wLRg, wBM, wBM0, mChg, wDGet, wDIn, wDNew, sDPutD, wIn, nIn, wCall, wCallK, wNew, tYesD, startD, List.map_cons, List.map_nil, List.length_cons, List.length_nil, List.replicate, Nat.sub_self, List.append_nil, List.cons_append, List.nil_append, List.getElem?_cons_zero, List.getElem?_cons_succ, List.set_cons_zero, List.set_cons_succ, Nat.reduceSub, Nat.reduceAdd, ite_true, ite_false, if_true, if_false, Bool.false_eq_true, Bool.true_eq_false, Bool.not_true, Bool.not_false, Option.some.injEq, nrm_non, nrm_bl, nrm_int, nrm_str, nrm_ty, nrm_lst, nrm_tupC, nrm_dct, nrm_scr, nrm_setL, wFgt, tyN_non, tyN_bl, tyN_int, tyN_str, tyN_lst, tyN_tup, tyN_dct, keyD_int, keyD_str, isA, okT, beq_self_eq_true, String.reduceBEq, Bool.or_false, Bool.or_true, Bool.and_false, Bool.and_true, Bool.true_or, Bool.false_or, Bool.true_and, Bool.false_and, true_and, and_true, List.any_cons, List.any_nil, tyNames, Option.map_some, iRn1, iRn2, iRn3, iLst, nIt, iTp, iEn, iZp, iSt, wipeD, atI0, atI1, atI2, atI3, ixN0, ixN1, ixN2, ixN3, wSub, wLt, wLe, wGt, wGe, wDiv, wMod, wPow, wShl, Mp.set_same, Mp.set_set, cSortedA, cDictP, wNewD, wEqS, nEqS, wFrzT, mExt, mCnt, nIxL, sAugS, wSlS, wJoin, cSumL, dUnl, cSortLL, cMinLL, wLenSetT, wLenDictT, mIndexB, wLenSetJ, wAddT, wSortSet, wDNewT, sDPutT, cSortDT, wBMd, wDGet1, wDGet2, mUpd, wPairs, wDisp, wLtS, cMinS, cListD])
  refine ⟨n, bs, rfl, by omega, by omega, ?_⟩
  rw [lawDone_eq hn]
  have hdl : (doneI n bs).length ≤ 60 := by
    rw [← lawDone_eq hn]; unfold lawDone; rw [lawDone_len bs _ rngI_length]; omega
  generalize hdI : doneI n bs = ds at hdl
  ((try simp only [sSeq]); simp only [sRet, sRetN, sIf, sDrop, sNever, sNext, sBreak, sCont, sAsg, sPar, sPar3, sAug, dName, dNil, dCons, dTup, dSub, sSetL, wVar, wC, wFrz, wFrzK, wOp, wAdd, nAdd, nI, nI0, wMul, nMul, wNeg, wEq, nEq, wIsN, wB, wAndT, wOrT, wNotT, wAndV, wOrV, wNotV, wIfE, wChain, aNil, aCons, aStar, wLst, wTup, wIx, nIx, pNo, pSo, wSl, wRev, wRevE, mIndex, wLenSet, cRepr, wIsB, wCB, cLen, cAll, cSum, cMax, cMin, cSorted, cInt, cList, cTuple, cIsi, wBits, wLRg, wBM, wBM0, mChg, wDGet, wDIn, wDNew, sDPutD, wIn, nIn, wCall, wCallK, wNew, tYesD, startD, List.map_cons, List.map_nil, List.length_cons, List.length_nil, List.replicate, Nat.sub_self, List.append_nil, List.cons_append, List.nil_append, List.getElem?_cons_zero, List.getElem?_cons_succ, List.set_cons_zero, List.set_cons_succ, Nat.reduceSub, Nat.reduceAdd, ite_true, ite_false, if_true, if_false, Bool.false_eq_true, Bool.true_eq_false, Bool.not_true, Bool.not_false, Option.some.injEq, nrm_non, nrm_bl, nrm_int, nrm_str, nrm_ty, nrm_lst, nrm_tupC, nrm_dct, nrm_scr, nrm_setL, wFgt, tyN_non, tyN_bl, tyN_int, tyN_str, tyN_lst, tyN_tup, tyN_dct, keyD_int, keyD_str, isA, okT, beq_self_eq_true, String.reduceBEq, Bool.or_false, Bool.or_true, Bool.and_false, Bool.and_true, Bool.true_or, Bool.false_or, Bool.true_and, Bool.false_and, true_and, and_true, List.any_cons, List.any_nil, tyNames, Option.map_some, iRn1, iRn2, iRn3, iLst, nIt, iTp, iEn, iZp, iSt, wipeD, atI0, atI1, atI2, atI3, ixN0, ixN1, ixN2, ixN3, wSub, wLt, wLe, wGt, wGe, wDiv, wMod, wPow, wShl, Mp.set_same, Mp.set_set, cSortedA, cDictP, wNewD, wEqS, nEqS, wFrzT, mExt, mCnt, nIxL, sAugS, wSlS, wJoin, cSumL, dUnl, cSortLL, cMinLL, wLenSetT, wLenDictT, mIndexB, wLenSetJ, wAddT, wSortSet, wDNewT, sDPutT, cSortDT, wBMd, wDGet1, wDGet2, mUpd, wPairs, wDisp, wLtS, cMinS, cListD])
  refine ⟨n, bs, rfl, by omega, by omega, fun f1 g1 => ?_⟩
  rw [hdI]
  have hMf : (M0.set f1 (.lst (ds.map .int))) f1 = some (.lst (ds.map .int)) := Mp.set_same
  have okU : okD 7 (.lst (ds.map .int)) = true := okD_ints (by omega)
  ((try simp only [sSeq]); simp only [sRet, sRetN, sIf, sDrop, sNever, sNext, sBreak, sCont, sAsg, sPar, sPar3, sAug, dName, dNil, dCons, dTup, dSub, sSetL, wVar, wC, wFrz, wFrzK, wOp, wAdd, nAdd, nI, nI0, wMul, nMul, wNeg, wEq, nEq, wIsN, wB, wAndT, wOrT, wNotT, wAndV, wOrV, wNotV, wIfE, wChain, aNil, aCons, aStar, wLst, wTup, wIx, nIx, pNo, pSo, wSl, wRev, wRevE, mIndex, wLenSet, cRepr, wIsB, wCB, cLen, cAll, cSum, cMax, cMin, cSorted, cInt, cList, cTuple, cIsi, wBits, wLRg, wBM, wBM0, mChg, wDGet, wDIn, wDNew, sDPutD, wIn, nIn, wCall, wCallK, wNew, tYesD, startD, List.map_cons, List.map_nil, List.length_cons, List.length_nil, List.replicate, Nat.sub_self, List.append_nil, List.cons_append, List.nil_append, List.getElem?_cons_zero, List.getElem?_cons_succ, List.set_cons_zero, List.set_cons_succ, Nat.reduceSub, Nat.reduceAdd, ite_true, ite_false, if_true, if_false, Bool.false_eq_true, Bool.true_eq_false, Bool.not_true, Bool.not_false, Option.some.injEq, nrm_non, nrm_bl, nrm_int, nrm_str, nrm_ty, nrm_lst, nrm_tupC, nrm_dct, nrm_scr, nrm_setL, wFgt, tyN_non, tyN_bl, tyN_int, tyN_str, tyN_lst, tyN_tup, tyN_dct, keyD_int, keyD_str, isA, okT, beq_self_eq_true, String.reduceBEq, Bool.or_false, Bool.or_true, Bool.and_false, Bool.and_true, Bool.true_or, Bool.false_or, Bool.true_and, Bool.false_and, true_and, and_true, List.any_cons, List.any_nil, tyNames, Option.map_some, iRn1, iRn2, iRn3, iLst, nIt, iTp, iEn, iZp, iSt, wipeD, atI0, atI1, atI2, atI3, ixN0, ixN1, ixN2, ixN3, wSub, wLt, wLe, wGt, wGe, wDiv, wMod, wPow, wShl, Mp.set_same, Mp.set_set, cSortedA, cDictP, wNewD, wEqS, nEqS, wFrzT, mExt, mCnt, nIxL, sAugS, wSlS, wJoin, cSumL, dUnl, cSortLL, cMinLL, wLenSetT, wLenDictT, mIndexB, wLenSetJ, wAddT, wSortSet, wDNewT, sDPutT, cSortDT, wBMd, wDGet1, wDGet2, mUpd, wPairs, wDisp, wLtS, cMinS, cListD])
  refine ⟨[some (.ref p), some (.int n), some (.str (wordS bs)), some (.lst (ds.map .int)), some (.lst (ds.map .int)), none, none, none, none, none, none, none], .skip (.skip (.skip (.skip (.cons (.ref hMf (.same _)) (.same _))))), ?_⟩
  simp only [sRet, sRetN, sIf, sDrop, sNever, sNext, sBreak, sCont, sAsg, sPar, sPar3, sAug, dName, dNil, dCons, dTup, dSub, sSetL, wVar, wC, wFrz, wFrzK, wOp, wAdd, nAdd, nI, nI0, wMul, nMul, wNeg, wEq, nEq, wIsN, wB, wAndT, wOrT, wNotT, wAndV, wOrV, wNotV, wIfE, wChain, aNil, aCons, aStar, wLst, wTup, wIx, nIx, pNo, pSo, wSl, wRev, wRevE, mIndex, wLenSet, cRepr, wIsB, wCB, cLen, cAll, cSum, cMax, cMin, cSorted, cInt, cList, cTuple, cIsi, wBits, wLRg, wBM, wBM0, mChg, wDGet, wDIn, wDNew, sDPutD, wIn, nIn, wCall, wCallK, wNew, tYesD, startD, List.map_cons, List.map_nil, List.length_cons, List.length_nil, List.replicate, Nat.sub_self, List.append_nil, List.cons_append, List.nil_append, List.getElem?_cons_zero, List.getElem?_cons_succ, List.set_cons_zero, List.set_cons_succ, Nat.reduceSub, Nat.reduceAdd, ite_true, ite_false, if_true, if_false, Bool.false_eq_true, Bool.true_eq_false, Bool.not_true, Bool.not_false, Option.some.injEq, nrm_non, nrm_bl, nrm_int, nrm_str, nrm_ty, nrm_lst, nrm_tupC, nrm_dct, nrm_scr, nrm_setL, wFgt, tyN_non, tyN_bl, tyN_int, tyN_str, tyN_lst, tyN_tup, tyN_dct, keyD_int, keyD_str, isA, okT, beq_self_eq_true, String.reduceBEq, Bool.or_false, Bool.or_true, Bool.and_false, Bool.and_true, Bool.true_or, Bool.false_or, Bool.true_and, Bool.false_and, true_and, and_true, List.any_cons, List.any_nil, tyNames, Option.map_some, iRn1, iRn2, iRn3, iLst, nIt, iTp, iEn, iZp, iSt, wipeD, atI0, atI1, atI2, atI3, ixN0, ixN1, ixN2, ixN3, wSub, wLt, wLe, wGt, wGe, wDiv, wMod, wPow, wShl, Mp.set_same, Mp.set_set, cSortedA, cDictP, wNewD, wEqS, nEqS, wFrzT, mExt, mCnt, nIxL, sAugS, wSlS, wJoin, cSumL, dUnl, cSortLL, cMinLL, wLenSetT, wLenDictT, mIndexB, wLenSetJ, wAddT, wSortSet, wDNewT, sDPutT, cSortDT, wBMd, wDGet1, wDGet2, mUpd, wPairs, wDisp, wLtS, cMinS, cListD, pick]
  refine ⟨s8 2 (by omega), n, bs, rfl, by omega, by omega, fun f2 g2 => frz_new g2 ⟨s8 2 (by omega), ?_⟩⟩
  rw [hdI]
  refine ⟨_, rfl, okD_L (by simp) (okDs_cons okU (okDs_cons okU okDs_nil)), ?_⟩
  simp only [sRet, sRetN, sIf, sDrop, sNever, sNext, sBreak, sCont, sAsg, sPar, sPar3, sAug, dName, dNil, dCons, dTup, dSub, sSetL, wVar, wC, wFrz, wFrzK, wOp, wAdd, nAdd, nI, nI0, wMul, nMul, wNeg, wEq, nEq, wIsN, wB, wAndT, wOrT, wNotT, wAndV, wOrV, wNotV, wIfE, wChain, aNil, aCons, aStar, wLst, wTup, wIx, nIx, pNo, pSo, wSl, wRev, wRevE, mIndex, wLenSet, cRepr, wIsB, wCB, cLen, cAll, cSum, cMax, cMin, cSorted, cInt, cList, cTuple, cIsi, wBits, wLRg, wBM, wBM0, mChg, wDGet, wDIn, wDNew, sDPutD, wIn, nIn, wCall, wCallK, wNew, tYesD, startD, List.map_cons, List.map_nil, List.length_cons, List.length_nil, List.replicate, Nat.sub_self, List.append_nil, List.cons_append, List.nil_append, List.getElem?_cons_zero, List.getElem?_cons_succ, List.set_cons_zero, List.set_cons_succ, Nat.reduceSub, Nat.reduceAdd, ite_true, ite_false, if_true, if_false, Bool.false_eq_true, Bool.true_eq_false, Bool.not_true, Bool.not_false, Option.some.injEq, nrm_non, nrm_bl, nrm_int, nrm_str, nrm_ty, nrm_lst, nrm_tupC, nrm_dct, nrm_scr, nrm_setL, wFgt, tyN_non, tyN_bl, tyN_int, tyN_str, tyN_lst, tyN_tup, tyN_dct, keyD_int, keyD_str, isA, okT, beq_self_eq_true, String.reduceBEq, Bool.or_false, Bool.or_true, Bool.and_false, Bool.and_true, Bool.true_or, Bool.false_or, Bool.true_and, Bool.false_and, true_and, and_true, List.any_cons, List.any_nil, tyNames, Option.map_some, iRn1, iRn2, iRn3, iLst, nIt, iTp, iEn, iZp, iSt, wipeD, atI0, atI1, atI2, atI3, ixN0, ixN1, ixN2, ixN3, wSub, wLt, wLe, wGt, wGe, wDiv, wMod, wPow, wShl, Mp.set_same, Mp.set_set, cSortedA, cDictP, wNewD, wEqS, nEqS, wFrzT, mExt, mCnt, nIxL, sAugS, wSlS, wJoin, cSumL, dUnl, cSortLL, cMinLL, wLenSetT, wLenDictT, mIndexB, wLenSetJ, wAddT, wSortSet, wDNewT, sDPutT, cSortDT, wBMd, wDGet1, wDGet2, mUpd, wPairs, wDisp, wLtS, cMinS, cListD]
  have ga := gAppend_ok (xs := ds.map D.int) (x := .str "late") (by rw [List.length_map]; omega)
  ((try simp only [sSeq]); simp only [sRet, sRetN, sIf, sDrop, sNever, sNext, sBreak, sCont, sAsg, sPar, sPar3, sAug, dName, dNil, dCons, dTup, dSub, sSetL, wVar, wC, wFrz, wFrzK, wOp, wAdd, nAdd, nI, nI0, wMul, nMul, wNeg, wEq, nEq, wIsN, wB, wAndT, wOrT, wNotT, wAndV, wOrV, wNotV, wIfE, wChain, aNil, aCons, aStar, wLst, wTup, wIx, nIx, pNo, pSo, wSl, wRev, wRevE, mIndex, wLenSet, cRepr, wIsB, wCB, cLen, cAll, cSum, cMax, cMin, cSorted, cInt, cList, cTuple, cIsi, wBits, wLRg, wBM, wBM0, mChg, wDGet, wDIn, wDNew, sDPutD, wIn, nIn, wCall, wCallK, wNew, tYesD, startD, List.map_cons, List.map_nil, List.length_cons, List.length_nil, List.replicate, Nat.sub_self, List.append_nil, List.cons_append, List.nil_append, List.getElem?_cons_zero, List.getElem?_cons_succ, List.set_cons_zero, List.set_cons_succ, Nat.reduceSub, Nat.reduceAdd, ite_true, ite_false, if_true, if_false, Bool.false_eq_true, Bool.true_eq_false, Bool.not_true, Bool.not_false, Option.some.injEq, nrm_non, nrm_bl, nrm_int, nrm_str, nrm_ty, nrm_lst, nrm_tupC, nrm_dct, nrm_scr, nrm_setL, wFgt, tyN_non, tyN_bl, tyN_int, tyN_str, tyN_lst, tyN_tup, tyN_dct, keyD_int, keyD_str, isA, okT, beq_self_eq_true, String.reduceBEq, Bool.or_false, Bool.or_true, Bool.and_false, Bool.and_true, Bool.true_or, Bool.false_or, Bool.true_and, Bool.false_and, true_and, and_true, List.any_cons, List.any_nil, tyNames, Option.map_some, iRn1, iRn2, iRn3, iLst, nIt, iTp, iEn, iZp, iSt, wipeD, atI0, atI1, atI2, atI3, ixN0, ixN1, ixN2, ixN3, wSub, wLt, wLe, wGt, wGe, wDiv, wMod, wPow, wShl, Mp.set_same, Mp.set_set, cSortedA, cDictP, wNewD, wEqS, nEqS, wFrzT, mExt, mCnt, nIxL, sAugS, wSlS, wJoin, cSumL, dUnl, cSortLL, cMinLL, wLenSetT, wLenDictT, mIndexB, wLenSetJ, wAddT, wSortSet, wDNewT, sDPutT, cSortDT, wBMd, wDGet1, wDGet2, mUpd, wPairs, wDisp, wLtS, cMinS, cListD, isL_lst hMf, hMf, ga])
  by_cases h0 : n = 0
  · subst h0
    ((try simp only [sSeq]); simp only [sRet, sRetN, sIf, sDrop, sNever, sNext, sBreak, sCont, sAsg, sPar, sPar3, sAug, dName, dNil, dCons, dTup, dSub, sSetL, wVar, wC, wFrz, wFrzK, wOp, wAdd, nAdd, nI, nI0, wMul, nMul, wNeg, wEq, nEq, wIsN, wB, wAndT, wOrT, wNotT, wAndV, wOrV, wNotV, wIfE, wChain, aNil, aCons, aStar, wLst, wTup, wIx, nIx, pNo, pSo, wSl, wRev, wRevE, mIndex, wLenSet, cRepr, wIsB, wCB, cLen, cAll, cSum, cMax, cMin, cSorted, cInt, cList, cTuple, cIsi, wBits, wLRg, wBM, wBM0, mChg, wDGet, wDIn, wDNew, sDPutD, wIn, nIn, wCall, wCallK, wNew, tYesD, startD, List.map_cons, List.map_nil, List.length_cons, List.length_nil, List.replicate, Nat.sub_self, List.append_nil, List.cons_append, List.nil_append, List.getElem?_cons_zero, List.getElem?_cons_succ, List.set_cons_zero, List.set_cons_succ, Nat.reduceSub, Nat.reduceAdd, ite_true, ite_false, if_true, if_false, Bool.false_eq_true, Bool.true_eq_false, Bool.not_true, Bool.not_false, Option.some.injEq, nrm_non, nrm_bl, nrm_int, nrm_str, nrm_ty, nrm_lst, nrm_tupC, nrm_dct, nrm_scr, nrm_setL, wFgt, tyN_non, tyN_bl, tyN_int, tyN_str, tyN_lst, tyN_tup, tyN_dct, keyD_int, keyD_str, isA, okT, beq_self_eq_true, String.reduceBEq, Bool.or_false, Bool.or_true, Bool.and_false, Bool.and_true, Bool.true_or, Bool.false_or, Bool.true_and, Bool.false_and, true_and, and_true, List.any_cons, List.any_nil, tyNames, Option.map_some, iRn1, iRn2, iRn3, iLst, nIt, iTp, iEn, iZp, iSt, wipeD, atI0, atI1, atI2, atI3, ixN0, ixN1, ixN2, ixN3, wSub, wLt, wLe, wGt, wGe, wDiv, wMod, wPow, wShl, Mp.set_same, Mp.set_set, cSortedA, cDictP, wNewD, wEqS, nEqS, wFrzT, mExt, mCnt, nIxL, sAugS, wSlS, wJoin, cSumL, dUnl, cSortLL, cMinLL, wLenSetT, wLenDictT, mIndexB, wLenSetJ, wAddT, wSortSet, wDNewT, sDPutT, cSortDT, wBMd, wDGet1, wDGet2, mUpd, wPairs, wDisp, wLtS, cMinS, cListD])
    refine ⟨0, bs, rfl, by omega, by omega, fun f3 g3 => frz_new g3 ?_⟩
    have hd0 : doneI 0 bs = [] := by
      rw [← lawDone_eq (by omega)]
      exact List.length_eq_zero_iff.mp (lawDone_len bs _ rngI_length)
    rw [hd0]
    have dn : deq (.lst []) (.lst []) = true := deq_refl pdOk_nil
    simp only [sRet, sRetN, sIf, sDrop, sNever, sNext, sBreak, sCont, sAsg, sPar, sPar3, sAug, dName, dNil, dCons, dTup, dSub, sSetL, wVar, wC, wFrz, wFrzK, wOp, wAdd, nAdd, nI, nI0, wMul, nMul, wNeg, wEq, nEq, wIsN, wB, wAndT, wOrT, wNotT, wAndV, wOrV, wNotV, wIfE, wChain, aNil, aCons, aStar, wLst, wTup, wIx, nIx, pNo, pSo, wSl, wRev, wRevE, mIndex, wLenSet, cRepr, wIsB, wCB, cLen, cAll, cSum, cMax, cMin, cSorted, cInt, cList, cTuple, cIsi, wBits, wLRg, wBM, wBM0, mChg, wDGet, wDIn, wDNew, sDPutD, wIn, nIn, wCall, wCallK, wNew, tYesD, startD, List.map_cons, List.map_nil, List.length_cons, List.length_nil, List.replicate, Nat.sub_self, List.append_nil, List.cons_append, List.nil_append, List.getElem?_cons_zero, List.getElem?_cons_succ, List.set_cons_zero, List.set_cons_succ, Nat.reduceSub, Nat.reduceAdd, ite_true, ite_false, if_true, if_false, Bool.false_eq_true, Bool.true_eq_false, Bool.not_true, Bool.not_false, Option.some.injEq, nrm_non, nrm_bl, nrm_int, nrm_str, nrm_ty, nrm_lst, nrm_tupC, nrm_dct, nrm_scr, nrm_setL, wFgt, tyN_non, tyN_bl, tyN_int, tyN_str, tyN_lst, tyN_tup, tyN_dct, keyD_int, keyD_str, isA, okT, beq_self_eq_true, String.reduceBEq, Bool.or_false, Bool.or_true, Bool.and_false, Bool.and_true, Bool.true_or, Bool.false_or, Bool.true_and, Bool.false_and, true_and, and_true, List.any_cons, List.any_nil, tyNames, Option.map_some, iRn1, iRn2, iRn3, iLst, nIt, iTp, iEn, iZp, iSt, wipeD, atI0, atI1, atI2, atI3, ixN0, ixN1, ixN2, ixN3, wSub, wLt, wLe, wGt, wGe, wDiv, wMod, wPow, wShl, Mp.set_same, Mp.set_set, cSortedA, cDictP, wNewD, wEqS, nEqS, wFrzT, mExt, mCnt, nIxL, sAugS, wSlS, wJoin, cSumL, dUnl, cSortLL, cMinLL, wLenSetT, wLenDictT, mIndexB, wLenSetJ, wAddT, wSortSet, wDNewT, sDPutT, cSortDT, wBMd, wDGet1, wDGet2, mUpd, wPairs, wDisp, wLtS, cMinS, cListD, pdOk_nil, dn]
    exact ⟨s8 0 (by omega), M.set p (.lst vs), by rw [hM0]; exact hle.put g1, q vs (hv2.mono (by omega))⟩
  · have e0 : decide ((n : Int) = 0) = false := decide_eq_false (by omega)
    have hle1 : MLe M0 (M0.set f1 (.lst (ds.map D.int ++ [D.str (Str.ofString "late")]))) := hle.put g1
    generalize M0.set f1 (.lst (ds.map D.int ++ [D.str (Str.ofString "late")])) = M1 at hle1 hMf
    subst hM0
    ((try simp only [sSeq]); simp only [sRet, sRetN, sIf, sDrop, sNever, sNext, sBreak, sCont, sAsg, sPar, sPar3, sAug, dName, dNil, dCons, dTup, dSub, sSetL, wVar, wC, wFrz, wFrzK, wOp, wAdd, nAdd, nI, nI0, wMul, nMul, wNeg, wEq, nEq, wIsN, wB, wAndT, wOrT, wNotT, wAndV, wOrV, wNotV, wIfE, wChain, aNil, aCons, aStar, wLst, wTup, wIx, nIx, pNo, pSo, wSl, wRev, wRevE, mIndex, wLenSet, cRepr, wIsB, wCB, cLen, cAll, cSum, cMax, cMin, cSorted, cInt, cList, cTuple, cIsi, wBits, wLRg, wBM, wBM0, mChg, wDGet, wDIn, wDNew, sDPutD, wIn, nIn, wCall, wCallK, wNew, tYesD, startD, List.map_cons, List.map_nil, List.length_cons, List.length_nil, List.replicate, Nat.sub_self, List.append_nil, List.cons_append, List.nil_append, List.getElem?_cons_zero, List.getElem?_cons_succ, List.set_cons_zero, List.set_cons_succ, Nat.reduceSub, Nat.reduceAdd, ite_true, ite_false, if_true, if_false, Bool.false_eq_true, Bool.true_eq_false, Bool.not_true, Bool.not_false, Option.some.injEq, nrm_non, nrm_bl, nrm_int, nrm_str, nrm_ty, nrm_lst, nrm_tupC, nrm_dct, nrm_scr, nrm_setL, wFgt, tyN_non, tyN_bl, tyN_int, tyN_str, tyN_lst, tyN_tup, tyN_dct, keyD_int, keyD_str, isA, okT, beq_self_eq_true, String.reduceBEq, Bool.or_false, Bool.or_true, Bool.and_false, Bool.and_true, Bool.true_or, Bool.false_or, Bool.true_and, Bool.false_and, true_and, and_true, List.any_cons, List.any_nil, tyNames, Option.map_some, iRn1, iRn2, iRn3, iLst, nIt, iTp, iEn, iZp, iSt, wipeD, atI0, atI1, atI2, atI3, ixN0, ixN1, ixN2, ixN3, wSub, wLt, wLe, wGt, wGe, wDiv, wMod, wPow, wShl, Mp.set_same, Mp.set_set, cSortedA, cDictP, wNewD, wEqS, nEqS, wFrzT, mExt, mCnt, nIxL, sAugS, wSlS, wJoin, cSumL, dUnl, cSortLL, cMinLL, wLenSetT, wLenDictT, mIndexB, wLenSetJ, wAddT, wSortSet, wDNewT, sDPutT, cSortDT, wBMd, wDGet1, wDGet2, mUpd, wPairs, wDisp, wLtS, cMinS, cListD, e0])
    refine ⟨p, vs, n, _, rfl, hle1 p _ hM0p, hv2, by omega, by omega, by omega, fun a ys1 ha0 ha1 hy1 => ?_⟩
    obtain ⟨a, rfl⟩ := Int.eq_ofNat_of_zero_le ha0
    have han : a < n := by omega
    have hle2 : MLe (M.set p (.lst ys1)) (M1.set p (.lst ys1)) := by
      have := hle1.set2 (p := p) (m := .lst ys1)
      rwa [Mp.set_set] at this
    generalize M1.set p (.lst ys1) = M2 at hle2
    ((try simp only [sSeq]); simp only [sRet, sRetN, sIf, sDrop, sNever, sNext, sBreak, sCont, sAsg, sPar, sPar3, sAug, dName, dNil, dCons, dTup, dSub, sSetL, wVar, wC, wFrz, wFrzK, wOp, wAdd, nAdd, nI, nI0, wMul, nMul, wNeg, wEq, nEq, wIsN, wB, wAndT, wOrT, wNotT, wAndV, wOrV, wNotV, wIfE, wChain, aNil, aCons, aStar, wLst, wTup, wIx, nIx, pNo, pSo, wSl, wRev, wRevE, mIndex, wLenSet, cRepr, wIsB, wCB, cLen, cAll, cSum, cMax, cMin, cSorted, cInt, cList, cTuple, cIsi, wBits, wLRg, wBM, wBM0, mChg, wDGet, wDIn, wDNew, sDPutD, wIn, nIn, wCall, wCallK, wNew, tYesD, startD, List.map_cons, List.map_nil, List.length_cons, List.length_nil, List.replicate, Nat.sub_self, List.append_nil, List.cons_append, List.nil_append, List.getElem?_cons_zero, List.getElem?_cons_succ, List.set_cons_zero, List.set_cons_succ, Nat.reduceSub, Nat.reduceAdd, ite_true, ite_false, if_true, if_false, Bool.false_eq_true, Bool.true_eq_false, Bool.not_true, Bool.not_false, Option.some.injEq, nrm_non, nrm_bl, nrm_int, nrm_str, nrm_ty, nrm_lst, nrm_tupC, nrm_dct, nrm_scr, nrm_setL, wFgt, tyN_non, tyN_bl, tyN_int, tyN_str, tyN_lst, tyN_tup, tyN_dct, keyD_int, keyD_str, isA, okT, beq_self_eq_true, String.reduceBEq, Bool.or_false, Bool.or_true, Bool.and_false, Bool.and_true, Bool.true_or, Bool.false_or, Bool.true_and, Bool.false_and, true_and, and_true, List.any_cons, List.any_nil, tyNames, Option.map_some, iRn1, iRn2, iRn3, iLst, nIt, iTp, iEn, iZp, iSt, wipeD, atI0, atI1, atI2, atI3, ixN0, ixN1, ixN2, ixN3, wSub, wLt, wLe, wGt, wGe, wDiv, wMod, wPow, wShl, Mp.set_same, Mp.set_set, cSortedA, cDictP, wNewD, wEqS, nEqS, wFrzT, mExt, mCnt, nIxL, sAugS, wSlS, wJoin, cSumL, dUnl, cSortLL, cMinLL, wLenSetT, wLenDictT, mIndexB, wLenSetJ, wAddT, wSortSet, wDNewT, sDPutT, cSortDT, wBMd, wDGet1, wDGet2, mUpd, wPairs, wDisp, wLtS, cMinS, cListD])
    refine ⟨a, rfl, by omega, ?_⟩
    have hfl : (figs a).length ≤ 64 := by have := figGo_len 64 a []; unfold figs; simpa using this
    have hdf : (lawDone n (figs a)).length = n := lawDone_len _ _ rngI_length
    have hat : atI ((lawDone n (figs a)).map D.int) (a : Int) = some (.int 0) := by
      have h := lawDone_at (n := n) (bs := figs a) (p := 0) (by omega)
      rw [figs_walk han (by omega)] at h
      rw [atI_int (by omega) (by omega), Int.toNat_natCast, h]
      rfl
    ((try simp only [sSeq]); simp only [sRet, sRetN, sIf, sDrop, sNever, sNext, sBreak, sCont, sAsg, sPar, sPar3, sAug, dName, dNil, dCons, dTup, dSub, sSetL, wVar, wC, wFrz, wFrzK, wOp, wAdd, nAdd, nI, nI0, wMul, nMul, wNeg, wEq, nEq, wIsN, wB, wAndT, wOrT, wNotT, wAndV, wOrV, wNotV, wIfE, wChain, aNil, aCons, aStar, wLst, wTup, wIx, nIx, pNo, pSo, wSl, wRev, wRevE, mIndex, wLenSet, cRepr, wIsB, wCB, cLen, cAll, cSum, cMax, cMin, cSorted, cInt, cList, cTuple, cIsi, wBits, wLRg, wBM, wBM0, mChg, wDGet, wDIn, wDNew, sDPutD, wIn, nIn, wCall, wCallK, wNew, tYesD, startD, List.map_cons, List.map_nil, List.length_cons, List.length_nil, List.replicate, Nat.sub_self, List.append_nil, List.cons_append, List.nil_append, List.getElem?_cons_zero, List.getElem?_cons_succ, List.set_cons_zero, List.set_cons_succ, Nat.reduceSub, Nat.reduceAdd, ite_true, ite_false, if_true, if_false, Bool.false_eq_true, Bool.true_eq_false, Bool.not_true, Bool.not_false, Option.some.injEq, nrm_non, nrm_bl, nrm_int, nrm_str, nrm_ty, nrm_lst, nrm_tupC, nrm_dct, nrm_scr, nrm_setL, wFgt, tyN_non, tyN_bl, tyN_int, tyN_str, tyN_lst, tyN_tup, tyN_dct, keyD_int, keyD_str, isA, okT, beq_self_eq_true, String.reduceBEq, Bool.or_false, Bool.or_true, Bool.and_false, Bool.and_true, Bool.true_or, Bool.false_or, Bool.true_and, Bool.false_and, true_and, and_true, List.any_cons, List.any_nil, tyNames, Option.map_some, iRn1, iRn2, iRn3, iLst, nIt, iTp, iEn, iZp, iSt, wipeD, atI0, atI1, atI2, atI3, ixN0, ixN1, ixN2, ixN3, wSub, wLt, wLe, wGt, wGe, wDiv, wMod, wPow, wShl, Mp.set_same, Mp.set_set, cSortedA, cDictP, wNewD, wEqS, nEqS, wFrzT, mExt, mCnt, nIxL, sAugS, wSlS, wJoin, cSumL, dUnl, cSortLL, cMinLL, wLenSetT, wLenDictT, mIndexB, wLenSetJ, wAddT, wSortSet, wDNewT, sDPutT, cSortDT, wBMd, wDGet1, wDGet2, mUpd, wPairs, wDisp, wLtS, cMinS, cListD])
    refine ⟨s8 3 (by omega), n, a, rfl, han, by omega, ?_⟩
    simp only [sRet, sRetN, sIf, sDrop, sNever, sNext, sBreak, sCont, sAsg, sPar, sPar3, sAug, dName, dNil, dCons, dTup, dSub, sSetL, wVar, wC, wFrz, wFrzK, wOp, wAdd, nAdd, nI, nI0, wMul, nMul, wNeg, wEq, nEq, wIsN, wB, wAndT, wOrT, wNotT, wAndV, wOrV, wNotV, wIfE, wChain, aNil, aCons, aStar, wLst, wTup, wIx, nIx, pNo, pSo, wSl, wRev, wRevE, mIndex, wLenSet, cRepr, wIsB, wCB, cLen, cAll, cSum, cMax, cMin, cSorted, cInt, cList, cTuple, cIsi, wBits, wLRg, wBM, wBM0, mChg, wDGet, wDIn, wDNew, sDPutD, wIn, nIn, wCall, wCallK, wNew, tYesD, startD, List.map_cons, List.map_nil, List.length_cons, List.length_nil, List.replicate, Nat.sub_self, List.append_nil, List.cons_append, List.nil_append, List.getElem?_cons_zero, List.getElem?_cons_succ, List.set_cons_zero, List.set_cons_succ, Nat.reduceSub, Nat.reduceAdd, ite_true, ite_false, if_true, if_false, Bool.false_eq_true, Bool.true_eq_false, Bool.not_true, Bool.not_false, Option.some.injEq, nrm_non, nrm_bl, nrm_int, nrm_str, nrm_ty, nrm_lst, nrm_tupC, nrm_dct, nrm_scr, nrm_setL, wFgt, tyN_non, tyN_bl, tyN_int, tyN_str, tyN_lst, tyN_tup, tyN_dct, keyD_int, keyD_str, isA, okT, beq_self_eq_true, String.reduceBEq, Bool.or_false, Bool.or_true, Bool.and_false, Bool.and_true, Bool.true_or, Bool.false_or, Bool.true_and, Bool.false_and, true_and, and_true, List.any_cons, List.any_nil, tyNames, Option.map_some, iRn1, iRn2, iRn3, iLst, nIt, iTp, iEn, iZp, iSt, wipeD, atI0, atI1, atI2, atI3, ixN0, ixN1, ixN2, ixN3, wSub, wLt, wLe, wGt, wGe, wDiv, wMod, wPow, wShl, Mp.set_same, Mp.set_set, cSortedA, cDictP, wNewD, wEqS, nEqS, wFrzT, mExt, mCnt, nIxL, sAugS, wSlS, wJoin, cSumL, dUnl, cSortLL, cMinLL, wLenSetT, wLenDictT, mIndexB, wLenSetJ, wAddT, wSortSet, wDNewT, sDPutT, cSortDT, wBMd, wDGet1, wDGet2, mUpd, wPairs, wDisp, wLtS, cMinS, cListD, pick]
    refine ⟨n, a, rfl, han, by omega, n, figs a, rfl, by omega, by omega, ?_⟩
    simp only [sRet, sRetN, sIf, sDrop, sNever, sNext, sBreak, sCont, sAsg, sPar, sPar3, sAug, dName, dNil, dCons, dTup, dSub, sSetL, wVar, wC, wFrz, wFrzK, wOp, wAdd, nAdd, nI, nI0, wMul, nMul, wNeg, wEq, nEq, wIsN, wB, wAndT, wOrT, wNotT, wAndV, wOrV, wNotV, wIfE, wChain, aNil, aCons, aStar, wLst, wTup, wIx, nIx, pNo, pSo, wSl, wRev, wRevE, mIndex, wLenSet, cRepr, wIsB, wCB, cLen, cAll, cSum, cMax, cMin, cSorted, cInt, cList, cTuple, cIsi, wBits, wLRg, wBM, wBM0, mChg, wDGet, wDIn, wDNew, sDPutD, wIn, nIn, wCall, wCallK, wNew, tYesD, startD, List.map_cons, List.map_nil, List.length_cons, List.length_nil, List.replicate, Nat.sub_self, List.append_nil, List.cons_append, List.nil_append, List.getElem?_cons_zero, List.getElem?_cons_succ, List.set_cons_zero, List.set_cons_succ, Nat.reduceSub, Nat.reduceAdd, ite_true, ite_false, if_true, if_false, Bool.false_eq_true, Bool.true_eq_false, Bool.not_true, Bool.not_false, Option.some.injEq, nrm_non, nrm_bl, nrm_int, nrm_str, nrm_ty, nrm_lst, nrm_tupC, nrm_dct, nrm_scr, nrm_setL, wFgt, tyN_non, tyN_bl, tyN_int, tyN_str, tyN_lst, tyN_tup, tyN_dct, keyD_int, keyD_str, isA, okT, beq_self_eq_true, String.reduceBEq, Bool.or_false, Bool.or_true, Bool.and_false, Bool.and_true, Bool.true_or, Bool.false_or, Bool.true_and, Bool.false_and, true_and, and_true, List.any_cons, List.any_nil, tyNames, Option.map_some, iRn1, iRn2, iRn3, iLst, nIt, iTp, iEn, iZp, iSt, wipeD, atI0, atI1, atI2, atI3, ixN0, ixN1, ixN2, ixN3, wSub, wLt, wLe, wGt, wGe, wDiv, wMod, wPow, wShl, Mp.set_same, Mp.set_set, cSortedA, cDictP, wNewD, wEqS, nEqS, wFrzT, mExt, mCnt, nIxL, sAugS, wSlS, wJoin, cSumL, dUnl, cSortLL, cMinLL, wLenSetT, wLenDictT, mIndexB, wLenSetJ, wAddT, wSortSet, wDNewT, sDPutT, cSortDT, wBMd, wDGet1, wDGet2, mUpd, wPairs, wDisp, wLtS, cMinS, cListD, hat]
    refine ⟨s8 3 (by omega), _, rfl, okD_L (by simp) (okDs_cons okW (okDs_cons okW (okDs_cons rfl okDs_nil))), ?_⟩
    simp only [sRet, sRetN, sIf, sDrop, sNever, sNext, sBreak, sCont, sAsg, sPar, sPar3, sAug, dName, dNil, dCons, dTup, dSub, sSetL, wVar, wC, wFrz, wFrzK, wOp, wAdd, nAdd, nI, nI0, wMul, nMul, wNeg, wEq, nEq, wIsN, wB, wAndT, wOrT, wNotT, wAndV, wOrV, wNotV, wIfE, wChain, aNil, aCons, aStar, wLst, wTup, wIx, nIx, pNo, pSo, wSl, wRev, wRevE, mIndex, wLenSet, cRepr, wIsB, wCB, cLen, cAll, cSum, cMax, cMin, cSorted, cInt, cList, cTuple, cIsi, wBits, wLRg, wBM, wBM0, mChg, wDGet, wDIn, wDNew, sDPutD, wIn, nIn, wCall, wCallK, wNew, tYesD, startD, List.map_cons, List.map_nil, List.length_cons, List.length_nil, List.replicate, Nat.sub_self, List.append_nil, List.cons_append, List.nil_append, List.getElem?_cons_zero, List.getElem?_cons_succ, List.set_cons_zero, List.set_cons_succ, Nat.reduceSub, Nat.reduceAdd, ite_true, ite_false, if_true, if_false, Bool.false_eq_true, Bool.true_eq_false, Bool.not_true, Bool.not_false, Option.some.injEq, nrm_non, nrm_bl, nrm_int, nrm_str, nrm_ty, nrm_lst, nrm_tupC, nrm_dct, nrm_scr, nrm_setL, wFgt, tyN_non, tyN_bl, tyN_int, tyN_str, tyN_lst, tyN_tup, tyN_dct, keyD_int, keyD_str, isA, okT, beq_self_eq_true, String.reduceBEq, Bool.or_false, Bool.or_true, Bool.and_false, Bool.and_true, Bool.true_or, Bool.false_or, Bool.true_and, Bool.false_and, true_and, and_true, List.any_cons, List.any_nil, tyNames, Option.map_some, iRn1, iRn2, iRn3, iLst, nIt, iTp, iEn, iZp, iSt, wipeD, atI0, atI1, atI2, atI3, ixN0, ixN1, ixN2, ixN3, wSub, wLt, wLe, wGt, wGe, wDiv, wMod, wPow, wShl, Mp.set_same, Mp.set_set, cSortedA, cDictP, wNewD, wEqS, nEqS, wFrzT, mExt, mCnt, nIxL, sAugS, wSlS, wJoin, cSumL, dUnl, cSortLL, cMinLL, wLenSetT, wLenDictT, mIndexB, wLenSetJ, wAddT, wSortSet, wDNewT, sDPutT, cSortDT, wBMd, wDGet1, wDGet2, mUpd, wPairs, wDisp, wLtS, cMinS, cListD]
    ((try simp only [sSeq]); simp only [sRet, sRetN, sIf, sDrop, sNever, sNext, sBreak, sCont, sAsg, sPar, sPar3, sAug, dName, dNil, dCons, dTup, dSub, sSetL, wVar, wC, wFrz, wFrzK, wOp, wAdd, nAdd, nI, nI0, wMul, nMul, wNeg, wEq, nEq, wIsN, wB, wAndT, wOrT, wNotT, wAndV, wOrV, wNotV, wIfE, wChain, aNil, aCons, aStar, wLst, wTup, wIx, nIx, pNo, pSo, wSl, wRev, wRevE, mIndex, wLenSet, cRepr, wIsB, wCB, cLen, cAll, cSum, cMax, cMin, cSorted, cInt, cList, cTuple, cIsi, wBits, wLRg, wBM, wBM0, mChg, wDGet, wDIn, wDNew, sDPutD, wIn, nIn, wCall, wCallK, wNew, tYesD, startD, List.map_cons, List.map_nil, List.length_cons, List.length_nil, List.replicate, Nat.sub_self, List.append_nil, List.cons_append, List.nil_append, List.getElem?_cons_zero, List.getElem?_cons_succ, List.set_cons_zero, List.set_cons_succ, Nat.reduceSub, Nat.reduceAdd, ite_true, ite_false, if_true, if_false, Bool.false_eq_true, Bool.true_eq_false, Bool.not_true, Bool.not_false, Option.some.injEq, nrm_non, nrm_bl, nrm_int, nrm_str, nrm_ty, nrm_lst, nrm_tupC, nrm_dct, nrm_scr, nrm_setL, wFgt, tyN_non, tyN_bl, tyN_int, tyN_str, tyN_lst, tyN_tup, tyN_dct, keyD_int, keyD_str, isA, okT, beq_self_eq_true, String.reduceBEq, Bool.or_false, Bool.or_true, Bool.and_false, Bool.and_true, Bool.true_or, Bool.false_or, Bool.true_and, Bool.false_and, true_and, and_true, List.any_cons, List.any_nil, tyNames, Option.map_some, iRn1, iRn2, iRn3, iLst, nIt, iTp, iEn, iZp, iSt, wipeD, atI0, atI1, atI2, atI3, ixN0, ixN1, ixN2, ixN3, wSub, wLt, wLe, wGt, wGe, wDiv, wMod, wPow, wShl, Mp.set_same, Mp.set_set, cSortedA, cDictP, wNewD, wEqS, nEqS, wFrzT, mExt, mCnt, nIxL, sAugS, wSlS, wJoin, cSumL, dUnl, cSortLL, cMinLL, wLenSetT, wLenDictT, mIndexB, wLenSetJ, wAddT, wSortSet, wDNewT, sDPutT, cSortDT, wBMd, wDGet1, wDGet2, mUpd, wPairs, wDisp, wLtS, cMinS, cListD])
    refine ⟨p, ys1, n, _, rfl, hle2 p _ Mp.set_same, hy1, by omega, by omega, by omega, fun b ys2 hb0 hb1 hy2 => ?_⟩
    obtain ⟨b, rfl⟩ := Int.eq_ofNat_of_zero_le hb0
    have hbn : b < n := by omega
    refine ⟨p, ys2, n, _, rfl, Mp.set_same, hy2, by omega, by omega, by omega, fun c ys3 hc0 hc1 hy3 => ?_⟩
    obtain ⟨c, rfl⟩ := Int.eq_ofNat_of_zero_le hc0
    have hcn : c < n := by omega
    rw [Mp.set_set]
    have hle3 : MLe (M.set p (.lst ys3)) (M2.set p (.lst ys3)) := by
      have := hle2.set2 (p := p) (m := .lst ys3)
      rwa [Mp.set_set] at this
    generalize M2.set p (.lst ys3) = M3 at hle3
    have htot : ∀ q, q < n → (wordsW n b q).isSome = true := fun q hq => words_tot hbn hq (by omega)
    obtain ⟨w, hw⟩ := Option.isSome_iff_exists.mp (htot c hcn)
    have hwl := wordsW_len hw
    ((try simp only [sSeq]); simp only [sRet, sRetN, sIf, sDrop, sNever, sNext, sBreak, sCont, sAsg, sPar, sPar3, sAug, dName, dNil, dCons, dTup, dSub, sSetL, wVar, wC, wFrz, wFrzK, wOp, wAdd, nAdd, nI, nI0, wMul, nMul, wNeg, wEq, nEq, wIsN, wB, wAndT, wOrT, wNotT, wAndV, wOrV, wNotV, wIfE, wChain, aNil, aCons, aStar, wLst, wTup, wIx, nIx, pNo, pSo, wSl, wRev, wRevE, mIndex, wLenSet, cRepr, wIsB, wCB, cLen, cAll, cSum, cMax, cMin, cSorted, cInt, cList, cTuple, cIsi, wBits, wLRg, wBM, wBM0, mChg, wDGet, wDIn, wDNew, sDPutD, wIn, nIn, wCall, wCallK, wNew, tYesD, startD, List.map_cons, List.map_nil, List.length_cons, List.length_nil, List.replicate, Nat.sub_self, List.append_nil, List.cons_append, List.nil_append, List.getElem?_cons_zero, List.getElem?_cons_succ, List.set_cons_zero, List.set_cons_succ, Nat.reduceSub, Nat.reduceAdd, ite_true, ite_false, if_true, if_false, Bool.false_eq_true, Bool.true_eq_false, Bool.not_true, Bool.not_false, Option.some.injEq, nrm_non, nrm_bl, nrm_int, nrm_str, nrm_ty, nrm_lst, nrm_tupC, nrm_dct, nrm_scr, nrm_setL, wFgt, tyN_non, tyN_bl, tyN_int, tyN_str, tyN_lst, tyN_tup, tyN_dct, keyD_int, keyD_str, isA, okT, beq_self_eq_true, String.reduceBEq, Bool.or_false, Bool.or_true, Bool.and_false, Bool.and_true, Bool.true_or, Bool.false_or, Bool.true_and, Bool.false_and, true_and, and_true, List.any_cons, List.any_nil, tyNames, Option.map_some, iRn1, iRn2, iRn3, iLst, nIt, iTp, iEn, iZp, iSt, wipeD, atI0, atI1, atI2, atI3, ixN0, ixN1, ixN2, ixN3, wSub, wLt, wLe, wGt, wGe, wDiv, wMod, wPow, wShl, Mp.set_same, Mp.set_set, cSortedA, cDictP, wNewD, wEqS, nEqS, wFrzT, mExt, mCnt, nIxL, sAugS, wSlS, wJoin, cSumL, dUnl, cSortLL, cMinLL, wLenSetT, wLenDictT, mIndexB, wLenSetJ, wAddT, wSortSet, wDNewT, sDPutT, cSortDT, wBMd, wDGet1, wDGet2, mUpd, wPairs, wDisp, wLtS, cMinS, cListD])
    refine ⟨n, b, rfl, hbn, by omega, fun r ks wx M4 hle4 hr hM4 hmap => ?_⟩
    have hlk : ∀ q w, wordsW n b q = some w → look (ks.map Sum.inl) wx (.inl (q : Int)) = some (.str (wordS w)) := fun q w h => by rw [hmap.2.2.2 q, h]; rfl
    have hle5 : MLe (M.set p (.lst ys3)) M4 := hle3.trans hle4
    ((try simp only [sSeq]); simp only [sRet, sRetN, sIf, sDrop, sNever, sNext, sBreak, sCont, sAsg, sPar, sPar3, sAug, dName, dNil, dCons, dTup, dSub, sSetL, wVar, wC, wFrz, wFrzK, wOp, wAdd, nAdd, nI, nI0, wMul, nMul, wNeg, wEq, nEq, wIsN, wB, wAndT, wOrT, wNotT, wAndV, wOrV, wNotV, wIfE, wChain, aNil, aCons, aStar, wLst, wTup, wIx, nIx, pNo, pSo, wSl, wRev, wRevE, mIndex, wLenSet, cRepr, wIsB, wCB, cLen, cAll, cSum, cMax, cMin, cSorted, cInt, cList, cTuple, cIsi, wBits, wLRg, wBM, wBM0, mChg, wDGet, wDIn, wDNew, sDPutD, wIn, nIn, wCall, wCallK, wNew, tYesD, startD, List.map_cons, List.map_nil, List.length_cons, List.length_nil, List.replicate, Nat.sub_self, List.append_nil, List.cons_append, List.nil_append, List.getElem?_cons_zero, List.getElem?_cons_succ, List.set_cons_zero, List.set_cons_succ, Nat.reduceSub, Nat.reduceAdd, ite_true, ite_false, if_true, if_false, Bool.false_eq_true, Bool.true_eq_false, Bool.not_true, Bool.not_false, Option.some.injEq, nrm_non, nrm_bl, nrm_int, nrm_str, nrm_ty, nrm_lst, nrm_tupC, nrm_dct, nrm_scr, nrm_setL, wFgt, tyN_non, tyN_bl, tyN_int, tyN_str, tyN_lst, tyN_tup, tyN_dct, keyD_int, keyD_str, isA, okT, beq_self_eq_true, String.reduceBEq, Bool.or_false, Bool.or_true, Bool.and_false, Bool.and_true, Bool.true_or, Bool.false_or, Bool.true_and, Bool.false_and, true_and, and_true, List.any_cons, List.any_nil, tyNames, Option.map_some, iRn1, iRn2, iRn3, iLst, nIt, iTp, iEn, iZp, iSt, wipeD, atI0, atI1, atI2, atI3, ixN0, ixN1, ixN2, ixN3, wSub, wLt, wLe, wGt, wGe, wDiv, wMod, wPow, wShl, Mp.set_same, Mp.set_set, cSortedA, cDictP, wNewD, wEqS, nEqS, wFrzT, mExt, mCnt, nIxL, sAugS, wSlS, wJoin, cSumL, dUnl, cSortLL, cMinLL, wLenSetT, wLenDictT, mIndexB, wLenSetJ, wAddT, wSortSet, wDNewT, sDPutT, cSortDT, wBMd, wDGet1, wDGet2, mUpd, wPairs, wDisp, wLtS, cMinS, cListD])
    refine lc_ints (ns := rngI 0 1 n) (P := fun _ => True) (fun q => (((wordsW n b q.toNat).getD []).length : Int)) (fun R h => ?_) trivial (by rw [rngI_length]; unfold Sz; omega) (fun k hk C h => ?_) ?_
    · simp only [sSeq, sRet, sRetN, sIf, sDrop, sNever, sNext, sBreak, sCont, sAsg, sPar, sPar3, sAug, dName, dNil, dCons, dTup, dSub, sSetL, wVar, wC, wFrz, wFrzK, wOp, wAdd, nAdd, nI, nI0, wMul, nMul, wNeg, wEq, nEq, wIsN, wB, wAndT, wOrT, wNotT, wAndV, wOrV, wNotV, wIfE, wChain, aNil, aCons, aStar, wLst, wTup, wIx, nIx, pNo, pSo, wSl, wRev, wRevE, mIndex, wLenSet, cRepr, wIsB, wCB, cLen, cAll, cSum, cMax, cMin, cSorted, cInt, cList, cTuple, cIsi, wBits, wLRg, wBM, wBM0, mChg, wDGet, wDIn, wDNew, sDPutD, wIn, nIn, wCall, wCallK, wNew, tYesD, startD, List.map_cons, List.map_nil, List.length_cons, List.length_nil, List.replicate, Nat.sub_self, List.append_nil, List.cons_append, List.nil_append, List.getElem?_cons_zero, List.getElem?_cons_succ, List.set_cons_zero, List.set_cons_succ, Nat.reduceSub, Nat.reduceAdd, ite_true, ite_false, if_true, if_false, Bool.false_eq_true, Bool.true_eq_false, Bool.not_true, Bool.not_false, Option.some.injEq, nrm_non, nrm_bl, nrm_int, nrm_str, nrm_ty, nrm_lst, nrm_tupC, nrm_dct, nrm_scr, nrm_setL, wFgt, tyN_non, tyN_bl, tyN_int, tyN_str, tyN_lst, tyN_tup, tyN_dct, keyD_int, keyD_str, isA, okT, beq_self_eq_true, String.reduceBEq, Bool.or_false, Bool.or_true, Bool.and_false, Bool.and_true, Bool.true_or, Bool.false_or, Bool.true_and, Bool.false_and, true_and, and_true, List.any_cons, List.any_nil, tyNames, Option.map_some, iRn1, iRn2, iRn3, iLst, nIt, iTp, iEn, iZp, iSt, wipeD, atI0, atI1, atI2, atI3, ixN0, ixN1, ixN2, ixN3, wSub, wLt, wLe, wGt, wGe, wDiv, wMod, wPow, wShl, Mp.set_same, Mp.set_set, cSortedA, cDictP, wNewD, wEqS, nEqS, wFrzT, mExt, mCnt, nIxL, sAugS, wSlS, wJoin, cSumL, dUnl, cSortLL, cMinLL, wLenSetT, wLenDictT, mIndexB, wLenSetJ, wAddT, wSortSet, wDNewT, sDPutT, cSortDT, wBMd, wDGet1, wDGet2, mUpd, wPairs, wDisp, wLtS, cMinS, cListD]
      exact ⟨⟨by omega, by omega⟩, by rw [rngD_ints, Int.toNat_natCast]; exact h⟩
    · have hk2 := mem_rngI.mp hk
      obtain ⟨k, rfl⟩ := Int.eq_ofNat_of_zero_le hk2.1
      rw [Int.toNat_natCast] at h
      obtain ⟨u, hu⟩ := Option.isSome_iff_exists.mp (htot k (by omega))
      rw [hu] at h
      have hul := wordsW_len hu
      simp only [sSeq, sRet, sRetN, sIf, sDrop, sNever, sNext, sBreak, sCont, sAsg, sPar, sPar3, sAug, dName, dNil, dCons, dTup, dSub, sSetL, wVar, wC, wFrz, wFrzK, wOp, wAdd, nAdd, nI, nI0, wMul, nMul, wNeg, wEq, nEq, wIsN, wB, wAndT, wOrT, wNotT, wAndV, wOrV, wNotV, wIfE, wChain, aNil, aCons, aStar, wLst, wTup, wIx, nIx, pNo, pSo, wSl, wRev, wRevE, mIndex, wLenSet, cRepr, wIsB, wCB, cLen, cAll, cSum, cMax, cMin, cSorted, cInt, cList, cTuple, cIsi, wBits, wLRg, wBM, wBM0, mChg, wDGet, wDIn, wDNew, sDPutD, wIn, nIn, wCall, wCallK, wNew, tYesD, startD, List.map_cons, List.map_nil, List.length_cons, List.length_nil, List.replicate, Nat.sub_self, List.append_nil, List.cons_append, List.nil_append, List.getElem?_cons_zero, List.getElem?_cons_succ, List.set_cons_zero, List.set_cons_succ, Nat.reduceSub, Nat.reduceAdd, ite_true, ite_false, if_true, if_false, Bool.false_eq_true, Bool.true_eq_false, Bool.not_true, Bool.not_false, Option.some.injEq, nrm_non, nrm_bl, nrm_int, nrm_str, nrm_ty, nrm_lst, nrm_tupC, nrm_dct, nrm_scr, nrm_setL, wFgt, tyN_non, tyN_bl, tyN_int, tyN_str, tyN_lst, tyN_tup, tyN_dct, keyD_int, keyD_str, isA, okT, beq_self_eq_true, String.reduceBEq, Bool.or_false, Bool.or_true, Bool.and_false, Bool.and_true, Bool.true_or, Bool.false_or, Bool.true_and, Bool.false_and, true_and, and_true, List.any_cons, List.any_nil, tyNames, Option.map_some, iRn1, iRn2, iRn3, iLst, nIt, iTp, iEn, iZp, iSt, wipeD, atI0, atI1, atI2, atI3, ixN0, ixN1, ixN2, ixN3, wSub, wLt, wLe, wGt, wGe, wDiv, wMod, wPow, wShl, Mp.set_same, Mp.set_set, cSortedA, cDictP, wNewD, wEqS, nEqS, wFrzT, mExt, mCnt, nIxL, sAugS, wSlS, wJoin, cSumL, dUnl, cSortLL, cMinLL, wLenSetT, wLenDictT, mIndexB, wLenSetJ, wAddT, wSortSet, wDNewT, sDPutT, cSortDT, wBMd, wDGet1, wDGet2, mUpd, wPairs, wDisp, wLtS, cMinS, cListD, nrm_refD hM4, hlk k u hu]
      rw [word_len]
      exact ⟨by unfold Sz; omega, h⟩
    have hlens : ((rngI 0 1 n).map fun q => (((wordsW n b q.toNat).getD []).length : Int)) = lensW n b := rfl
    rw [hlens]
    have hlsl : (lensW n b).length = n := by unfold lensW; rw [List.length_map, rngI_length]
    have okL : okD 7 (.lst ((lensW n b).map .int)) = true := okD_ints (by omega)
    simp only [sRet, sRetN, sIf, sDrop, sNever, sNext, sBreak, sCont, sAsg, sPar, sPar3, sAug, dName, dNil, dCons, dTup, dSub, sSetL, wVar, wC, wFrz, wFrzK, wOp, wAdd, nAdd, nI, nI0, wMul, nMul, wNeg, wEq, nEq, wIsN, wB, wAndT, wOrT, wNotT, wAndV, wOrV, wNotV, wIfE, wChain, aNil, aCons, aStar, wLst, wTup, wIx, nIx, pNo, pSo, wSl, wRev, wRevE, mIndex, wLenSet, cRepr, wIsB, wCB, cLen, cAll, cSum, cMax, cMin, cSorted, cInt, cList, cTuple, cIsi, wBits, wLRg, wBM, wBM0, mChg, wDGet, wDIn, wDNew, sDPutD, wIn, nIn, wCall, wCallK, wNew, tYesD, startD, List.map_cons, List.map_nil, List.length_cons, List.length_nil, List.replicate, Nat.sub_self, List.append_nil, List.cons_append, List.nil_append, List.getElem?_cons_zero, List.getElem?_cons_succ, List.set_cons_zero, List.set_cons_succ, Nat.reduceSub, Nat.reduceAdd, ite_true, ite_false, if_true, if_false, Bool.false_eq_true, Bool.true_eq_false, Bool.not_true, Bool.not_false, Option.some.injEq, nrm_non, nrm_bl, nrm_int, nrm_str, nrm_ty, nrm_lst, nrm_tupC, nrm_dct, nrm_scr, nrm_setL, wFgt, tyN_non, tyN_bl, tyN_int, tyN_str, tyN_lst, tyN_tup, tyN_dct, keyD_int, keyD_str, isA, okT, beq_self_eq_true, String.reduceBEq, Bool.or_false, Bool.or_true, Bool.and_false, Bool.and_true, Bool.true_or, Bool.false_or, Bool.true_and, Bool.false_and, true_and, and_true, List.any_cons, List.any_nil, tyNames, Option.map_some, iRn1, iRn2, iRn3, iLst, nIt, iTp, iEn, iZp, iSt, wipeD, atI0, atI1, atI2, atI3, ixN0, ixN1, ixN2, ixN3, wSub, wLt, wLe, wGt, wGe, wDiv, wMod, wPow, wShl, Mp.set_same, Mp.set_set, cSortedA, cDictP, wNewD, wEqS, nEqS, wFrzT, mExt, mCnt, nIxL, sAugS, wSlS, wJoin, cSumL, dUnl, cSortLL, cMinLL, wLenSetT, wLenDictT, mIndexB, wLenSetJ, wAddT, wSortSet, wDNewT, sDPutT, cSortDT, wBMd, wDGet1, wDGet2, mUpd, wPairs, wDisp, wLtS, cMinS, cListD]
    ((try simp only [sSeq]); simp only [sRet, sRetN, sIf, sDrop, sNever, sNext, sBreak, sCont, sAsg, sPar, sPar3, sAug, dName, dNil, dCons, dTup, dSub, sSetL, wVar, wC, wFrz, wFrzK, wOp, wAdd, nAdd, nI, nI0, wMul, nMul, wNeg, wEq, nEq, wIsN, wB, wAndT, wOrT, wNotT, wAndV, wOrV, wNotV, wIfE, wChain, aNil, aCons, aStar, wLst, wTup, wIx, nIx, pNo, pSo, wSl, wRev, wRevE, mIndex, wLenSet, cRepr, wIsB, wCB, cLen, cAll, cSum, cMax, cMin, cSorted, cInt, cList, cTuple, cIsi, wBits, wLRg, wBM, wBM0, mChg, wDGet, wDIn, wDNew, sDPutD, wIn, nIn, wCall, wCallK, wNew, tYesD, startD, List.map_cons, List.map_nil, List.length_cons, List.length_nil, List.replicate, Nat.sub_self, List.append_nil, List.cons_append, List.nil_append, List.getElem?_cons_zero, List.getElem?_cons_succ, List.set_cons_zero, List.set_cons_succ, Nat.reduceSub, Nat.reduceAdd, ite_true, ite_false, if_true, if_false, Bool.false_eq_true, Bool.true_eq_false, Bool.not_true, Bool.not_false, Option.some.injEq, nrm_non, nrm_bl, nrm_int, nrm_str, nrm_ty, nrm_lst, nrm_tupC, nrm_dct, nrm_scr, nrm_setL, wFgt, tyN_non, tyN_bl, tyN_int, tyN_str, tyN_lst, tyN_tup, tyN_dct, keyD_int, keyD_str, isA, okT, beq_self_eq_true, String.reduceBEq, Bool.or_false, Bool.or_true, Bool.and_false, Bool.and_true, Bool.true_or, Bool.false_or, Bool.true_and, Bool.false_and, true_and, and_true, List.any_cons, List.any_nil, tyNames, Option.map_some, iRn1, iRn2, iRn3, iLst, nIt, iTp, iEn, iZp, iSt, wipeD, atI0, atI1, atI2, atI3, ixN0, ixN1, ixN2, ixN3, wSub, wLt, wLe, wGt, wGe, wDiv, wMod, wPow, wShl, Mp.set_same, Mp.set_set, cSortedA, cDictP, wNewD, wEqS, nEqS, wFrzT, mExt, mCnt, nIxL, sAugS, wSlS, wJoin, cSumL, dUnl, cSortLL, cMinLL, wLenSetT, wLenDictT, mIndexB, wLenSetJ, wAddT, wSortSet, wDNewT, sDPutT, cSortDT, wBMd, wDGet1, wDGet2, mUpd, wPairs, wDisp, wLtS, cMinS, cListD])
    refine ⟨n, b, rfl, hbn, by omega, htot, fun f3 g3 => ?_⟩
    have hM5f : (M4.set f3 (.lst ((lensW n b).map .int))) f3 = some (.lst ((lensW n b).map .int)) := Mp.set_same
    have hrf : r ≠ f3 := fun e => by subst e; rw [hM4] at g3; cases g3
    have hM5r : (M4.set f3 (.lst ((lensW n b).map .int))) r = some (.dK (ks.map .inl) wx) := by rw [Mp.set_ne hrf]; exact hM4
    have hat2 : atI ((lawDone n w).map D.int) (c : Int) = some (.int b) := by
      have h := lawDone_at (n := n) (bs := w) (p := b) hbn
      rw [(words_all hbn).2.2 c w hw] at h
      have hl : (lawDone n w).length = n := lawDone_len _ _ rngI_length
      rw [atI_int (by omega) (by omega), Int.toNat_natCast, h]
    ((try simp only [sSeq]); simp only [sRet, sRetN, sIf, sDrop, sNever, sNext, sBreak, sCont, sAsg, sPar, sPar3, sAug, dName, dNil, dCons, dTup, dSub, sSetL, wVar, wC, wFrz, wFrzK, wOp, wAdd, nAdd, nI, nI0, wMul, nMul, wNeg, wEq, nEq, wIsN, wB, wAndT, wOrT, wNotT, wAndV, wOrV, wNotV, wIfE, wChain, aNil, aCons, aStar, wLst, wTup, wIx, nIx, pNo, pSo, wSl, wRev, wRevE, mIndex, wLenSet, cRepr, wIsB, wCB, cLen, cAll, cSum, cMax, cMin, cSorted, cInt, cList, cTuple, cIsi, wBits, wLRg, wBM, wBM0, mChg, wDGet, wDIn, wDNew, sDPutD, wIn, nIn, wCall, wCallK, wNew, tYesD, startD, List.map_cons, List.map_nil, List.length_cons, List.length_nil, List.replicate, Nat.sub_self, List.append_nil, List.cons_append, List.nil_append, List.getElem?_cons_zero, List.getElem?_cons_succ, List.set_cons_zero, List.set_cons_succ, Nat.reduceSub, Nat.reduceAdd, ite_true, ite_false, if_true, if_false, Bool.false_eq_true, Bool.true_eq_false, Bool.not_true, Bool.not_false, Option.some.injEq, nrm_non, nrm_bl, nrm_int, nrm_str, nrm_ty, nrm_lst, nrm_tupC, nrm_dct, nrm_scr, nrm_setL, wFgt, tyN_non, tyN_bl, tyN_int, tyN_str, tyN_lst, tyN_tup, tyN_dct, keyD_int, keyD_str, isA, okT, beq_self_eq_true, String.reduceBEq, Bool.or_false, Bool.or_true, Bool.and_false, Bool.and_true, Bool.true_or, Bool.false_or, Bool.true_and, Bool.false_and, true_and, and_true, List.any_cons, List.any_nil, tyNames, Option.map_some, iRn1, iRn2, iRn3, iLst, nIt, iTp, iEn, iZp, iSt, wipeD, atI0, atI1, atI2, atI3, ixN0, ixN1, ixN2, ixN3, wSub, wLt, wLe, wGt, wGe, wDiv, wMod, wPow, wShl, Mp.set_same, Mp.set_set, cSortedA, cDictP, wNewD, wEqS, nEqS, wFrzT, mExt, mCnt, nIxL, sAugS, wSlS, wJoin, cSumL, dUnl, cSortLL, cMinLL, wLenSetT, wLenDictT, mIndexB, wLenSetJ, wAddT, wSortSet, wDNewT, sDPutT, cSortDT, wBMd, wDGet1, wDGet2, mUpd, wPairs, wDisp, wLtS, cMinS, cListD])
    refine ⟨[some (.ref p), some (.int n), some (.str (wordS bs)), some (.str (wordS (figs a))), some (.lst ((lensW n b).map .int)), some (.int a), some (.int b), some (.int c), some (.dct (ks.map .inl) wx), some (.lst ((lensW n b).map .int)), none, none], .skip (.skip (.skip (.skip (.cons (.ref hM5f (.same _)) (.skip (.skip (.skip (.cons (.refD hM5r (.same _)) (.same _))))))))), ?_⟩
    simp only [sRet, sRetN, sIf, sDrop, sNever, sNext, sBreak, sCont, sAsg, sPar, sPar3, sAug, dName, dNil, dCons, dTup, dSub, sSetL, wVar, wC, wFrz, wFrzK, wOp, wAdd, nAdd, nI, nI0, wMul, nMul, wNeg, wEq, nEq, wIsN, wB, wAndT, wOrT, wNotT, wAndV, wOrV, wNotV, wIfE, wChain, aNil, aCons, aStar, wLst, wTup, wIx, nIx, pNo, pSo, wSl, wRev, wRevE, mIndex, wLenSet, cRepr, wIsB, wCB, cLen, cAll, cSum, cMax, cMin, cSorted, cInt, cList, cTuple, cIsi, wBits, wLRg, wBM, wBM0, mChg, wDGet, wDIn, wDNew, sDPutD, wIn, nIn, wCall, wCallK, wNew, tYesD, startD, List.map_cons, List.map_nil, List.length_cons, List.length_nil, List.replicate, Nat.sub_self, List.append_nil, List.cons_append, List.nil_append, List.getElem?_cons_zero, List.getElem?_cons_succ, List.set_cons_zero, List.set_cons_succ, Nat.reduceSub, Nat.reduceAdd, ite_true, ite_false, if_true, if_false, Bool.false_eq_true, Bool.true_eq_false, Bool.not_true, Bool.not_false, Option.some.injEq, nrm_non, nrm_bl, nrm_int, nrm_str, nrm_ty, nrm_lst, nrm_tupC, nrm_dct, nrm_scr, nrm_setL, wFgt, tyN_non, tyN_bl, tyN_int, tyN_str, tyN_lst, tyN_tup, tyN_dct, keyD_int, keyD_str, isA, okT, beq_self_eq_true, String.reduceBEq, Bool.or_false, Bool.or_true, Bool.and_false, Bool.and_true, Bool.true_or, Bool.false_or, Bool.true_and, Bool.false_and, true_and, and_true, List.any_cons, List.any_nil, tyNames, Option.map_some, iRn1, iRn2, iRn3, iLst, nIt, iTp, iEn, iZp, iSt, wipeD, atI0, atI1, atI2, atI3, ixN0, ixN1, ixN2, ixN3, wSub, wLt, wLe, wGt, wGe, wDiv, wMod, wPow, wShl, Mp.set_same, Mp.set_set, cSortedA, cDictP, wNewD, wEqS, nEqS, wFrzT, mExt, mCnt, nIxL, sAugS, wSlS, wJoin, cSumL, dUnl, cSortLL, cMinLL, wLenSetT, wLenDictT, mIndexB, wLenSetJ, wAddT, wSortSet, wDNewT, sDPutT, cSortDT, wBMd, wDGet1, wDGet2, mUpd, wPairs, wDisp, wLtS, cMinS, cListD, pick, hlk c w hw]
    have efl : (List.replicate (Int.toNat 2) [D.str (wordS w)]).flatten = [.str (wordS w), .str (wordS w)] := rfl
    rw [efl]
    refine ⟨s8 1 (by omega), ⟨by omega, by omega, s8 2 (by omega)⟩, s8 2 (by omega), s8 4 (by omega), n, b, c, w, rfl, hbn, hcn, by omega, hw, ?_⟩
    refine ⟨n, b, c, w, rfl, hbn, hcn, by omega, hw, ?_⟩
    refine ⟨n, b, rfl, hbn, by omega, htot, fun f4 g4 => frz_new g4 ⟨s8 4 (by omega), ?_⟩⟩
    refine ⟨_, rfl, okD_L (by simp) (okDs_cons okW (okDs_cons okW (okDs_cons okL (okDs_cons okL okDs_nil)))), ?_⟩
    simp only [sRet, sRetN, sIf, sDrop, sNever, sNext, sBreak, sCont, sAsg, sPar, sPar3, sAug, dName, dNil, dCons, dTup, dSub, sSetL, wVar, wC, wFrz, wFrzK, wOp, wAdd, nAdd, nI, nI0, wMul, nMul, wNeg, wEq, nEq, wIsN, wB, wAndT, wOrT, wNotT, wAndV, wOrV, wNotV, wIfE, wChain, aNil, aCons, aStar, wLst, wTup, wIx, nIx, pNo, pSo, wSl, wRev, wRevE, mIndex, wLenSet, cRepr, wIsB, wCB, cLen, cAll, cSum, cMax, cMin, cSorted, cInt, cList, cTuple, cIsi, wBits, wLRg, wBM, wBM0, mChg, wDGet, wDIn, wDNew, sDPutD, wIn, nIn, wCall, wCallK, wNew, tYesD, startD, List.map_cons, List.map_nil, List.length_cons, List.length_nil, List.replicate, Nat.sub_self, List.append_nil, List.cons_append, List.nil_append, List.getElem?_cons_zero, List.getElem?_cons_succ, List.set_cons_zero, List.set_cons_succ, Nat.reduceSub, Nat.reduceAdd, ite_true, ite_false, if_true, if_false, Bool.false_eq_true, Bool.true_eq_false, Bool.not_true, Bool.not_false, Option.some.injEq, nrm_non, nrm_bl, nrm_int, nrm_str, nrm_ty, nrm_lst, nrm_tupC, nrm_dct, nrm_scr, nrm_setL, wFgt, tyN_non, tyN_bl, tyN_int, tyN_str, tyN_lst, tyN_tup, tyN_dct, keyD_int, keyD_str, isA, okT, beq_self_eq_true, String.reduceBEq, Bool.or_false, Bool.or_true, Bool.and_false, Bool.and_true, Bool.true_or, Bool.false_or, Bool.true_and, Bool.false_and, true_and, and_true, List.any_cons, List.any_nil, tyNames, Option.map_some, iRn1, iRn2, iRn3, iLst, nIt, iTp, iEn, iZp, iSt, wipeD, atI0, atI1, atI2, atI3, ixN0, ixN1, ixN2, ixN3, wSub, wLt, wLe, wGt, wGe, wDiv, wMod, wPow, wShl, Mp.set_same, Mp.set_set, cSortedA, cDictP, wNewD, wEqS, nEqS, wFrzT, mExt, mCnt, nIxL, sAugS, wSlS, wJoin, cSumL, dUnl, cSortLL, cMinLL, wLenSetT, wLenDictT, mIndexB, wLenSetJ, wAddT, wSortSet, wDNewT, sDPutT, cSortDT, wBMd, wDGet1, wDGet2, mUpd, wPairs, wDisp, wLtS, cMinS, cListD]
    have ga5 := gAppend_ok (xs := (lensW n b).map D.int) (x := .str "late") (by rw [List.length_map]; omega)
    have hM6r : (M4.set f3 (.lst ((lensW n b).map D.int ++ [D.str (Str.ofString "late")]))) r = some (.dK (ks.map .inl) wx) := by rw [Mp.set_ne hrf]; exact hM4
    ((try simp only [sSeq]); simp only [sRet, sRetN, sIf, sDrop, sNever, sNext, sBreak, sCont, sAsg, sPar, sPar3, sAug, dName, dNil, dCons, dTup, dSub, sSetL, wVar, wC, wFrz, wFrzK, wOp, wAdd, nAdd, nI, nI0, wMul, nMul, wNeg, wEq, nEq, wIsN, wB, wAndT, wOrT, wNotT, wAndV, wOrV, wNotV, wIfE, wChain, aNil, aCons, aStar, wLst, wTup, wIx, nIx, pNo, pSo, wSl, wRev, wRevE, mIndex, wLenSet, cRepr, wIsB, wCB, cLen, cAll, cSum, cMax, cMin, cSorted, cInt, cList, cTuple, cIsi, wBits, wLRg, wBM, wBM0, mChg, wDGet, wDIn, wDNew, sDPutD, wIn, nIn, wCall, wCallK, wNew, tYesD, startD, List.map_cons, List.map_nil, List.length_cons, List.length_nil, List.replicate, Nat.sub_self, List.append_nil, List.cons_append, List.nil_append, List.getElem?_cons_zero, List.getElem?_cons_succ, List.set_cons_zero, List.set_cons_succ, Nat.reduceSub, Nat.reduceAdd, ite_true, ite_false, if_true, if_false, Bool.false_eq_true, Bool.true_eq_false, Bool.not_true, Bool.not_false, Option.some.injEq, nrm_non, nrm_bl, nrm_int, nrm_str, nrm_ty, nrm_lst, nrm_tupC, nrm_dct, nrm_scr, nrm_setL, wFgt, tyN_non, tyN_bl, tyN_int, tyN_str, tyN_lst, tyN_tup, tyN_dct, keyD_int, keyD_str, isA, okT, beq_self_eq_true, String.reduceBEq, Bool.or_false, Bool.or_true, Bool.and_false, Bool.and_true, Bool.true_or, Bool.false_or, Bool.true_and, Bool.false_and, true_and, and_true, List.any_cons, List.any_nil, tyNames, Option.map_some, iRn1, iRn2, iRn3, iLst, nIt, iTp, iEn, iZp, iSt, wipeD, atI0, atI1, atI2, atI3, ixN0, ixN1, ixN2, ixN3, wSub, wLt, wLe, wGt, wGe, wDiv, wMod, wPow, wShl, Mp.set_same, Mp.set_set, cSortedA, cDictP, wNewD, wEqS, nEqS, wFrzT, mExt, mCnt, nIxL, sAugS, wSlS, wJoin, cSumL, dUnl, cSortLL, cMinLL, wLenSetT, wLenDictT, mIndexB, wLenSetJ, wAddT, wSortSet, wDNewT, sDPutT, cSortDT, wBMd, wDGet1, wDGet2, mUpd, wPairs, wDisp, wLtS, cMinS, cListD, isL_lst hM5f, hM5f, ga5])
    refine ⟨s8 2 (by omega), n, b, rfl, hbn, by omega, htot, fun f5 g5 => frz_new g5 ?_⟩
    simp only [sRet, sRetN, sIf, sDrop, sNever, sNext, sBreak, sCont, sAsg, sPar, sPar3, sAug, dName, dNil, dCons, dTup, dSub, sSetL, wVar, wC, wFrz, wFrzK, wOp, wAdd, nAdd, nI, nI0, wMul, nMul, wNeg, wEq, nEq, wIsN, wB, wAndT, wOrT, wNotT, wAndV, wOrV, wNotV, wIfE, wChain, aNil, aCons, aStar, wLst, wTup, wIx, nIx, pNo, pSo, wSl, wRev, wRevE, mIndex, wLenSet, cRepr, wIsB, wCB, cLen, cAll, cSum, cMax, cMin, cSorted, cInt, cList, cTuple, cIsi, wBits, wLRg, wBM, wBM0, mChg, wDGet, wDIn, wDNew, sDPutD, wIn, nIn, wCall, wCallK, wNew, tYesD, startD, List.map_cons, List.map_nil, List.length_cons, List.length_nil, List.replicate, Nat.sub_self, List.append_nil, List.cons_append, List.nil_append, List.getElem?_cons_zero, List.getElem?_cons_succ, List.set_cons_zero, List.set_cons_succ, Nat.reduceSub, Nat.reduceAdd, ite_true, ite_false, if_true, if_false, Bool.false_eq_true, Bool.true_eq_false, Bool.not_true, Bool.not_false, Option.some.injEq, nrm_non, nrm_bl, nrm_int, nrm_str, nrm_ty, nrm_lst, nrm_tupC, nrm_dct, nrm_scr, nrm_setL, wFgt, tyN_non, tyN_bl, tyN_int, tyN_str, tyN_lst, tyN_tup, tyN_dct, keyD_int, keyD_str, isA, okT, beq_self_eq_true, String.reduceBEq, Bool.or_false, Bool.or_true, Bool.and_false, Bool.and_true, Bool.true_or, Bool.false_or, Bool.true_and, Bool.false_and, true_and, and_true, List.any_cons, List.any_nil, tyNames, Option.map_some, iRn1, iRn2, iRn3, iLst, nIt, iTp, iEn, iZp, iSt, wipeD, atI0, atI1, atI2, atI3, ixN0, ixN1, ixN2, ixN3, wSub, wLt, wLe, wGt, wGe, wDiv, wMod, wPow, wShl, Mp.set_same, Mp.set_set, cSortedA, cDictP, wNewD, wEqS, nEqS, wFrzT, mExt, mCnt, nIxL, sAugS, wSlS, wJoin, cSumL, dUnl, cSortLL, cMinLL, wLenSetT, wLenDictT, mIndexB, wLenSetJ, wAddT, wSortSet, wDNewT, sDPutT, cSortDT, wBMd, wDGet1, wDGet2, mUpd, wPairs, wDisp, wLtS, cMinS, cListD, nrm_refD hM6r, hlk c w hw]
    refine ⟨n, w, rfl, by omega, by omega, ?_⟩
    simp only [sRet, sRetN, sIf, sDrop, sNever, sNext, sBreak, sCont, sAsg, sPar, sPar3, sAug, dName, dNil, dCons, dTup, dSub, sSetL, wVar, wC, wFrz, wFrzK, wOp, wAdd, nAdd, nI, nI0, wMul, nMul, wNeg, wEq, nEq, wIsN, wB, wAndT, wOrT, wNotT, wAndV, wOrV, wNotV, wIfE, wChain, aNil, aCons, aStar, wLst, wTup, wIx, nIx, pNo, pSo, wSl, wRev, wRevE, mIndex, wLenSet, cRepr, wIsB, wCB, cLen, cAll, cSum, cMax, cMin, cSorted, cInt, cList, cTuple, cIsi, wBits, wLRg, wBM, wBM0, mChg, wDGet, wDIn, wDNew, sDPutD, wIn, nIn, wCall, wCallK, wNew, tYesD, startD, List.map_cons, List.map_nil, List.length_cons, List.length_nil, List.replicate, Nat.sub_self, List.append_nil, List.cons_append, List.nil_append, List.getElem?_cons_zero, List.getElem?_cons_succ, List.set_cons_zero, List.set_cons_succ, Nat.reduceSub, Nat.reduceAdd, ite_true, ite_false, if_true, if_false, Bool.false_eq_true, Bool.true_eq_false, Bool.not_true, Bool.not_false, Option.some.injEq, nrm_non, nrm_bl, nrm_int, nrm_str, nrm_ty, nrm_lst, nrm_tupC, nrm_dct, nrm_scr, nrm_setL, wFgt, tyN_non, tyN_bl, tyN_int, tyN_str, tyN_lst, tyN_tup, tyN_dct, keyD_int, keyD_str, isA, okT, beq_self_eq_true, String.reduceBEq, Bool.or_false, Bool.or_true, Bool.and_false, Bool.and_true, Bool.true_or, Bool.false_or, Bool.true_and, Bool.false_and, true_and, and_true, List.any_cons, List.any_nil, tyNames, Option.map_some, iRn1, iRn2, iRn3, iLst, nIt, iTp, iEn, iZp, iSt, wipeD, atI0, atI1, atI2, atI3, ixN0, ixN1, ixN2, ixN3, wSub, wLt, wLe, wGt, wGe, wDiv, wMod, wPow, wShl, Mp.set_same, Mp.set_set, cSortedA, cDictP, wNewD, wEqS, nEqS, wFrzT, mExt, mCnt, nIxL, sAugS, wSlS, wJoin, cSumL, dUnl, cSortLL, cMinLL, wLenSetT, wLenDictT, mIndexB, wLenSetJ, wAddT, wSortSet, wDNewT, sDPutT, cSortDT, wBMd, wDGet1, wDGet2, mUpd, wPairs, wDisp, wLtS, cMinS, cListD, hat2]
    refine ⟨s8 2 (by omega), _, rfl, okD_L (by simp) (okDs_cons okL (okDs_cons rfl okDs_nil)), M.set p (.lst ys3), hle5.put (hle5.none g3), q ys3 (hy3.mono (by omega))⟩
abbrev s_law : Stmt := topS 37
theorem sc_law : FnScope ["script", "at", "purse", "most", "many", "told", "place"] ["script"] (defScope s_law) := ⟨rfl, rfl, rfl, by decide +kernel, rfl, by decide +kernel, by decide +kernel⟩
theorem ok_law {f : Addr} {fd : FuncData} (F : FnP K "law" s_law [] f fd)
    {f_law_purse : Addr} {fd_law_purse : FuncData} {ds_law_purse : List Value} (G_law_purse : Kn P w K mg base "_law_purse" ["script", "at"] (R_law_purse K) 1 [] ds_law_purse f_law_purse fd_law_purse)
    {f_law_right : Addr} {fd_law_right : FuncData} {ds_law_right : List Value} (G_law_right : Kn P w K mg base "_law_right" ["purse", "many"] R_law_right 10 [] ds_law_right f_law_right fd_law_right)
    {f_law_draw : Addr} {fd_law_draw : FuncData} {ds_law_draw : List Value} (G_law_draw : Kn P w K mg base "_law_draw" ["purse", "many"] R_law_draw 2 [] ds_law_draw f_law_draw fd_law_draw)
    {f_law_done : Addr} {fd_law_done : FuncData} {ds_law_done : List Value} (G_law_done : Kn P w K mg base "_law_done" ["many", "word"] R_law_done 2 [] ds_law_done f_law_done fd_law_done)
    {f_word_to_place : Addr} {fd_word_to_place : FuncData} {ds_word_to_place : List Value} (G_word_to_place : Kn P w K mg base "word_to_place" ["many", "place"] R_word_to_place 4 [] ds_word_to_place f_word_to_place fd_word_to_place)
    {f_shortest_word : Addr} {fd_shortest_word : FuncData} {ds_shortest_word : List Value} (G_shortest_word : Kn P w K mg base "shortest_word" ["many", "one", "other"] R_shortest_word 4 [] ds_shortest_word f_shortest_word fd_shortest_word)
    {f_faros_done : Addr} {fd_faros_done : FuncData} {ds_faros_done : List Value} (G_faros_done : Kn P w K mg base "faros_done" ["many", "word"] R_faros_done 4 [] ds_faros_done f_faros_done fd_faros_done)
    {f_word_lengths : Addr} {fd_word_lengths : FuncData} {ds_word_lengths : List Value} (G_word_lengths : Kn P w K mg base "word_lengths" ["many", "one"] R_word_lengths 4 [] ds_word_lengths f_word_lengths fd_word_lengths)
    {f_law_exact : Addr} {fd_law_exact : FuncData} {ds_law_exact : List Value} (G_law_exact : Kn P w K mg base "_law_exact" ["mine", "theirs"] R_law_exact 9 [] ds_law_exact f_law_exact fd_law_exact)
    (m_range : mg "range" = none)
    (m_max : mg "max" = none)
    (m_min : mg "min" = none)
    (m_len : mg "len" = none) :
    FnG P w K mg base 11 f fd ["script"] (spD (R_law K)) := by
  have nd := sc_law.nd
  refine fnD (k := 10) F sc_law (len_law K) fun cdv A outer s H E hr hq => ?_
  have hu := hu_of hr
  have hr65 := room65 hr
  have hr66 := room66 hr
  refine ⟨_, _, pss_cons (ps_for PassesOwn.never rfl (pi_range1 (by rfl) m_range (pa_cons (pe_callB (call_maxA rfl) (by rfl) m_max (by decide +kernel) (pa_cons (pe_int) (pa_cons (pe_callB (call_minA rfl) (by rfl) m_min (by decide +kernel) (pa_cons (pe_callB call_lenA (by rfl) m_len (by decide +kernel) (pa_cons (pv 0) (pa_nil))) (pa_cons (pe_int) (pa_nil)))) (pa_nil)))) (pa_nil))) (pg_name (i := 1) nd rfl (by first | exact .inl rfl | exact .inr rfl)) (pss_cons (ps_set (i := 2) nd rfl (by first | exact .inl rfl | exact .inr rfl) (pe_callG (G_law_purse.ok.mono (by decide)) hr hq (by rfl) G_law_purse.m G_law_purse.kp G_law_purse.b G_law_purse.dv (pa_cons (pv 0) (pa_cons (pv 1) (pa_nil)))))
      (pss_one (ps_for PassesOwn.never rfl (pi_list (pe_lst (pa_cons (pe_int) (pa_cons (pe_int) (pa_nil))))) (pg_name (i := 3) nd rfl (by first | exact .inl rfl | exact .inr rfl)) (pss_one (ps_if (pt_not (pt_val (pe_callG (G_law_right.ok.mono (by decide)) hr hq (by rfl) G_law_right.m G_law_right.kp G_law_right.b G_law_right.dv (pa_cons (pv 2) (pa_cons (pe_callG (G_law_draw.ok.mono (by decide)) hr hq (by rfl) G_law_draw.m G_law_draw.kp G_law_draw.b G_law_draw.dv (pa_cons (pv 2) (pa_cons (pv 3) (pa_nil)))) (pa_nil)))))) (pss_one (ps_ret (pe_bl))) (pss_nil)))))))
      (pss_cons (ps_for PassesOwn.never rfl (pi_range1 (by rfl) m_range (pa_cons (pe_int) (pa_nil))) (pg_name (i := 4) nd rfl (by first | exact .inl rfl | exact .inr rfl)) (pss_one (ps_if (pt_cmpR (op_neD hr.units) (pe_lc (own := [("place", 6)]) (by rfl) nd (pi_range1 (by rfl) m_range (pa_cons (pv 4) (pa_nil))) (blkOk_by (by kernel_rfl)) (fun _ _ _ _ _ => pg_name (i := 6) nd rfl (by first | exact .inl rfl | exact .inr rfl)) (fun _ _ _ _ _ => pts_one (pt_cmpR (op_neD hr.units) (pe_ix ix_seq (pe_callG (G_law_done.ok.mono (by decide)) hr hq (by rfl) G_law_done.m G_law_done.kp G_law_done.b G_law_done.dv (pa_cons (pv 4) (pa_cons (pe_callG (G_word_to_place.ok.mono (by decide)) hr hq (by rfl) G_word_to_place.m G_word_to_place.kp G_word_to_place.b G_word_to_place.dv (pa_cons (pv 4) (pa_cons (pv 6) (pa_nil)))) (pa_nil)))) (pv 6) (fun _ _ => rfl)) (pe_int) (nomark _))) (fun _ _ _ _ _ => pv 6)) (pe_lst (pa_nil)) (nomark _)) (pss_one (ps_ret (pe_bl))) (pss_nil))))
      (pss_cons (ps_set (i := 5) nd rfl (by first | exact .inl rfl | exact .inr rfl) (pe_lst (pa_cons (pe_callG (G_word_to_place.ok.mono (by decide)) hr hq (by rfl) G_word_to_place.m G_word_to_place.kp G_word_to_place.b G_word_to_place.dv (pa_cons (pe_int) (pa_cons (pe_int) (pa_nil)))) (pa_cons (pe_callG (G_faros_done.ok.mono (by decide)) hr hq (by rfl) G_faros_done.m G_faros_done.kp G_faros_done.b G_faros_done.dv (pa_cons (pe_int) (pa_cons (pe_str) (pa_nil)))) (pa_cons (pe_callG (G_shortest_word.ok.mono (by decide)) hr hq (by rfl) G_shortest_word.m G_shortest_word.kp G_shortest_word.b G_shortest_word.dv (pa_cons (pe_int) (pa_cons (pe_int) (pa_cons (pe_int) (pa_nil))))) (pa_cons (pe_callG (G_word_lengths.ok.mono (by decide)) hr hq (by rfl) G_word_lengths.m G_word_lengths.kp G_word_lengths.b G_word_lengths.dv (pa_cons (pe_int) (pa_cons (pe_int) (pa_nil)))) (pa_cons (pe_callG (G_word_to_place.ok.mono (by decide)) hr hq (by rfl) G_word_to_place.m G_word_to_place.kp G_word_to_place.b G_word_to_place.dv (pa_cons (pe_int) (pa_cons (pe_int) (pa_nil)))) (pa_cons (pe_callG (G_faros_done.ok.mono (by decide)) hr hq (by rfl) G_faros_done.m G_faros_done.kp G_faros_done.b G_faros_done.dv (pa_cons (pe_int) (pa_cons (pe_str) (pa_nil)))) (pa_cons (pe_callG (G_shortest_word.ok.mono (by decide)) hr hq (by rfl) G_shortest_word.m G_shortest_word.kp G_shortest_word.b G_shortest_word.dv (pa_cons (pe_int) (pa_cons (pe_int) (pa_cons (pe_int) (pa_nil))))) (pa_nil))))))))))
      (pss_one (ps_ret (pe_callG (G_law_exact.ok.mono (by decide)) hr hq (by rfl) G_law_exact.m G_law_exact.kp G_law_exact.b G_law_exact.dv (pa_cons (pe_lst (pa_cons (pe_str) (pa_cons (pe_lst (pa_cons (pe_int) (pa_cons (pe_int) (pa_cons (pe_int) (pa_cons (pe_int) (pa_nil)))))) (pa_cons (pe_str) (pa_cons (pe_lst (pa_cons (pe_int) (pa_cons (pe_int) (pa_cons (pe_int) (pa_cons (pe_int) (pa_cons (pe_int) (pa_cons (pe_int) (pa_cons (pe_int) (pa_cons (pe_int) (pa_cons (pe_int) (pa_cons (pe_int) (pa_nil)))))))))))) (pa_cons (pe_str) (pa_cons (pe_lst (pa_cons (pe_int) (pa_cons (pe_int) (pa_cons (pe_int) (pa_nil))))) (pa_cons (pe_str) (pa_nil))))))))) (pa_cons (pv 5) (pa_nil)))))))),
    ts_seq (ts_for (ti_rng1 (ta_cons (tr_cb ct_max (ta_cons (tr_int) (ta_cons (tr_cb ct_min (ta_cons (tr_cb ct_len (ta_cons (tr_var (i := 0)) (ta_nil))) (ta_cons (tr_int) (ta_nil)))) (ta_nil)))) (ta_nil))) (tg_name (i := 1)) (ts_seq (ts_asg (tr_call (ta_cons (tr_var (i := 0)) (ta_cons (tr_var (i := 1)) (ta_nil)))) (tg_name (i := 2)))
      (ts_for (ti_list (tr_lst (md := .frz) (ta_cons (tr_int) (ta_cons (tr_int) (ta_nil))))) (tg_name (i := 3)) (ts_if (tt_not (tt_B (tr_call (ta_cons (tr_var (i := 2)) (ta_cons (tr_call (ta_cons (tr_var (i := 2)) (ta_cons (tr_var (i := 3)) (ta_nil)))) (ta_nil)))))) (ts_ret (tr_bl)) (ts_next)))))
      (ts_seq (ts_for (ti_rng1 (ta_cons (tr_int) (ta_nil))) (tg_name (i := 4)) (ts_if (tt_test (tr_op ot_ne (tr_lc (md := .frz) (ti_rng1 (ta_cons (tr_var (i := 4)) (ta_nil))) (tc_name (i := 6) (by decide)) (tt_test (tr_op ot_ne (tr_op ot_ix (tr_call (ta_cons (tr_var (i := 4)) (ta_cons (tr_call (ta_cons (tr_var (i := 4)) (ta_cons (tr_var (i := 6)) (ta_nil)))) (ta_nil)))) (tr_var (i := 6))) (tr_int))) (tr_var (i := 6))) (tr_lst (md := .frz) (ta_nil)))) (ts_ret (tr_bl)) (ts_next)))
      (ts_seq (ts_asg (tr_lst (md := .frz) (ta_cons (tr_call (ta_cons (tr_int) (ta_cons (tr_int) (ta_nil)))) (ta_cons (tr_frz (tr_call (ta_cons (tr_int) (ta_cons (tr_str) (ta_nil))))) (ta_cons (tr_call (ta_cons (tr_int) (ta_cons (tr_int) (ta_cons (tr_int) (ta_nil))))) (ta_cons (tr_frz (tr_call (ta_cons (tr_int) (ta_cons (tr_int) (ta_nil))))) (ta_cons (tr_call (ta_cons (tr_int) (ta_cons (tr_int) (ta_nil)))) (ta_cons (tr_frz (tr_call (ta_cons (tr_int) (ta_cons (tr_str) (ta_nil))))) (ta_cons (tr_call (ta_cons (tr_int) (ta_cons (tr_int) (ta_cons (tr_int) (ta_nil))))) (ta_nil))))))))) (tg_name (i := 5)))
      (ts_ret (tr_call (ta_cons (tr_lst (md := .frz) (ta_cons (tr_str) (ta_cons (tr_lst (md := .frz) (ta_cons (tr_int) (ta_cons (tr_int) (ta_cons (tr_int) (ta_cons (tr_int) (ta_nil)))))) (ta_cons (tr_str) (ta_cons (tr_lst (md := .frz) (ta_cons (tr_int) (ta_cons (tr_int) (ta_cons (tr_int) (ta_cons (tr_int) (ta_cons (tr_int) (ta_cons (tr_int) (ta_cons (tr_int) (ta_cons (tr_int) (ta_cons (tr_int) (ta_cons (tr_int) (ta_nil)))))))))))) (ta_cons (tr_str) (ta_cons (tr_lst (md := .frz) (ta_cons (tr_int) (ta_cons (tr_int) (ta_cons (tr_int) (ta_nil))))) (ta_cons (tr_str) (ta_nil))))))))) (ta_cons (tr_var (i := 5)) (ta_nil))))))), ?_⟩
  rintro ds M Q ⟨ns, rfl, hl, q⟩
  have s8 : ∀ k : Nat, k ≤ 20 → Sz k := fun k h => (by first | omega | (unfold Sz; omega) | (simp only [List.length_map, List.length_append, List.length_cons, List.length_nil, rngI_length, List.length_take, List.length_drop, List.length_reverse]; unfold Sz; omega))
  refine seq_mid (fun ρ' M' => ∃ y1 y2 y3 y4 y5, ρ' = [some (.scr K (ns.map .int)), y1, y2, y3, y4, y5, none]) (fun nx hnx => ?_) (fun ρ' M' w => ?_)
  · refine for_ints (ns := rngI 0 1 (max 1 (min (ns.length : Int) 4)).toNat) (P := fun _ => True) (fun i ρ M' => ∃ y1 y2 y3 y4 y5, ρ = [some (.scr K (ns.map .int)), y1, y2, y3, y4, y5, none]) (fun R h => ?_) ⟨_, _, _, _, _, rfl⟩ (fun _ _ _ _ _ => trivial) (fun i k ρ M' hk w => ?_) (fun ρ M' w => ?_)
    · simp only [sSeq, sRet, sRetN, sIf, sDrop, sNever, sNext, sBreak, sCont, sAsg, sPar, sPar3, sAug, dName, dNil, dCons, dTup, dSub, sSetL, wVar, wC, wFrz, wFrzK, wOp, wAdd, nAdd, nI, nI0, wMul, nMul, wNeg, wEq, nEq, wIsN, wB, wAndT, wOrT, wNotT, wAndV, wOrV, wNotV, wIfE, wChain, aNil, aCons, aStar, wLst, wTup, wIx, nIx, pNo, pSo, wSl, wRev, wRevE, mIndex, wLenSet, cRepr, wIsB, wCB, cLen, cAll, cSum, cMax, cMin, cSorted, cInt, cList, cTuple, cIsi, wBits, wLRg, wBM, wBM0, mChg, wDGet, wDIn, wDNew, sDPutD, wIn, nIn, wCall, wCallK, wNew, tYesD, startD, List.map_cons, List.map_nil, List.length_cons, List.length_nil, List.replicate, Nat.sub_self, List.append_nil, List.cons_append, List.nil_append, List.getElem?_cons_zero, List.getElem?_cons_succ, List.set_cons_zero, List.set_cons_succ, Nat.reduceSub, Nat.reduceAdd, ite_true, ite_false, if_true, if_false, Bool.false_eq_true, Bool.true_eq_false, Bool.not_true, Bool.not_false, Option.some.injEq, nrm_non, nrm_bl, nrm_int, nrm_str, nrm_ty, nrm_lst, nrm_tupC, nrm_dct, nrm_scr, nrm_setL, wFgt, tyN_non, tyN_bl, tyN_int, tyN_str, tyN_lst, tyN_tup, tyN_dct, keyD_int, keyD_str, isA, okT, beq_self_eq_true, String.reduceBEq, Bool.or_false, Bool.or_true, Bool.and_false, Bool.and_true, Bool.true_or, Bool.false_or, Bool.true_and, Bool.false_and, true_and, and_true, List.any_cons, List.any_nil, tyNames, Option.map_some, iRn1, iRn2, iRn3, iLst, nIt, iTp, iEn, iZp, iSt, wipeD, atI0, atI1, atI2, atI3, ixN0, ixN1, ixN2, ixN3, wSub, wLt, wLe, wGt, wGe, wDiv, wMod, wPow, wShl, Mp.set_same, Mp.set_set, cSortedA, cDictP, wNewD, wEqS, nEqS, wFrzT, mExt, mCnt, nIxL, sAugS, wSlS, wJoin, cSumL, dUnl, cSortLL, cMinLL, wLenSetT, wLenDictT, mIndexB, wLenSetJ, wAddT, wSortSet, wDNewT, sDPutT, cSortDT, wBMd, wDGet1, wDGet2, mUpd, wPairs, wDisp, wLtS, cMinS, cListD, List.length_map]
      exact ⟨rfl, ⟨by omega, by omega⟩, rngD_ints ▸ h⟩
    · obtain ⟨y1, y2, y3, y4, y5, rfl⟩ := w
      obtain ⟨hi, hke⟩ := rngI_get hk
      simp only [sRet, sRetN, sIf, sDrop, sNever, sNext, sBreak, sCont, sAsg, sPar, sPar3, sAug, dName, dNil, dCons, dTup, dSub, sSetL, wVar, wC, wFrz, wFrzK, wOp, wAdd, nAdd, nI, nI0, wMul, nMul, wNeg, wEq, nEq, wIsN, wB, wAndT, wOrT, wNotT, wAndV, wOrV, wNotV, wIfE, wChain, aNil, aCons, aStar, wLst, wTup, wIx, nIx, pNo, pSo, wSl, wRev, wRevE, mIndex, wLenSet, cRepr, wIsB, wCB, cLen, cAll, cSum, cMax, cMin, cSorted, cInt, cList, cTuple, cIsi, wBits, wLRg, wBM, wBM0, mChg, wDGet, wDIn, wDNew, sDPutD, wIn, nIn, wCall, wCallK, wNew, tYesD, startD, List.map_cons, List.map_nil, List.length_cons, List.length_nil, List.replicate, Nat.sub_self, List.append_nil, List.cons_append, List.nil_append, List.getElem?_cons_zero, List.getElem?_cons_succ, List.set_cons_zero, List.set_cons_succ, Nat.reduceSub, Nat.reduceAdd, ite_true, ite_false, if_true, if_false, Bool.false_eq_true, Bool.true_eq_false, Bool.not_true, Bool.not_false, Option.some.injEq, nrm_non, nrm_bl, nrm_int, nrm_str, nrm_ty, nrm_lst, nrm_tupC, nrm_dct, nrm_scr, nrm_setL, wFgt, tyN_non, tyN_bl, tyN_int, tyN_str, tyN_lst, tyN_tup, tyN_dct, keyD_int, keyD_str, isA, okT, beq_self_eq_true, String.reduceBEq, Bool.or_false, Bool.or_true, Bool.and_false, Bool.and_true, Bool.true_or, Bool.false_or, Bool.true_and, Bool.false_and, true_and, and_true, List.any_cons, List.any_nil, tyNames, Option.map_some, iRn1, iRn2, iRn3, iLst, nIt, iTp, iEn, iZp, iSt, wipeD, atI0, atI1, atI2, atI3, ixN0, ixN1, ixN2, ixN3, wSub, wLt, wLe, wGt, wGe, wDiv, wMod, wPow, wShl, Mp.set_same, Mp.set_set, cSortedA, cDictP, wNewD, wEqS, nEqS, wFrzT, mExt, mCnt, nIxL, sAugS, wSlS, wJoin, cSumL, dUnl, cSortLL, cMinLL, wLenSetT, wLenDictT, mIndexB, wLenSetJ, wAddT, wSortSet, wDNewT, sDPutT, cSortDT, wBMd, wDGet1, wDGet2, mUpd, wPairs, wDisp, wLtS, cMinS, cListD]
      refine ⟨ns, k, rfl, by omega, fun p xs hp hx => ?_⟩
      simp only [sRet, sRetN, sIf, sDrop, sNever, sNext, sBreak, sCont, sAsg, sPar, sPar3, sAug, dName, dNil, dCons, dTup, dSub, sSetL, wVar, wC, wFrz, wFrzK, wOp, wAdd, nAdd, nI, nI0, wMul, nMul, wNeg, wEq, nEq, wIsN, wB, wAndT, wOrT, wNotT, wAndV, wOrV, wNotV, wIfE, wChain, aNil, aCons, aStar, wLst, wTup, wIx, nIx, pNo, pSo, wSl, wRev, wRevE, mIndex, wLenSet, cRepr, wIsB, wCB, cLen, cAll, cSum, cMax, cMin, cSorted, cInt, cList, cTuple, cIsi, wBits, wLRg, wBM, wBM0, mChg, wDGet, wDIn, wDNew, sDPutD, wIn, nIn, wCall, wCallK, wNew, tYesD, startD, List.map_cons, List.map_nil, List.length_cons, List.length_nil, List.replicate, Nat.sub_self, List.append_nil, List.cons_append, List.nil_append, List.getElem?_cons_zero, List.getElem?_cons_succ, List.set_cons_zero, List.set_cons_succ, Nat.reduceSub, Nat.reduceAdd, ite_true, ite_false, if_true, if_false, Bool.false_eq_true, Bool.true_eq_false, Bool.not_true, Bool.not_false, Option.some.injEq, nrm_non, nrm_bl, nrm_int, nrm_str, nrm_ty, nrm_lst, nrm_tupC, nrm_dct, nrm_scr, nrm_setL, wFgt, tyN_non, tyN_bl, tyN_int, tyN_str, tyN_lst, tyN_tup, tyN_dct, keyD_int, keyD_str, isA, okT, beq_self_eq_true, String.reduceBEq, Bool.or_false, Bool.or_true, Bool.and_false, Bool.and_true, Bool.true_or, Bool.false_or, Bool.true_and, Bool.false_and, true_and, and_true, List.any_cons, List.any_nil, tyNames, Option.map_some, iRn1, iRn2, iRn3, iLst, nIt, iTp, iEn, iZp, iSt, wipeD, atI0, atI1, atI2, atI3, ixN0, ixN1, ixN2, ixN3, wSub, wLt, wLe, wGt, wGe, wDiv, wMod, wPow, wShl, Mp.set_same, Mp.set_set, cSortedA, cDictP, wNewD, wEqS, nEqS, wFrzT, mExt, mCnt, nIxL, sAugS, wSlS, wJoin, cSumL, dUnl, cSortLL, cMinLL, wLenSetT, wLenDictT, mIndexB, wLenSetJ, wAddT, wSortSet, wDNewT, sDPutT, cSortDT, wBMd, wDGet1, wDGet2, mUpd, wPairs, wDisp, wLtS, cMinS, cListD]
      simp only [sFor]
      simp only [sRet, sRetN, sIf, sDrop, sNever, sNext, sBreak, sCont, sAsg, sPar, sPar3, sAug, dName, dNil, dCons, dTup, dSub, sSetL, wVar, wC, wFrz, wFrzK, wOp, wAdd, nAdd, nI, nI0, wMul, nMul, wNeg, wEq, nEq, wIsN, wB, wAndT, wOrT, wNotT, wAndV, wOrV, wNotV, wIfE, wChain, aNil, aCons, aStar, wLst, wTup, wIx, nIx, pNo, pSo, wSl, wRev, wRevE, mIndex, wLenSet, cRepr, wIsB, wCB, cLen, cAll, cSum, cMax, cMin, cSorted, cInt, cList, cTuple, cIsi, wBits, wLRg, wBM, wBM0, mChg, wDGet, wDIn, wDNew, sDPutD, wIn, nIn, wCall, wCallK, wNew, tYesD, startD, List.map_cons, List.map_nil, List.length_cons, List.length_nil, List.replicate, Nat.sub_self, List.append_nil, List.cons_append, List.nil_append, List.getElem?_cons_zero, List.getElem?_cons_succ, List.set_cons_zero, List.set_cons_succ, Nat.reduceSub, Nat.reduceAdd, ite_true, ite_false, if_true, if_false, Bool.false_eq_true, Bool.true_eq_false, Bool.not_true, Bool.not_false, Option.some.injEq, nrm_non, nrm_bl, nrm_int, nrm_str, nrm_ty, nrm_lst, nrm_tupC, nrm_dct, nrm_scr, nrm_setL, wFgt, tyN_non, tyN_bl, tyN_int, tyN_str, tyN_lst, tyN_tup, tyN_dct, keyD_int, keyD_str, isA, okT, beq_self_eq_true, String.reduceBEq, Bool.or_false, Bool.or_true, Bool.and_false, Bool.and_true, Bool.true_or, Bool.false_or, Bool.true_and, Bool.false_and, true_and, and_true, List.any_cons, List.any_nil, tyNames, Option.map_some, iRn1, iRn2, iRn3, iLst, nIt, iTp, iEn, iZp, iSt, wipeD, atI0, atI1, atI2, atI3, ixN0, ixN1, ixN2, ixN3, wSub, wLt, wLe, wGt, wGe, wDiv, wMod, wPow, wShl, Mp.set_same, Mp.set_set, cSortedA, cDictP, wNewD, wEqS, nEqS, wFrzT, mExt, mCnt, nIxL, sAugS, wSlS, wJoin, cSumL, dUnl, cSortLL, cMinLL, wLenSetT, wLenDictT, mIndexB, wLenSetJ, wAddT, wSortSet, wDNewT, sDPutT, cSortDT, wBMd, wDGet1, wDGet2, mUpd, wPairs, wDisp, wLtS, cMinS, cListD]
      refine ⟨s8 2 (by omega), ?_⟩
      refine ⟨fun i ρ M4 => ∃ (y3 y4 y5 : Option D) (zs : List D), ρ = [some (.scr K (ns.map .int)), some (.int k), some (.ref p), y3, y4, y5, none] ∧ PurseOk (120 * (i : Nat)) zs ∧ M4 p = some (.lst zs), ⟨_, _, _, xs, rfl, hx.mono (by omega), Mp.set_same⟩, fun _ _ _ _ _ => by first | rfl | trivial, fun j x ρ M4 hj w => ?_, fun ρ M4 w => ?_⟩
      · obtain ⟨z3, z4, z5, zs, rfl, hz, hM4⟩ := w
        have hj3 : j < 2 := (List.getElem?_eq_some_iff.mp hj).1
        obtain ⟨m, rfl, hm1, hm2⟩ : ∃ m : Nat, x = .int m ∧ 1 ≤ m ∧ m ≤ 61 := by
          have := List.mem_of_getElem? hj
          simp only [List.mem_cons, List.not_mem_nil, or_false] at this
          rcases this with rfl | rfl
          · exact ⟨9, rfl, by omega, by omega⟩
          · exact ⟨61, rfl, by omega, by omega⟩
        ((try simp only [sSeq]); simp only [sRet, sRetN, sIf, sDrop, sNever, sNext, sBreak, sCont, sAsg, sPar, sPar3, sAug, dName, dNil, dCons, dTup, dSub, sSetL, wVar, wC, wFrz, wFrzK, wOp, wAdd, nAdd, nI, nI0, wMul, nMul, wNeg, wEq, nEq, wIsN, wB, wAndT, wOrT, wNotT, wAndV, wOrV, wNotV, wIfE, wChain, aNil, aCons, aStar, wLst, wTup, wIx, nIx, pNo, pSo, wSl, wRev, wRevE, mIndex, wLenSet, cRepr, wIsB, wCB, cLen, cAll, cSum, cMax, cMin, cSorted, cInt, cList, cTuple, cIsi, wBits, wLRg, wBM, wBM0, mChg, wDGet, wDIn, wDNew, sDPutD, wIn, nIn, wCall, wCallK, wNew, tYesD, startD, List.map_cons, List.map_nil, List.length_cons, List.length_nil, List.replicate, Nat.sub_self, List.append_nil, List.cons_append, List.nil_append, List.getElem?_cons_zero, List.getElem?_cons_succ, List.set_cons_zero, List.set_cons_succ, Nat.reduceSub, Nat.reduceAdd, ite_true, ite_false, if_true, if_false, Bool.false_eq_true, Bool.true_eq_false, Bool.not_true, Bool.not_false, Option.some.injEq, nrm_non, nrm_bl, nrm_int, nrm_str, nrm_ty, nrm_lst, nrm_tupC, nrm_dct, nrm_scr, nrm_setL, wFgt, tyN_non, tyN_bl, tyN_int, tyN_str, tyN_lst, tyN_tup, tyN_dct, keyD_int, keyD_str, isA, okT, beq_self_eq_true, String.reduceBEq, Bool.or_false, Bool.or_true, Bool.and_false, Bool.and_true, Bool.true_or, Bool.false_or, Bool.true_and, Bool.false_and, true_and, and_true, List.any_cons, List.any_nil, tyNames, Option.map_some, iRn1, iRn2, iRn3, iLst, nIt, iTp, iEn, iZp, iSt, wipeD, atI0, atI1, atI2, atI3, ixN0, ixN1, ixN2, ixN3, wSub, wLt, wLe, wGt, wGe, wDiv, wMod, wPow, wShl, Mp.set_same, Mp.set_set, cSortedA, cDictP, wNewD, wEqS, nEqS, wFrzT, mExt, mCnt, nIxL, sAugS, wSlS, wJoin, cSumL, dUnl, cSortLL, cMinLL, wLenSetT, wLenDictT, mIndexB, wLenSetJ, wAddT, wSortSet, wDNewT, sDPutT, cSortDT, wBMd, wDGet1, wDGet2, mUpd, wPairs, wDisp, wLtS, cMinS, cListD])
        refine ⟨p, zs, m, _, rfl, hM4, hz, by omega, by omega, by omega, fun a ws1 ha0 ha1 hw1 => ?_⟩
        obtain ⟨a, rfl⟩ := Int.eq_ofNat_of_zero_le ha0
        refine ⟨p, ws1, _, a, rfl, Mp.set_same, hw1, by omega, by omega, fun ws2 hw2 => ?_⟩
        simp only [sRet, sRetN, sIf, sDrop, sNever, sNext, sBreak, sCont, sAsg, sPar, sPar3, sAug, dName, dNil, dCons, dTup, dSub, sSetL, wVar, wC, wFrz, wFrzK, wOp, wAdd, nAdd, nI, nI0, wMul, nMul, wNeg, wEq, nEq, wIsN, wB, wAndT, wOrT, wNotT, wAndV, wOrV, wNotV, wIfE, wChain, aNil, aCons, aStar, wLst, wTup, wIx, nIx, pNo, pSo, wSl, wRev, wRevE, mIndex, wLenSet, cRepr, wIsB, wCB, cLen, cAll, cSum, cMax, cMin, cSorted, cInt, cList, cTuple, cIsi, wBits, wLRg, wBM, wBM0, mChg, wDGet, wDIn, wDNew, sDPutD, wIn, nIn, wCall, wCallK, wNew, tYesD, startD, List.map_cons, List.map_nil, List.length_cons, List.length_nil, List.replicate, Nat.sub_self, List.append_nil, List.cons_append, List.nil_append, List.getElem?_cons_zero, List.getElem?_cons_succ, List.set_cons_zero, List.set_cons_succ, Nat.reduceSub, Nat.reduceAdd, ite_true, ite_false, if_true, if_false, Bool.false_eq_true, Bool.true_eq_false, Bool.not_true, Bool.not_false, Option.some.injEq, nrm_non, nrm_bl, nrm_int, nrm_str, nrm_ty, nrm_lst, nrm_tupC, nrm_dct, nrm_scr, nrm_setL, wFgt, tyN_non, tyN_bl, tyN_int, tyN_str, tyN_lst, tyN_tup, tyN_dct, keyD_int, keyD_str, isA, okT, beq_self_eq_true, String.reduceBEq, Bool.or_false, Bool.or_true, Bool.and_false, Bool.and_true, Bool.true_or, Bool.false_or, Bool.true_and, Bool.false_and, true_and, and_true, List.any_cons, List.any_nil, tyNames, Option.map_some, iRn1, iRn2, iRn3, iLst, nIt, iTp, iEn, iZp, iSt, wipeD, atI0, atI1, atI2, atI3, ixN0, ixN1, ixN2, ixN3, wSub, wLt, wLe, wGt, wGe, wDiv, wMod, wPow, wShl, Mp.set_same, Mp.set_set, cSortedA, cDictP, wNewD, wEqS, nEqS, wFrzT, mExt, mCnt, nIxL, sAugS, wSlS, wJoin, cSumL, dUnl, cSortLL, cMinLL, wLenSetT, wLenDictT, mIndexB, wLenSetJ, wAddT, wSortSet, wDNewT, sDPutT, cSortDT, wBMd, wDGet1, wDGet2, mUpd, wPairs, wDisp, wLtS, cMinS, cListD]
        exact ⟨_, _, _, ws2, rfl, hw2.mono (by omega), rfl⟩
      · obtain ⟨z3, z4, z5, zs, rfl, hz, hM4⟩ := w
        exact ⟨_, _, _, _, _, rfl⟩
    · exact hnx _ _ w
  · obtain ⟨y1, y2, y3, y4, y5, rfl⟩ := w
    ((try simp only [sSeq]); simp only [sRet, sRetN, sIf, sDrop, sNever, sNext, sBreak, sCont, sAsg, sPar, sPar3, sAug, dName, dNil, dCons, dTup, dSub, sSetL, wVar, wC, wFrz, wFrzK, wOp, wAdd, nAdd, nI, nI0, wMul, nMul, wNeg, wEq, nEq, wIsN, wB, wAndT, wOrT, wNotT, wAndV, wOrV, wNotV, wIfE, wChain, aNil, aCons, aStar, wLst, wTup, wIx, nIx, pNo, pSo, wSl, wRev, wRevE, mIndex, wLenSet, cRepr, wIsB, wCB, cLen, cAll, cSum, cMax, cMin, cSorted, cInt, cList, cTuple, cIsi, wBits, wLRg, wBM, wBM0, mChg, wDGet, wDIn, wDNew, sDPutD, wIn, nIn, wCall, wCallK, wNew, tYesD, startD, List.map_cons, List.map_nil, List.length_cons, List.length_nil, List.replicate, Nat.sub_self, List.append_nil, List.cons_append, List.nil_append, List.getElem?_cons_zero, List.getElem?_cons_succ, List.set_cons_zero, List.set_cons_succ, Nat.reduceSub, Nat.reduceAdd, ite_true, ite_false, if_true, if_false, Bool.false_eq_true, Bool.true_eq_false, Bool.not_true, Bool.not_false, Option.some.injEq, nrm_non, nrm_bl, nrm_int, nrm_str, nrm_ty, nrm_lst, nrm_tupC, nrm_dct, nrm_scr, nrm_setL, wFgt, tyN_non, tyN_bl, tyN_int, tyN_str, tyN_lst, tyN_tup, tyN_dct, keyD_int, keyD_str, isA, okT, beq_self_eq_true, String.reduceBEq, Bool.or_false, Bool.or_true, Bool.and_false, Bool.and_true, Bool.true_or, Bool.false_or, Bool.true_and, Bool.false_and, true_and, and_true, List.any_cons, List.any_nil, tyNames, Option.map_some, iRn1, iRn2, iRn3, iLst, nIt, iTp, iEn, iZp, iSt, wipeD, atI0, atI1, atI2, atI3, ixN0, ixN1, ixN2, ixN3, wSub, wLt, wLe, wGt, wGe, wDiv, wMod, wPow, wShl, Mp.set_same, Mp.set_set, cSortedA, cDictP, wNewD, wEqS, nEqS, wFrzT, mExt, mCnt, nIxL, sAugS, wSlS, wJoin, cSumL, dUnl, cSortLL, cMinLL, wLenSetT, wLenDictT, mIndexB, wLenSetJ, wAddT, wSortSet, wDNewT, sDPutT, cSortDT, wBMd, wDGet1, wDGet2, mUpd, wPairs, wDisp, wLtS, cMinS, cListD])
    refine for_ints (ns := rngI 0 1 (11 : Int).toNat) (P := fun _ => True) (fun i ρ M4 => ∃ y1 y2 y3 y4 y5, ρ = [some (.scr K (ns.map .int)), y1, y2, y3, y4, y5, none]) (fun R h => by simp only [sSeq, sRet, sRetN, sIf, sDrop, sNever, sNext, sBreak, sCont, sAsg, sPar, sPar3, sAug, dName, dNil, dCons, dTup, dSub, sSetL, wVar, wC, wFrz, wFrzK, wOp, wAdd, nAdd, nI, nI0, wMul, nMul, wNeg, wEq, nEq, wIsN, wB, wAndT, wOrT, wNotT, wAndV, wOrV, wNotV, wIfE, wChain, aNil, aCons, aStar, wLst, wTup, wIx, nIx, pNo, pSo, wSl, wRev, wRevE, mIndex, wLenSet, cRepr, wIsB, wCB, cLen, cAll, cSum, cMax, cMin, cSorted, cInt, cList, cTuple, cIsi, wBits, wLRg, wBM, wBM0, mChg, wDGet, wDIn, wDNew, sDPutD, wIn, nIn, wCall, wCallK, wNew, tYesD, startD, List.map_cons, List.map_nil, List.length_cons, List.length_nil, List.replicate, Nat.sub_self, List.append_nil, List.cons_append, List.nil_append, List.getElem?_cons_zero, List.getElem?_cons_succ, List.set_cons_zero, List.set_cons_succ, Nat.reduceSub, Nat.reduceAdd, ite_true, ite_false, if_true, if_false, Bool.false_eq_true, Bool.true_eq_false, Bool.not_true, Bool.not_false, Option.some.injEq, nrm_non, nrm_bl, nrm_int, nrm_str, nrm_ty, nrm_lst, nrm_tupC, nrm_dct, nrm_scr, nrm_setL, wFgt, tyN_non, tyN_bl, tyN_int, tyN_str, tyN_lst, tyN_tup, tyN_dct, keyD_int, keyD_str, isA, okT, beq_self_eq_true, String.reduceBEq, Bool.or_false, Bool.or_true, Bool.and_false, Bool.and_true, Bool.true_or, Bool.false_or, Bool.true_and, Bool.false_and, true_and, and_true, List.any_cons, List.any_nil, tyNames, Option.map_some, iRn1, iRn2, iRn3, iLst, nIt, iTp, iEn, iZp, iSt, wipeD, atI0, atI1, atI2, atI3, ixN0, ixN1, ixN2, ixN3, wSub, wLt, wLe, wGt, wGe, wDiv, wMod, wPow, wShl, Mp.set_same, Mp.set_set, cSortedA, cDictP, wNewD, wEqS, nEqS, wFrzT, mExt, mCnt, nIxL, sAugS, wSlS, wJoin, cSumL, dUnl, cSortLL, cMinLL, wLenSetT, wLenDictT, mIndexB, wLenSetJ, wAddT, wSortSet, wDNewT, sDPutT, cSortDT, wBMd, wDGet1, wDGet2, mUpd, wPairs, wDisp, wLtS, cMinS, cListD]; exact ⟨⟨by omega, by omega⟩, rngD_ints ▸ h⟩) ⟨_, _, _, _, _, rfl⟩ (fun _ _ _ _ _ => trivial) (fun i k ρ M4 hk w => ?_) (fun ρ M4 w => ?_)
    · obtain ⟨y1, y2, y3, y4, y5, rfl⟩ := w
      obtain ⟨hi, rfl⟩ := rngI_get hk
      rw [show (0 : Int) + (i : Int) * 1 = (i : Int) by omega]
      have hi2 : i < 11 := hi
      simp only [sRet, sRetN, sIf, sDrop, sNever, sNext, sBreak, sCont, sAsg, sPar, sPar3, sAug, dName, dNil, dCons, dTup, dSub, sSetL, wVar, wC, wFrz, wFrzK, wOp, wAdd, nAdd, nI, nI0, wMul, nMul, wNeg, wEq, nEq, wIsN, wB, wAndT, wOrT, wNotT, wAndV, wOrV, wNotV, wIfE, wChain, aNil, aCons, aStar, wLst, wTup, wIx, nIx, pNo, pSo, wSl, wRev, wRevE, mIndex, wLenSet, cRepr, wIsB, wCB, cLen, cAll, cSum, cMax, cMin, cSorted, cInt, cList, cTuple, cIsi, wBits, wLRg, wBM, wBM0, mChg, wDGet, wDIn, wDNew, sDPutD, wIn, nIn, wCall, wCallK, wNew, tYesD, startD, List.map_cons, List.map_nil, List.length_cons, List.length_nil, List.replicate, Nat.sub_self, List.append_nil, List.cons_append, List.nil_append, List.getElem?_cons_zero, List.getElem?_cons_succ, List.set_cons_zero, List.set_cons_succ, Nat.reduceSub, Nat.reduceAdd, ite_true, ite_false, if_true, if_false, Bool.false_eq_true, Bool.true_eq_false, Bool.not_true, Bool.not_false, Option.some.injEq, nrm_non, nrm_bl, nrm_int, nrm_str, nrm_ty, nrm_lst, nrm_tupC, nrm_dct, nrm_scr, nrm_setL, wFgt, tyN_non, tyN_bl, tyN_int, tyN_str, tyN_lst, tyN_tup, tyN_dct, keyD_int, keyD_str, isA, okT, beq_self_eq_true, String.reduceBEq, Bool.or_false, Bool.or_true, Bool.and_false, Bool.and_true, Bool.true_or, Bool.false_or, Bool.true_and, Bool.false_and, true_and, and_true, List.any_cons, List.any_nil, tyNames, Option.map_some, iRn1, iRn2, iRn3, iLst, nIt, iTp, iEn, iZp, iSt, wipeD, atI0, atI1, atI2, atI3, ixN0, ixN1, ixN2, ixN3, wSub, wLt, wLe, wGt, wGe, wDiv, wMod, wPow, wShl, Mp.set_same, Mp.set_set, cSortedA, cDictP, wNewD, wEqS, nEqS, wFrzT, mExt, mCnt, nIxL, sAugS, wSlS, wJoin, cSumL, dUnl, cSortLL, cMinLL, wLenSetT, wLenDictT, mIndexB, wLenSetJ, wAddT, wSortSet, wDNewT, sDPutT, cSortDT, wBMd, wDGet1, wDGet2, mUpd, wPairs, wDisp, wLtS, cMinS, cListD]
      refine lc_intsF (ns := rngI 0 1 i) (P := fun _ => True) (fun z => false) (fun z => z) (fun R h => by simp only [sSeq, sRet, sRetN, sIf, sDrop, sNever, sNext, sBreak, sCont, sAsg, sPar, sPar3, sAug, dName, dNil, dCons, dTup, dSub, sSetL, wVar, wC, wFrz, wFrzK, wOp, wAdd, nAdd, nI, nI0, wMul, nMul, wNeg, wEq, nEq, wIsN, wB, wAndT, wOrT, wNotT, wAndV, wOrV, wNotV, wIfE, wChain, aNil, aCons, aStar, wLst, wTup, wIx, nIx, pNo, pSo, wSl, wRev, wRevE, mIndex, wLenSet, cRepr, wIsB, wCB, cLen, cAll, cSum, cMax, cMin, cSorted, cInt, cList, cTuple, cIsi, wBits, wLRg, wBM, wBM0, mChg, wDGet, wDIn, wDNew, sDPutD, wIn, nIn, wCall, wCallK, wNew, tYesD, startD, List.map_cons, List.map_nil, List.length_cons, List.length_nil, List.replicate, Nat.sub_self, List.append_nil, List.cons_append, List.nil_append, List.getElem?_cons_zero, List.getElem?_cons_succ, List.set_cons_zero, List.set_cons_succ, Nat.reduceSub, Nat.reduceAdd, ite_true, ite_false, if_true, if_false, Bool.false_eq_true, Bool.true_eq_false, Bool.not_true, Bool.not_false, Option.some.injEq, nrm_non, nrm_bl, nrm_int, nrm_str, nrm_ty, nrm_lst, nrm_tupC, nrm_dct, nrm_scr, nrm_setL, wFgt, tyN_non, tyN_bl, tyN_int, tyN_str, tyN_lst, tyN_tup, tyN_dct, keyD_int, keyD_str, isA, okT, beq_self_eq_true, String.reduceBEq, Bool.or_false, Bool.or_true, Bool.and_false, Bool.and_true, Bool.true_or, Bool.false_or, Bool.true_and, Bool.false_and, true_and, and_true, List.any_cons, List.any_nil, tyNames, Option.map_some, iRn1, iRn2, iRn3, iLst, nIt, iTp, iEn, iZp, iSt, wipeD, atI0, atI1, atI2, atI3, ixN0, ixN1, ixN2, ixN3, wSub, wLt, wLe, wGt, wGe, wDiv, wMod, wPow, wShl, Mp.set_same, Mp.set_set, cSortedA, cDictP, wNewD, wEqS, nEqS, wFrzT, mExt, mCnt, nIxL, sAugS, wSlS, wJoin, cSumL, dUnl, cSortLL, cMinLL, wLenSetT, wLenDictT, mIndexB, wLenSetJ, wAddT, wSortSet, wDNewT, sDPutT, cSortDT, wBMd, wDGet1, wDGet2, mUpd, wPairs, wDisp, wLtS, cMinS, cListD]; exact ⟨⟨by omega, by omega⟩, by rw [rngD_ints, Int.toNat_natCast]; exact h⟩) trivial (by rw [rngI_length]; exact (by first | omega | (unfold Sz; omega) | (simp only [List.length_map, List.length_append, List.length_cons, List.length_nil, rngI_length, List.length_take, List.length_drop, List.length_reverse]; unfold Sz; omega))) (fun z hz C1 C0 c1 c0 => ?_) ?_
      · have hzb := mem_rngI.mp hz
        obtain ⟨a, rfl⟩ := Int.eq_ofNat_of_zero_le hzb.1
        have han : a < i := by omega
        have hfl : (figs a).length ≤ 64 := by have := figGo_len 64 a []; unfold figs; simpa using this
        have hdf : (lawDone i (figs a)).length = i := lawDone_len _ _ rngI_length
        have hat : atI ((lawDone i (figs a)).map D.int) (a : Int) = some (.int 0) := by
          have h := lawDone_at (n := i) (bs := figs a) (p := 0) (by omega)
          rw [figs_walk han (by omega)] at h
          rw [atI_int (by omega) (by omega), Int.toNat_natCast, h]
          rfl
        simp only [sSeq, sRet, sRetN, sIf, sDrop, sNever, sNext, sBreak, sCont, sAsg, sPar, sPar3, sAug, dName, dNil, dCons, dTup, dSub, sSetL, wVar, wC, wFrz, wFrzK, wOp, wAdd, nAdd, nI, nI0, wMul, nMul, wNeg, wEq, nEq, wIsN, wB, wAndT, wOrT, wNotT, wAndV, wOrV, wNotV, wIfE, wChain, aNil, aCons, aStar, wLst, wTup, wIx, nIx, pNo, pSo, wSl, wRev, wRevE, mIndex, wLenSet, cRepr, wIsB, wCB, cLen, cAll, cSum, cMax, cMin, cSorted, cInt, cList, cTuple, cIsi, wBits, wLRg, wBM, wBM0, mChg, wDGet, wDIn, wDNew, sDPutD, wIn, nIn, wCall, wCallK, wNew, tYesD, startD, List.map_cons, List.map_nil, List.length_cons, List.length_nil, List.replicate, Nat.sub_self, List.append_nil, List.cons_append, List.nil_append, List.getElem?_cons_zero, List.getElem?_cons_succ, List.set_cons_zero, List.set_cons_succ, Nat.reduceSub, Nat.reduceAdd, ite_true, ite_false, if_true, if_false, Bool.false_eq_true, Bool.true_eq_false, Bool.not_true, Bool.not_false, Option.some.injEq, nrm_non, nrm_bl, nrm_int, nrm_str, nrm_ty, nrm_lst, nrm_tupC, nrm_dct, nrm_scr, nrm_setL, wFgt, tyN_non, tyN_bl, tyN_int, tyN_str, tyN_lst, tyN_tup, tyN_dct, keyD_int, keyD_str, isA, okT, beq_self_eq_true, String.reduceBEq, Bool.or_false, Bool.or_true, Bool.and_false, Bool.and_true, Bool.true_or, Bool.false_or, Bool.true_and, Bool.false_and, true_and, and_true, List.any_cons, List.any_nil, tyNames, Option.map_some, iRn1, iRn2, iRn3, iLst, nIt, iTp, iEn, iZp, iSt, wipeD, atI0, atI1, atI2, atI3, ixN0, ixN1, ixN2, ixN3, wSub, wLt, wLe, wGt, wGe, wDiv, wMod, wPow, wShl, Mp.set_same, Mp.set_set, cSortedA, cDictP, wNewD, wEqS, nEqS, wFrzT, mExt, mCnt, nIxL, sAugS, wSlS, wJoin, cSumL, dUnl, cSortLL, cMinLL, wLenSetT, wLenDictT, mIndexB, wLenSetJ, wAddT, wSortSet, wDNewT, sDPutT, cSortDT, wBMd, wDGet1, wDGet2, mUpd, wPairs, wDisp, wLtS, cMinS, cListD]
        refine ⟨i, a, rfl, han, by omega, ?_⟩
        refine ⟨i, figs a, rfl, by omega, by omega, ?_⟩
        simp only [sSeq, sRet, sRetN, sIf, sDrop, sNever, sNext, sBreak, sCont, sAsg, sPar, sPar3, sAug, dName, dNil, dCons, dTup, dSub, sSetL, wVar, wC, wFrz, wFrzK, wOp, wAdd, nAdd, nI, nI0, wMul, nMul, wNeg, wEq, nEq, wIsN, wB, wAndT, wOrT, wNotT, wAndV, wOrV, wNotV, wIfE, wChain, aNil, aCons, aStar, wLst, wTup, wIx, nIx, pNo, pSo, wSl, wRev, wRevE, mIndex, wLenSet, cRepr, wIsB, wCB, cLen, cAll, cSum, cMax, cMin, cSorted, cInt, cList, cTuple, cIsi, wBits, wLRg, wBM, wBM0, mChg, wDGet, wDIn, wDNew, sDPutD, wIn, nIn, wCall, wCallK, wNew, tYesD, startD, List.map_cons, List.map_nil, List.length_cons, List.length_nil, List.replicate, Nat.sub_self, List.append_nil, List.cons_append, List.nil_append, List.getElem?_cons_zero, List.getElem?_cons_succ, List.set_cons_zero, List.set_cons_succ, Nat.reduceSub, Nat.reduceAdd, ite_true, ite_false, if_true, if_false, Bool.false_eq_true, Bool.true_eq_false, Bool.not_true, Bool.not_false, Option.some.injEq, nrm_non, nrm_bl, nrm_int, nrm_str, nrm_ty, nrm_lst, nrm_tupC, nrm_dct, nrm_scr, nrm_setL, wFgt, tyN_non, tyN_bl, tyN_int, tyN_str, tyN_lst, tyN_tup, tyN_dct, keyD_int, keyD_str, isA, okT, beq_self_eq_true, String.reduceBEq, Bool.or_false, Bool.or_true, Bool.and_false, Bool.and_true, Bool.true_or, Bool.false_or, Bool.true_and, Bool.false_and, true_and, and_true, List.any_cons, List.any_nil, tyNames, Option.map_some, iRn1, iRn2, iRn3, iLst, nIt, iTp, iEn, iZp, iSt, wipeD, atI0, atI1, atI2, atI3, ixN0, ixN1, ixN2, ixN3, wSub, wLt, wLe, wGt, wGe, wDiv, wMod, wPow, wShl, Mp.set_same, Mp.set_set, cSortedA, cDictP, wNewD, wEqS, nEqS, wFrzT, mExt, mCnt, nIxL, sAugS, wSlS, wJoin, cSumL, dUnl, cSortLL, cMinLL, wLenSetT, wLenDictT, mIndexB, wLenSetJ, wAddT, wSortSet, wDNewT, sDPutT, cSortDT, wBMd, wDGet1, wDGet2, mUpd, wPairs, wDisp, wLtS, cMinS, cListD, hat, decide_true]
        exact c0 rfl
      have e0 : ((rngI 0 1 i).filter fun _ => false).map (fun z => z) = [] := by simp
      have dn : deq (.lst []) (.lst []) = true := deq_refl pdOk_nil
      rw [e0]
      simp only [sRet, sRetN, sIf, sDrop, sNever, sNext, sBreak, sCont, sAsg, sPar, sPar3, sAug, dName, dNil, dCons, dTup, dSub, sSetL, wVar, wC, wFrz, wFrzK, wOp, wAdd, nAdd, nI, nI0, wMul, nMul, wNeg, wEq, nEq, wIsN, wB, wAndT, wOrT, wNotT, wAndV, wOrV, wNotV, wIfE, wChain, aNil, aCons, aStar, wLst, wTup, wIx, nIx, pNo, pSo, wSl, wRev, wRevE, mIndex, wLenSet, cRepr, wIsB, wCB, cLen, cAll, cSum, cMax, cMin, cSorted, cInt, cList, cTuple, cIsi, wBits, wLRg, wBM, wBM0, mChg, wDGet, wDIn, wDNew, sDPutD, wIn, nIn, wCall, wCallK, wNew, tYesD, startD, List.map_cons, List.map_nil, List.length_cons, List.length_nil, List.replicate, Nat.sub_self, List.append_nil, List.cons_append, List.nil_append, List.getElem?_cons_zero, List.getElem?_cons_succ, List.set_cons_zero, List.set_cons_succ, Nat.reduceSub, Nat.reduceAdd, ite_true, ite_false, if_true, if_false, Bool.false_eq_true, Bool.true_eq_false, Bool.not_true, Bool.not_false, Option.some.injEq, nrm_non, nrm_bl, nrm_int, nrm_str, nrm_ty, nrm_lst, nrm_tupC, nrm_dct, nrm_scr, nrm_setL, wFgt, tyN_non, tyN_bl, tyN_int, tyN_str, tyN_lst, tyN_tup, tyN_dct, keyD_int, keyD_str, isA, okT, beq_self_eq_true, String.reduceBEq, Bool.or_false, Bool.or_true, Bool.and_false, Bool.and_true, Bool.true_or, Bool.false_or, Bool.true_and, Bool.false_and, true_and, and_true, List.any_cons, List.any_nil, tyNames, Option.map_some, iRn1, iRn2, iRn3, iLst, nIt, iTp, iEn, iZp, iSt, wipeD, atI0, atI1, atI2, atI3, ixN0, ixN1, ixN2, ixN3, wSub, wLt, wLe, wGt, wGe, wDiv, wMod, wPow, wShl, Mp.set_same, Mp.set_set, cSortedA, cDictP, wNewD, wEqS, nEqS, wFrzT, mExt, mCnt, nIxL, sAugS, wSlS, wJoin, cSumL, dUnl, cSortLL, cMinLL, wLenSetT, wLenDictT, mIndexB, wLenSetJ, wAddT, wSortSet, wDNewT, sDPutT, cSortDT, wBMd, wDGet1, wDGet2, mUpd, wPairs, wDisp, wLtS, cMinS, cListD, pdOk_nil, dn]
      exact ⟨s8 0 (by omega), _, _, _, _, _, rfl⟩
    · obtain ⟨y1, y2, y3, y4, y5, rfl⟩ := w
      ((try simp only [sSeq]); simp only [sRet, sRetN, sIf, sDrop, sNever, sNext, sBreak, sCont, sAsg, sPar, sPar3, sAug, dName, dNil, dCons, dTup, dSub, sSetL, wVar, wC, wFrz, wFrzK, wOp, wAdd, nAdd, nI, nI0, wMul, nMul, wNeg, wEq, nEq, wIsN, wB, wAndT, wOrT, wNotT, wAndV, wOrV, wNotV, wIfE, wChain, aNil, aCons, aStar, wLst, wTup, wIx, nIx, pNo, pSo, wSl, wRev, wRevE, mIndex, wLenSet, cRepr, wIsB, wCB, cLen, cAll, cSum, cMax, cMin, cSorted, cInt, cList, cTuple, cIsi, wBits, wLRg, wBM, wBM0, mChg, wDGet, wDIn, wDNew, sDPutD, wIn, nIn, wCall, wCallK, wNew, tYesD, startD, List.map_cons, List.map_nil, List.length_cons, List.length_nil, List.replicate, Nat.sub_self, List.append_nil, List.cons_append, List.nil_append, List.getElem?_cons_zero, List.getElem?_cons_succ, List.set_cons_zero, List.set_cons_succ, Nat.reduceSub, Nat.reduceAdd, ite_true, ite_false, if_true, if_false, Bool.false_eq_true, Bool.true_eq_false, Bool.not_true, Bool.not_false, Option.some.injEq, nrm_non, nrm_bl, nrm_int, nrm_str, nrm_ty, nrm_lst, nrm_tupC, nrm_dct, nrm_scr, nrm_setL, wFgt, tyN_non, tyN_bl, tyN_int, tyN_str, tyN_lst, tyN_tup, tyN_dct, keyD_int, keyD_str, isA, okT, beq_self_eq_true, String.reduceBEq, Bool.or_false, Bool.or_true, Bool.and_false, Bool.and_true, Bool.true_or, Bool.false_or, Bool.true_and, Bool.false_and, true_and, and_true, List.any_cons, List.any_nil, tyNames, Option.map_some, iRn1, iRn2, iRn3, iLst, nIt, iTp, iEn, iZp, iSt, wipeD, atI0, atI1, atI2, atI3, ixN0, ixN1, ixN2, ixN3, wSub, wLt, wLe, wGt, wGe, wDiv, wMod, wPow, wShl, Mp.set_same, Mp.set_set, cSortedA, cDictP, wNewD, wEqS, nEqS, wFrzT, mExt, mCnt, nIxL, sAugS, wSlS, wJoin, cSumL, dUnl, cSortLL, cMinLL, wLenSetT, wLenDictT, mIndexB, wLenSetJ, wAddT, wSortSet, wDNewT, sDPutT, cSortDT, wBMd, wDGet1, wDGet2, mUpd, wPairs, wDisp, wLtS, cMinS, cListD])
      refine ⟨52, 14, rfl, by omega, by omega, ?_⟩
      refine ⟨4, [true, false], rfl, by omega, by decide, fun f1 g1 => frz_new g1 ?_⟩
      refine ⟨10, 7, 0, _, rfl, by omega, by omega, by omega, w10, ?_⟩
      refine ⟨10, 0, rfl, by omega, by omega, fun q hq => words_tot (by omega) hq (by omega), fun f2 g2 => frz_new g2 ?_⟩
      refine ⟨1, 0, rfl, by omega, by omega, ?_⟩
      refine ⟨3, [], rfl, by omega, by decide, fun f3 g3 => frz_new g3 ?_⟩
      refine ⟨52, 13, 13, _, rfl, by omega, by omega, by omega, w52, ?_⟩
      rw [figs14, figs0, d4, d3, l10]
      simp only [sRet, sRetN, sIf, sDrop, sNever, sNext, sBreak, sCont, sAsg, sPar, sPar3, sAug, dName, dNil, dCons, dTup, dSub, sSetL, wVar, wC, wFrz, wFrzK, wOp, wAdd, nAdd, nI, nI0, wMul, nMul, wNeg, wEq, nEq, wIsN, wB, wAndT, wOrT, wNotT, wAndV, wOrV, wNotV, wIfE, wChain, aNil, aCons, aStar, wLst, wTup, wIx, nIx, pNo, pSo, wSl, wRev, wRevE, mIndex, wLenSet, cRepr, wIsB, wCB, cLen, cAll, cSum, cMax, cMin, cSorted, cInt, cList, cTuple, cIsi, wBits, wLRg, wBM, wBM0, mChg, wDGet, wDIn, wDNew, sDPutD, wIn, nIn, wCall, wCallK, wNew, tYesD, startD, List.map_cons, List.map_nil, List.length_cons, List.length_nil, List.replicate, Nat.sub_self, List.append_nil, List.cons_append, List.nil_append, List.getElem?_cons_zero, List.getElem?_cons_succ, List.set_cons_zero, List.set_cons_succ, Nat.reduceSub, Nat.reduceAdd, ite_true, ite_false, if_true, if_false, Bool.false_eq_true, Bool.true_eq_false, Bool.not_true, Bool.not_false, Option.some.injEq, nrm_non, nrm_bl, nrm_int, nrm_str, nrm_ty, nrm_lst, nrm_tupC, nrm_dct, nrm_scr, nrm_setL, wFgt, tyN_non, tyN_bl, tyN_int, tyN_str, tyN_lst, tyN_tup, tyN_dct, keyD_int, keyD_str, isA, okT, beq_self_eq_true, String.reduceBEq, Bool.or_false, Bool.or_true, Bool.and_false, Bool.and_true, Bool.true_or, Bool.false_or, Bool.true_and, Bool.false_and, true_and, and_true, List.any_cons, List.any_nil, tyNames, Option.map_some, iRn1, iRn2, iRn3, iLst, nIt, iTp, iEn, iZp, iSt, wipeD, atI0, atI1, atI2, atI3, ixN0, ixN1, ixN2, ixN3, wSub, wLt, wLe, wGt, wGe, wDiv, wMod, wPow, wShl, Mp.set_same, Mp.set_set, cSortedA, cDictP, wNewD, wEqS, nEqS, wFrzT, mExt, mCnt, nIxL, sAugS, wSlS, wJoin, cSumL, dUnl, cSortLL, cMinLL, wLenSetT, wLenDictT, mIndexB, wLenSetJ, wAddT, wSortSet, wDNewT, sDPutT, cSortDT, wBMd, wDGet1, wDGet2, mUpd, wPairs, wDisp, wLtS, cMinS, cListD]
      exact ⟨s8 7 (by omega), s8 4 (by omega), s8 10 (by omega), s8 3 (by omega), s8 7 (by omega), _, rfl, by decide +kernel, q _⟩
end
def d_is_whole : He.DefD := ⟨("is_whole", none), "is_whole", "is_whole", defArgs s_is_whole, defBody s_is_whole, defScope s_is_whole, [], []⟩
def d_faro_there : He.DefD := ⟨("faro_there", none), "faro_there", "faro_there", defArgs s_faro_there, defBody s_faro_there, defScope s_faro_there, [], []⟩
def d_number_of : He.DefD := ⟨("number_of", none), "number_of", "number_of", defArgs s_number_of, defBody s_number_of, defScope s_number_of, [], []⟩
def d_is_word : He.DefD := ⟨("is_word", none), "is_word", "is_word", defArgs s_is_word, defBody s_is_word, defScope s_is_word, [], []⟩
def d_kind_of : He.DefD := ⟨("kind_of", none), "kind_of", "kind_of", defArgs s_kind_of, defBody s_kind_of, defScope s_kind_of, [], []⟩
def d_law_purse : He.DefD := ⟨("_law_purse", none), "_law_purse", "_law_purse", defArgs s_law_purse, defBody s_law_purse, defScope s_law_purse, [], []⟩
def d_law_mixed : He.DefD := ⟨("_law_mixed", none), "_law_mixed", "_law_mixed", defArgs s_law_mixed, defBody s_law_mixed, defScope s_law_mixed, [], []⟩
def d_law_faro : He.DefD := ⟨("_law_faro", none), "_law_faro", "_law_faro", defArgs s_law_faro, defBody s_law_faro, defScope s_law_faro, [], []⟩
def d_law_then : He.DefD := ⟨("_law_then", none), "_law_then", "_law_then", defArgs s_law_then, defBody s_law_then, defScope s_law_then, [], []⟩
def d_law_back : He.DefD := ⟨("_law_back", none), "_law_back", "_law_back", defArgs s_law_back, defBody s_law_back, defScope s_law_back, [], []⟩
def d_law_figures : He.DefD := ⟨("_law_figures", none), "_law_figures", "_law_figures", defArgs s_law_figures, defBody s_law_figures, defScope s_law_figures, [], []⟩
def d_is_count : He.DefD := ⟨("is_count", none), "is_count", "is_count", defArgs s_is_count, defBody s_is_count, defScope s_is_count, [.int 0], []⟩
def d_done_there : He.DefD := ⟨("done_there", none), "done_there", "done_there", defArgs s_done_there, defBody s_done_there, defScope s_done_there, [], []⟩
def d_next_place : He.DefD := ⟨("next_place", none), "next_place", "next_place", defArgs s_next_place, defBody s_next_place, defScope s_next_place, [], []⟩
def d_law_draw : He.DefD := ⟨("_law_draw", none), "_law_draw", "_law_draw", defArgs s_law_draw, defBody s_law_draw, defScope s_law_draw, [], []⟩
def d_law_done : He.DefD := ⟨("_law_done", none), "_law_done", "_law_done", defArgs s_law_done, defBody s_law_done, defScope s_law_done, [], []⟩
def d_law_words : He.DefD := ⟨("_law_words", none), "_law_words", "_law_words", defArgs s_law_words, defBody s_law_words, defScope s_law_words, [], []⟩
def d_check_many : He.DefD := ⟨("check_many", none), "check_many", "check_many", defArgs s_check_many, defBody s_check_many, defScope s_check_many, [], []⟩
def d_check_place : He.DefD := ⟨("check_place", none), "check_place", "check_place", defArgs s_check_place, defBody s_check_place, defScope s_check_place, [], []⟩
def d_words_there : He.DefD := ⟨("words_there", none), "words_there", "words_there", defArgs s_words_there, defBody s_words_there, defScope s_words_there, [], []⟩
def d_law_one_of : He.DefD := ⟨("_law_one_of", none), "_law_one_of", "_law_one_of", defArgs s_law_one_of, defBody s_law_one_of, defScope s_law_one_of, [], []⟩
def d_faros_done : He.DefD := ⟨("faros_done", none), "faros_done", "faros_done", defArgs s_faros_done, defBody s_faros_done, defScope s_faros_done, [], []⟩
def d_word_to_place : He.DefD := ⟨("word_to_place", none), "word_to_place", "word_to_place", defArgs s_word_to_place, defBody s_word_to_place, defScope s_word_to_place, [], []⟩
def d_shortest_word : He.DefD := ⟨("shortest_word", none), "shortest_word", "shortest_word", defArgs s_shortest_word, defBody s_shortest_word, defScope s_shortest_word, [], []⟩
def d_word_lengths : He.DefD := ⟨("word_lengths", none), "word_lengths", "word_lengths", defArgs s_word_lengths, defBody s_word_lengths, defScope s_word_lengths, [], []⟩
def d_law_exact : He.DefD := ⟨("_law_exact", none), "_law_exact", "_law_exact", defArgs s_law_exact, defBody s_law_exact, defScope s_law_exact, [], []⟩
def d_law_right : He.DefD := ⟨("_law_right", none), "_law_right", "_law_right", defArgs s_law_right, defBody s_law_right, defScope s_law_right, [], []⟩
def d_law : He.DefD := ⟨("law", none), "law", "law", defArgs s_law, defBody s_law, defScope s_law, [], []⟩
def fnL : List He.DefD := [d_is_whole, d_faro_there, d_number_of, d_is_word, d_kind_of, d_law_purse, d_law_mixed, d_law_faro, d_law_then, d_law_back, d_law_figures, d_is_count, d_done_there, d_next_place, d_law_draw, d_law_done, d_law_words, d_check_many, d_check_place, d_words_there, d_law_one_of, d_faros_done, d_word_to_place, d_shortest_word, d_word_lengths, d_law_exact, d_law_right, d_law]
def faL : List He.Fa := [.glo "is_whole", .glo "faro_there", .glo "number_of", .glo "is_word", .glo "kind_of", .glo "_law_purse", .glo "_law_mixed", .glo "_law_faro", .glo "_law_then", .glo "_law_back", .glo "_law_figures", .glo "is_count", .glo "done_there", .glo "next_place", .glo "_law_draw", .glo "_law_done", .glo "_law_words", .glo "check_many", .glo "check_place", .glo "words_there", .glo "_law_one_of", .glo "faros_done", .glo "word_to_place", .glo "shortest_word", .glo "word_lengths", .glo "_law_exact", .glo "_law_right", .glo "law", .free "isinstance", .free "int", .free "bool", .free "list", .free "range", .free "enumerate", .free "max", .free "str", .free "all", .free "sum", .free "len", .free "min", .free "sorted", .free "tuple", .free "zip", .free "dict"]
abbrev rowL : PySem.W.OpenRow := PySem.W.OpenLaw.row PySem.Challenge.rw_suretricks_k21_whole_words_of_shuffles
abbrev hkL : PySem.W.Hook := He.hookD 4 faL fnL
def obL (s : PySem.W.SharedT) : He.AlD := He.obsDG 4 faL fnL (HandSHeadRun.getT s)
theorem obL_eq (s : PySem.W.SharedT) : obL s = hkL.obs s.abs := He.obsDG_eq (HandSHeadRun.getT_eq s)
def loose0 : List PySem.Str := ["is_whole", "is_count", "TrickError", "InvalidMany", "InvalidPlace", "InvalidOtherPlace", "InvalidWord", "check_many", "check_place", "faro_there", "number_of", "is_word", "kind_of", "done_there", "faros_done"]
def loose1 : List PySem.Str := ["word_to_place", "next_place", "words_there", "shortest_word", "word_lengths", "_law_purse", "_law_mixed", "_law_draw", "_law_one_of", "_law_exact", "_law_faro", "_law_then", "_law_back", "_law_done", "_law_words"]
def loose2 : List PySem.Str := ["_law_figures", "_law_right"]
def looseL : List PySem.Str := loose0 ++ loose1 ++ loose2
theorem runL (w : World) : HandSHeadRun.RunEq rowL (PySem.W.view rowL.prog [37]) hkL obL 6200 looseL w := by
  intro os
  kernel_rfl
theorem factsL {P : Program} {w : World} {K : PySem.W.Frag} {h : Heap} {mg : Str → Option Value} {f : Addr} (X : K.In h) (G : h.Ns mainGlobals mg) (hfa : mg ("law" : Str) = some (.ref f)) (c : He.SaysD faL fnL K) :
    ∃ fd : FuncData, (∀ (s : Shared) (v : Value), BindsTo s fd ⟨[v], []⟩ [("script", v)]) ∧ ∀ base : Heap, K.In base → base.Ns mainGlobals mg → FnG P w K mg base 11 f fd ["script"] (spD (R_law K)) := by
  obtain ⟨fd_is_whole, F_is_whole⟩ : ∃ fd, FnP K "is_whole" s_is_whole [] (He.fAd K ("is_whole", none)) fd := c.def_ 0 (d := d_is_whole) rfl
  have g_is_whole := He.glo_ok X G (c.fact 0 (f := .glo "is_whole") rfl)
  have b_is_whole : Binds K fd_is_whole ["value"] [] := F_is_whole.bindsN fun _ _ _ _ _ _ us hl => match us, hl with | [_], _ => rfl
  obtain ⟨fd_faro_there, F_faro_there⟩ : ∃ fd, FnP K "faro_there" s_faro_there [] (He.fAd K ("faro_there", none)) fd := c.def_ 1 (d := d_faro_there) rfl
  have g_faro_there := He.glo_ok X G (c.fact 1 (f := .glo "faro_there") rfl)
  have b_faro_there : Binds K fd_faro_there ["many", "kind"] [] := F_faro_there.bindsN fun _ _ _ _ _ _ us hl => match us, hl with | [_, _], _ => rfl
  obtain ⟨fd_number_of, F_number_of⟩ : ∃ fd, FnP K "number_of" s_number_of [] (He.fAd K ("number_of", none)) fd := c.def_ 2 (d := d_number_of) rfl
  have g_number_of := He.glo_ok X G (c.fact 2 (f := .glo "number_of") rfl)
  have b_number_of : Binds K fd_number_of ["many", "kind"] [] := F_number_of.bindsN fun _ _ _ _ _ _ us hl => match us, hl with | [_, _], _ => rfl
  obtain ⟨fd_is_word, F_is_word⟩ : ∃ fd, FnP K "is_word" s_is_word [] (He.fAd K ("is_word", none)) fd := c.def_ 3 (d := d_is_word) rfl
  have g_is_word := He.glo_ok X G (c.fact 3 (f := .glo "is_word") rfl)
  have b_is_word : Binds K fd_is_word ["value"] [] := F_is_word.bindsN fun _ _ _ _ _ _ us hl => match us, hl with | [_], _ => rfl
  obtain ⟨fd_kind_of, F_kind_of⟩ : ∃ fd, FnP K "kind_of" s_kind_of [] (He.fAd K ("kind_of", none)) fd := c.def_ 4 (d := d_kind_of) rfl
  have g_kind_of := He.glo_ok X G (c.fact 4 (f := .glo "kind_of") rfl)
  have b_kind_of : Binds K fd_kind_of ["sign"] [] := F_kind_of.bindsN fun _ _ _ _ _ _ us hl => match us, hl with | [_], _ => rfl
  obtain ⟨fd_law_purse, F_law_purse⟩ : ∃ fd, FnP K "_law_purse" s_law_purse [] (He.fAd K ("_law_purse", none)) fd := c.def_ 5 (d := d_law_purse) rfl
  have g_law_purse := He.glo_ok X G (c.fact 5 (f := .glo "_law_purse") rfl)
  have b_law_purse : Binds K fd_law_purse ["script", "at"] [] := F_law_purse.bindsN fun _ _ _ _ _ _ us hl => match us, hl with | [_, _], _ => rfl
  obtain ⟨fd_law_mixed, F_law_mixed⟩ : ∃ fd, FnP K "_law_mixed" s_law_mixed [] (He.fAd K ("_law_mixed", none)) fd := c.def_ 6 (d := d_law_mixed) rfl
  have g_law_mixed := He.glo_ok X G (c.fact 6 (f := .glo "_law_mixed") rfl)
  have b_law_mixed : Binds K fd_law_mixed ["seed", "spin", "at"] [] := F_law_mixed.bindsN fun _ _ _ _ _ _ us hl => match us, hl with | [_, _, _], _ => rfl
  obtain ⟨fd_law_faro, F_law_faro⟩ : ∃ fd, FnP K "_law_faro" s_law_faro [] (He.fAd K ("_law_faro", none)) fd := c.def_ 7 (d := d_law_faro) rfl
  have g_law_faro := He.glo_ok X G (c.fact 7 (f := .glo "_law_faro") rfl)
  have b_law_faro : Binds K fd_law_faro ["many", "kind"] [] := F_law_faro.bindsN fun _ _ _ _ _ _ us hl => match us, hl with | [_, _], _ => rfl
  obtain ⟨fd_law_then, F_law_then⟩ : ∃ fd, FnP K "_law_then" s_law_then [] (He.fAd K ("_law_then", none)) fd := c.def_ 8 (d := d_law_then) rfl
  have g_law_then := He.glo_ok X G (c.fact 8 (f := .glo "_law_then") rfl)
  have b_law_then : Binds K fd_law_then ["one", "other"] [] := F_law_then.bindsN fun _ _ _ _ _ _ us hl => match us, hl with | [_, _], _ => rfl
  obtain ⟨fd_law_back, F_law_back⟩ : ∃ fd, FnP K "_law_back" s_law_back [] (He.fAd K ("_law_back", none)) fd := c.def_ 9 (d := d_law_back) rfl
  have g_law_back := He.glo_ok X G (c.fact 9 (f := .glo "_law_back") rfl)
  have b_law_back : Binds K fd_law_back ["move"] [] := F_law_back.bindsN fun _ _ _ _ _ _ us hl => match us, hl with | [_], _ => rfl
  obtain ⟨fd_law_figures, F_law_figures⟩ : ∃ fd, FnP K "_law_figures" s_law_figures [] (He.fAd K ("_law_figures", none)) fd := c.def_ 10 (d := d_law_figures) rfl
  have g_law_figures := He.glo_ok X G (c.fact 10 (f := .glo "_law_figures") rfl)
  have b_law_figures : Binds K fd_law_figures ["place"] [] := F_law_figures.bindsN fun _ _ _ _ _ _ us hl => match us, hl with | [_], _ => rfl
  obtain ⟨fd_is_count, F_is_count⟩ : ∃ fd, FnP K "is_count" s_is_count [.int 0] (He.fAd K ("is_count", none)) fd := c.def_ 11 (d := d_is_count) rfl
  have g_is_count := He.glo_ok X G (c.fact 11 (f := .glo "is_count") rfl)
  obtain ⟨da_is_count, va_is_count, ba_is_count⟩ := F_is_count.binds1 (ps := ["value", "least"]) 2 1 (by simp) rfl fun T _ _ _ _ _ _ us its h1 h2 => match us, h1, its, h2 with | [_, _], _, [_], _ => ⟨_, rfl, rfl⟩
  cases va_is_count
  obtain ⟨ds_is_count, v_is_count, b_is_count⟩ := F_is_count.binds1 (ps := ["value", "least"]) 1 0 (by simp) rfl fun T _ _ _ _ _ _ us its h1 h2 => match us, h1, its, h2 with | [_], _, [_], _ => ⟨_, rfl, rfl⟩
  obtain ⟨fd_done_there, F_done_there⟩ : ∃ fd, FnP K "done_there" s_done_there [] (He.fAd K ("done_there", none)) fd := c.def_ 12 (d := d_done_there) rfl
  have g_done_there := He.glo_ok X G (c.fact 12 (f := .glo "done_there") rfl)
  have b_done_there : Binds K fd_done_there ["many", "word"] [] := F_done_there.bindsN fun _ _ _ _ _ _ us hl => match us, hl with | [_, _], _ => rfl
  obtain ⟨fd_next_place, F_next_place⟩ : ∃ fd, FnP K "next_place" s_next_place [] (He.fAd K ("next_place", none)) fd := c.def_ 13 (d := d_next_place) rfl
  have g_next_place := He.glo_ok X G (c.fact 13 (f := .glo "next_place") rfl)
  have b_next_place : Binds K fd_next_place ["many", "kind", "place"] [] := F_next_place.bindsN fun _ _ _ _ _ _ us hl => match us, hl with | [_, _, _], _ => rfl
  obtain ⟨fd_law_draw, F_law_draw⟩ : ∃ fd, FnP K "_law_draw" s_law_draw [] (He.fAd K ("_law_draw", none)) fd := c.def_ 14 (d := d_law_draw) rfl
  have g_law_draw := He.glo_ok X G (c.fact 14 (f := .glo "_law_draw") rfl)
  have b_law_draw : Binds K fd_law_draw ["purse", "many"] [] := F_law_draw.bindsN fun _ _ _ _ _ _ us hl => match us, hl with | [_, _], _ => rfl
  obtain ⟨fd_law_done, F_law_done⟩ : ∃ fd, FnP K "_law_done" s_law_done [] (He.fAd K ("_law_done", none)) fd := c.def_ 15 (d := d_law_done) rfl
  have g_law_done := He.glo_ok X G (c.fact 15 (f := .glo "_law_done") rfl)
  have b_law_done : Binds K fd_law_done ["many", "word"] [] := F_law_done.bindsN fun _ _ _ _ _ _ us hl => match us, hl with | [_, _], _ => rfl
  obtain ⟨fd_law_words, F_law_words⟩ : ∃ fd, FnP K "_law_words" s_law_words [] (He.fAd K ("_law_words", none)) fd := c.def_ 16 (d := d_law_words) rfl
  have g_law_words := He.glo_ok X G (c.fact 16 (f := .glo "_law_words") rfl)
  have b_law_words : Binds K fd_law_words ["many", "one"] [] := F_law_words.bindsN fun _ _ _ _ _ _ us hl => match us, hl with | [_, _], _ => rfl
  obtain ⟨fd_check_many, F_check_many⟩ : ∃ fd, FnP K "check_many" s_check_many [] (He.fAd K ("check_many", none)) fd := c.def_ 17 (d := d_check_many) rfl
  have g_check_many := He.glo_ok X G (c.fact 17 (f := .glo "check_many") rfl)
  have b_check_many : Binds K fd_check_many ["many"] [] := F_check_many.bindsN fun _ _ _ _ _ _ us hl => match us, hl with | [_], _ => rfl
  obtain ⟨fd_check_place, F_check_place⟩ : ∃ fd, FnP K "check_place" s_check_place [] (He.fAd K ("check_place", none)) fd := c.def_ 18 (d := d_check_place) rfl
  have g_check_place := He.glo_ok X G (c.fact 18 (f := .glo "check_place") rfl)
  have b_check_place : Binds K fd_check_place ["many", "place"] [] := F_check_place.bindsN fun _ _ _ _ _ _ us hl => match us, hl with | [_, _], _ => rfl
  obtain ⟨fd_words_there, F_words_there⟩ : ∃ fd, FnP K "words_there" s_words_there [] (He.fAd K ("words_there", none)) fd := c.def_ 19 (d := d_words_there) rfl
  have g_words_there := He.glo_ok X G (c.fact 19 (f := .glo "words_there") rfl)
  have b_words_there : Binds K fd_words_there ["many", "one"] [] := F_words_there.bindsN fun _ _ _ _ _ _ us hl => match us, hl with | [_, _], _ => rfl
  obtain ⟨fd_law_one_of, F_law_one_of⟩ : ∃ fd, FnP K "_law_one_of" s_law_one_of [] (He.fAd K ("_law_one_of", none)) fd := c.def_ 20 (d := d_law_one_of) rfl
  have g_law_one_of := He.glo_ok X G (c.fact 20 (f := .glo "_law_one_of") rfl)
  have b_law_one_of : Binds K fd_law_one_of ["purse", "some"] [] := F_law_one_of.bindsN fun _ _ _ _ _ _ us hl => match us, hl with | [_, _], _ => rfl
  obtain ⟨fd_faros_done, F_faros_done⟩ : ∃ fd, FnP K "faros_done" s_faros_done [] (He.fAd K ("faros_done", none)) fd := c.def_ 21 (d := d_faros_done) rfl
  have g_faros_done := He.glo_ok X G (c.fact 21 (f := .glo "faros_done") rfl)
  have b_faros_done : Binds K fd_faros_done ["many", "word"] [] := F_faros_done.bindsN fun _ _ _ _ _ _ us hl => match us, hl with | [_, _], _ => rfl
  have KB_faros_done_0 : KBinds K fd_faros_done ["many", "word"] ["word", "many"] (pick 0 2 [1, 0]) (pick 0 2 [1, 0]) := kb_of 0 2 [1, 0] F_faros_done (by simp) fun _ _ _ _ _ _ us ws h1 h2 => match us, h1, ws, h2 with | [], _, [_, _], _ => rfl
  obtain ⟨fd_word_to_place, F_word_to_place⟩ : ∃ fd, FnP K "word_to_place" s_word_to_place [] (He.fAd K ("word_to_place", none)) fd := c.def_ 22 (d := d_word_to_place) rfl
  have g_word_to_place := He.glo_ok X G (c.fact 22 (f := .glo "word_to_place") rfl)
  have b_word_to_place : Binds K fd_word_to_place ["many", "place"] [] := F_word_to_place.bindsN fun _ _ _ _ _ _ us hl => match us, hl with | [_, _], _ => rfl
  have KB_word_to_place_1 : KBinds K fd_word_to_place ["many", "place"] ["place", "many"] (pick 0 2 [1, 0]) (pick 0 2 [1, 0]) := kb_of 0 2 [1, 0] F_word_to_place (by simp) fun _ _ _ _ _ _ us ws h1 h2 => match us, h1, ws, h2 with | [], _, [_, _], _ => rfl
  obtain ⟨fd_shortest_word, F_shortest_word⟩ : ∃ fd, FnP K "shortest_word" s_shortest_word [] (He.fAd K ("shortest_word", none)) fd := c.def_ 23 (d := d_shortest_word) rfl
  have g_shortest_word := He.glo_ok X G (c.fact 23 (f := .glo "shortest_word") rfl)
  have b_shortest_word : Binds K fd_shortest_word ["many", "one", "other"] [] := F_shortest_word.bindsN fun _ _ _ _ _ _ us hl => match us, hl with | [_, _, _], _ => rfl
  have KB_shortest_word_3 : KBinds K fd_shortest_word ["many", "one", "other"] ["other", "one", "many"] (pick 0 3 [2, 1, 0]) (pick 0 3 [2, 1, 0]) := kb_of 0 3 [2, 1, 0] F_shortest_word (by simp) fun _ _ _ _ _ _ us ws h1 h2 => match us, h1, ws, h2 with | [], _, [_, _, _], _ => rfl
  obtain ⟨fd_word_lengths, F_word_lengths⟩ : ∃ fd, FnP K "word_lengths" s_word_lengths [] (He.fAd K ("word_lengths", none)) fd := c.def_ 24 (d := d_word_lengths) rfl
  have g_word_lengths := He.glo_ok X G (c.fact 24 (f := .glo "word_lengths") rfl)
  have b_word_lengths : Binds K fd_word_lengths ["many", "one"] [] := F_word_lengths.bindsN fun _ _ _ _ _ _ us hl => match us, hl with | [_, _], _ => rfl
  have KB_word_lengths_2 : KBinds K fd_word_lengths ["many", "one"] ["one", "many"] (pick 0 2 [1, 0]) (pick 0 2 [1, 0]) := kb_of 0 2 [1, 0] F_word_lengths (by simp) fun _ _ _ _ _ _ us ws h1 h2 => match us, h1, ws, h2 with | [], _, [_, _], _ => rfl
  obtain ⟨fd_law_exact, F_law_exact⟩ : ∃ fd, FnP K "_law_exact" s_law_exact [] (He.fAd K ("_law_exact", none)) fd := c.def_ 25 (d := d_law_exact) rfl
  have g_law_exact := He.glo_ok X G (c.fact 25 (f := .glo "_law_exact") rfl)
  have b_law_exact : Binds K fd_law_exact ["mine", "theirs"] [] := F_law_exact.bindsN fun _ _ _ _ _ _ us hl => match us, hl with | [_, _], _ => rfl
  obtain ⟨fd_law_right, F_law_right⟩ : ∃ fd, FnP K "_law_right" s_law_right [] (He.fAd K ("_law_right", none)) fd := c.def_ 26 (d := d_law_right) rfl
  have g_law_right := He.glo_ok X G (c.fact 26 (f := .glo "_law_right") rfl)
  have b_law_right : Binds K fd_law_right ["purse", "many"] [] := F_law_right.bindsN fun _ _ _ _ _ _ us hl => match us, hl with | [_, _], _ => rfl
  obtain ⟨fd_law, F_law⟩ : ∃ fd, FnP K "law" s_law [] (He.fAd K ("law", none)) fd := c.def_ 27 (d := d_law) rfl
  have g_law := He.glo_ok X G (c.fact 27 (f := .glo "law") rfl)
  have m_isinstance := He.free_ok X G (c.fact 28 (f := .free "isinstance") rfl)
  have m_int := He.free_ok X G (c.fact 29 (f := .free "int") rfl)
  have m_bool := He.free_ok X G (c.fact 30 (f := .free "bool") rfl)
  have m_list := He.free_ok X G (c.fact 31 (f := .free "list") rfl)
  have m_range := He.free_ok X G (c.fact 32 (f := .free "range") rfl)
  have m_enumerate := He.free_ok X G (c.fact 33 (f := .free "enumerate") rfl)
  have m_max := He.free_ok X G (c.fact 34 (f := .free "max") rfl)
  have m_str := He.free_ok X G (c.fact 35 (f := .free "str") rfl)
  have m_all := He.free_ok X G (c.fact 36 (f := .free "all") rfl)
  have m_sum := He.free_ok X G (c.fact 37 (f := .free "sum") rfl)
  have m_len := He.free_ok X G (c.fact 38 (f := .free "len") rfl)
  have m_min := He.free_ok X G (c.fact 39 (f := .free "min") rfl)
  have m_sorted := He.free_ok X G (c.fact 40 (f := .free "sorted") rfl)
  have m_tuple := He.free_ok X G (c.fact 41 (f := .free "tuple") rfl)
  have m_zip := He.free_ok X G (c.fact 42 (f := .free "zip") rfl)
  have m_dict := He.free_ok X G (c.fact 43 (f := .free "dict") rfl)
  have e := hfa.symm.trans g_law
  cases e
  refine ⟨fd_law, fun s v => FunD.bindsA (ps := ["script"]) F_law (fun _ _ _ _ _ _ us hl => match us, hl with | [_], _ => rfl) s [v] rfl, fun base _ _ => ?_⟩
  have G_is_whole : Kn P w K mg base "is_whole" ["value"] R_is_whole 1 [] [] _ fd_is_whole := ⟨ok_is_whole F_is_whole m_isinstance m_int m_bool, g_is_whole, F_is_whole.kp, b_is_whole, .nil⟩
  have G_faro_there : Kn P w K mg base "faro_there" ["many", "kind"] R_faro_there 1 [] [] _ fd_faro_there := ⟨ok_faro_there F_faro_there m_list m_range m_enumerate, g_faro_there, F_faro_there.kp, b_faro_there, .nil⟩
  have G_number_of : Kn P w K mg base "number_of" ["many", "kind"] R_number_of 1 [] [] _ fd_number_of := ⟨ok_number_of F_number_of m_max, g_number_of, F_number_of.kp, b_number_of, .nil⟩
  have G_is_word : Kn P w K mg base "is_word" ["value"] R_is_word 1 [] [] _ fd_is_word := ⟨ok_is_word F_is_word m_isinstance m_str m_all, g_is_word, F_is_word.kp, b_is_word, .nil⟩
  have G_kind_of : Kn P w K mg base "kind_of" ["sign"] R_kind_of 1 [] [] _ fd_kind_of := ⟨ok_kind_of F_kind_of , g_kind_of, F_kind_of.kp, b_kind_of, .nil⟩
  have G_law_purse : Kn P w K mg base "_law_purse" ["script", "at"] (R_law_purse K) 1 [] [] _ fd_law_purse := ⟨ok_law_purse F_law_purse m_sum m_int m_max, g_law_purse, F_law_purse.kp, b_law_purse, .nil⟩
  have G_law_mixed : Kn P w K mg base "_law_mixed" ["seed", "spin", "at"] R_law_mixed 1 [] [] _ fd_law_mixed := ⟨ok_law_mixed F_law_mixed m_int, g_law_mixed, F_law_mixed.kp, b_law_mixed, .nil⟩
  have G_law_faro : Kn P w K mg base "_law_faro" ["many", "kind"] R_law_faro 1 [] [] _ fd_law_faro := ⟨ok_law_faro F_law_faro m_list m_range m_int, g_law_faro, F_law_faro.kp, b_law_faro, .nil⟩
  have G_law_then : Kn P w K mg base "_law_then" ["one", "other"] R_law_then 1 [] [] _ fd_law_then := ⟨ok_law_then F_law_then , g_law_then, F_law_then.kp, b_law_then, .nil⟩
  have G_law_back : Kn P w K mg base "_law_back" ["move"] R_law_back 1 [] [] _ fd_law_back := ⟨ok_law_back F_law_back m_len m_enumerate, g_law_back, F_law_back.kp, b_law_back, .nil⟩
  have G_law_figures : Kn P w K mg base "_law_figures" ["place"] R_law_figures 1 [] [] _ fd_law_figures := ⟨ok_law_figures F_law_figures m_int, g_law_figures, F_law_figures.kp, b_law_figures, .nil⟩
  have G_is_count : Kn P w K mg base "is_count" ["value", "least"] R_is_count 2 [.int 0] ds_is_count _ fd_is_count := ⟨ok_is_count F_is_count G_is_whole m_max, g_is_count, F_is_count.kp, b_is_count, v_is_count⟩
  have G_is_count_all : Kn P w K mg base "is_count" ["value", "least"] R_is_count 2 [] [] _ fd_is_count := ⟨G_is_count.ok, G_is_count.m, G_is_count.kp, ba_is_count, .nil⟩
  have G_done_there : Kn P w K mg base "done_there" ["many", "word"] R_done_there 2 [] [] _ fd_done_there := ⟨ok_done_there F_done_there G_faro_there G_kind_of m_list m_range, g_done_there, F_done_there.kp, b_done_there, .nil⟩
  have G_next_place : Kn P w K mg base "next_place" ["many", "kind", "place"] R_next_place 2 [] [] _ fd_next_place := ⟨ok_next_place F_next_place G_number_of m_int, g_next_place, F_next_place.kp, b_next_place, .nil⟩
  have G_law_draw : Kn P w K mg base "_law_draw" ["purse", "many"] R_law_draw 2 [] [] _ fd_law_draw := ⟨ok_law_draw F_law_draw G_law_mixed m_int m_range, g_law_draw, F_law_draw.kp, b_law_draw, .nil⟩
  have G_law_done : Kn P w K mg base "_law_done" ["many", "word"] R_law_done 2 [] [] _ fd_law_done := ⟨ok_law_done F_law_done G_law_then G_law_faro m_list m_range, g_law_done, F_law_done.kp, b_law_done, .nil⟩
  have G_law_words : Kn P w K mg base "_law_words" ["many", "one"] R_law_words 2 [] [] _ fd_law_words := ⟨ok_law_words F_law_words G_law_back G_law_faro m_min m_sorted, g_law_words, F_law_words.kp, b_law_words, .nil⟩
  have G_check_many : Kn P w K mg base "check_many" ["many"] R_check_many 3 [] [] _ fd_check_many := ⟨ok_check_many F_check_many G_is_count, g_check_many, F_check_many.kp, b_check_many, .nil⟩
  have G_check_place : Kn P w K mg base "check_place" ["many", "place"] R_check_place 3 [] [] _ fd_check_place := ⟨ok_check_place F_check_place G_is_count, g_check_place, F_check_place.kp, b_check_place, .nil⟩
  have G_words_there : Kn P w K mg base "words_there" ["many", "one"] R_words_there 3 [] [] _ fd_words_there := ⟨ok_words_there F_words_there G_next_place G_kind_of m_list, g_words_there, F_words_there.kp, b_words_there, .nil⟩
  have G_law_one_of : Kn P w K mg base "_law_one_of" ["purse", "some"] R_law_one_of 3 [] [] _ fd_law_one_of := ⟨ok_law_one_of F_law_one_of G_law_draw m_len, g_law_one_of, F_law_one_of.kp, b_law_one_of, .nil⟩
  have G_faros_done : Kn P w K mg base "faros_done" ["many", "word"] R_faros_done 4 [] [] _ fd_faros_done := ⟨ok_faros_done F_faros_done G_check_many G_is_word G_done_there, g_faros_done, F_faros_done.kp, b_faros_done, .nil⟩
  have G_word_to_place : Kn P w K mg base "word_to_place" ["many", "place"] R_word_to_place 4 [] [] _ fd_word_to_place := ⟨ok_word_to_place F_word_to_place G_check_many G_check_place, g_word_to_place, F_word_to_place.kp, b_word_to_place, .nil⟩
  have G_shortest_word : Kn P w K mg base "shortest_word" ["many", "one", "other"] R_shortest_word 4 [] [] _ fd_shortest_word := ⟨ok_shortest_word F_shortest_word G_check_many G_check_place G_is_count G_words_there, g_shortest_word, F_shortest_word.kp, b_shortest_word, .nil⟩
  have G_word_lengths : Kn P w K mg base "word_lengths" ["many", "one"] R_word_lengths 4 [] [] _ fd_word_lengths := ⟨ok_word_lengths F_word_lengths G_check_many G_check_place G_words_there m_range m_len, g_word_lengths, F_word_lengths.kp, b_word_lengths, .nil⟩
  have G_law_exact : Kn P w K mg base "_law_exact" ["mine", "theirs"] R_law_exact 9 [] [] _ fd_law_exact := ⟨ok_law_exact 8 F_law_exact m_isinstance m_tuple m_list m_len m_all m_zip m_dict m_int m_str m_bool g_law_exact b_law_exact, g_law_exact, F_law_exact.kp, b_law_exact, .nil⟩
  have G_law_right : Kn P w K mg base "_law_right" ["purse", "many"] R_law_right 10 [] [] _ fd_law_right := ⟨ok_law_right F_law_right G_law_draw G_law_one_of G_law_done G_faros_done G_law_exact G_law_figures G_word_to_place G_law_words G_word_lengths G_shortest_word KB_faros_done_0 KB_word_to_place_1 KB_word_lengths_2 KB_shortest_word_3 m_range m_len, g_law_right, F_law_right.kp, b_law_right, .nil⟩
  exact ok_law F_law G_law_purse G_law_right G_law_draw G_law_done G_word_to_place G_shortest_word G_faros_done G_word_lengths G_law_exact m_range m_max m_min m_len
end DL
open PySem PySem.W PySem.Calls PyProof.Rows
theorem PySem.Challenge.cw_suretricks_k21_whole_words_of_shuffles_holds : PySem.Challenge.rw_suretricks_k21_whole_words_of_shuffles.Holds := by
  w_on; o_law
  refine HandSHeadRun.head_any (r := OpenLaw.row PySem.Challenge.rw_suretricks_k21_whole_words_of_shuffles) (q := view (OpenLaw.row PySem.Challenge.rw_suretricks_k21_whole_words_of_shuffles).prog [37]) (H := DL.hkL) (ob := DL.obL) (M := 6200) (loose := DL.looseL) (d := HandSHeadRun.topDef (OpenLaw.row PySem.Challenge.rw_suretricks_k21_whole_words_of_shuffles).prog 37) (kwd := []) DL.obL_eq
    (by kernel_rfl) (fun s => by kernel_rfl) DL.runL (by kernel_rfl) (by kernel_rfl) (by kernel_rfl) (by rfl) (by first | assumption | decide +kernel) (by decide +kernel) ⟨rfl, rfl, rfl, rfl, rfl, by decide +kernel⟩ ?hw ?hc
  case hw => w_witness2
  case hc =>
    refine DL.walkG (l := PySem.Challenge.rw_suretricks_k21_whole_words_of_shuffles) (n := 63) (k := 11) (x := "script") rfl (by decide) (by kernel_rfl) ⟨rfl, by decide, by decide⟩ ?F
    intro w mg fa h Y G hmg0
    obtain ⟨K, KX, c⟩ := Y
    have hmg : mg ("law" : PySem.Str) = some (.ref fa) := by
      have e : (HandSHeadRun.topDef (OpenLaw.row PySem.Challenge.rw_suretricks_k21_whole_words_of_shuffles).prog 37).name = ("law" : PySem.Str) := by kernel_rfl
      rw [← e]
      exact hmg0
    obtain ⟨fd, hb, hF⟩ := DL.factsL (P := (PySem.Challenge.rw_suretricks_k21_whole_words_of_shuffles).prog) (w := w) KX G hmg c
    refine ⟨K, fd, DL.spD (DL.R_law K), KX, hb, fun H a ns hl hS => ?_, hF⟩
    exact DL.law_end hS fun Q q => ⟨ns, rfl, hl, q⟩
