import PyProof.Rows.All
import PySem.Challenge.RW_legsteps_k73_whole_runs
import Wide.All
import OpenK.AllK
import Wide.FinOn
import HandS.ForMost
import HandS.Wide
import HandS.WideBits
import HandS.Gcd
import HandS.Flow
import HandS.Rev
import HandS.RevRange
import HandS.Zip
import HandS.TupAny
import HandS.TupMul
import HandS.IsInst
import HandS.Walk
import HandS.Style
import HandS.Defaults
import HandS.EndBits
import KE.GoesEnum
import KE.GoesZip
import HandS.Small
import HandS.ExcOwn
import HandS.TryOnly
import HandS.WordsExc
import PyProof.Draws
set_option Elab.async false
set_option linter.all false
set_option maxRecDepth 100000
/-! Den0: deep data D, what stands for it in the abstract heap (DF), the state of a def's body (SR), judgements. -/
namespace Dn
open PySem PySem.Spec PyProof.Rows L2
/-- deep data: what a pure value is -/
inductive D where
  | non | bl (b : Bool) | int (i : Int) | str (x : Str) | lst (xs : List D) | tup (xs : List D) | scr (xs : List D) | dct
/-- a list that never changes: the script -/
def ScL (K : PySem.W.Frag) (H : Hp) (a : Addr) (xs : List V) : Prop := (∃ o, H a = some (.frz o (.lst xs))) ∨
  ∃ (o : Obj) (its : Array Value) (n : Nat), K.lookup a = some o ∧ o.cls = .type "list" ∧ o.dict = none ∧ o.data = .seq its n ∧ its.size ≤ sizeLine ∧ Vals xs its.toList
theorem ScL.sq {K : PySem.W.Frag} {H : Hp} {a : Addr} {xs : List V} (h : ScL K H a xs) : SqL K H a xs := h.elim (fun h => .inl (.inr h)) .inr
section
variable (K : PySem.W.Frag) (H : Hp) (O : Addr → Prop)
mutual
/-- v stands for d in H, no list of it owned -/
def DF : D → V → Prop
  | .non, v => v = .non
  | .bl b, v => v = .bl b
  | .int i, v => v = .int i
  | .str x, v => v = .str x
  | .lst ds, v => ∃ a xs, v = .ref a ∧ (H a = some (.lst xs) ∧ ¬ O a) ∧ DFs ds xs
  | .tup ds, v => ∃ a xs, v = .ref a ∧ SqT K H a xs ∧ DFs ds xs
  | .scr ds, v => ∃ a xs, v = .ref a ∧ ScL K H a xs ∧ DFs ds xs
  | .dct, v => ∃ a, v = .ref a ∧ H a = some (.dK []) ∧ ¬ O a
def DFs : List D → List V → Prop
  | [], xs => xs = []
  | d :: ds, xs => ∃ x r, xs = x :: r ∧ DF d x ∧ DFs ds r
end
end
/-- objects are kept but those at the owned places -/
def Kp (O : Addr → Prop) (H H' : Hp) : Prop := ∀ b o, ¬ O b → H b = some o → H' b = some o
/-- owned places are lists -/
def OL (O : Addr → Prop) (H : Hp) : Prop := ∀ a, O a → ∃ xs, H a = some (.lst xs)
/-- what is owned afterwards was owned or not there -/
def Ow (O : Addr → Prop) (H : Hp) (O' : Addr → Prop) : Prop := ∀ b, O' b → O b ∨ H b = none
section
variable {K : PySem.W.Frag} {H H' H2 : Hp} {O O' O2 : Addr → Prop} {a : Addr} {xs : List V}
theorem lstF_mono (k : Kp O H H') (ow : Ow O H O') (h : H a = some (.lst xs) ∧ ¬ O a) : H' a = some (.lst xs) ∧ ¬ O' a := by
  refine ⟨k _ _ h.2 h.1, fun o => ?_⟩
  rcases ow a o with z | z
  · exact h.2 z
  · rw [h.1] at z; cases z
theorem sqT_kp (ol : OL O H) (k : Kp O H H') (h : SqT K H a xs) : SqT K H' a xs := by
  have n : ∀ b o, H b = some o → (∀ ys, o ≠ .lst ys) → ¬ O b := fun b o e ne ob => by
    obtain ⟨ys, e'⟩ := ol b ob
    rw [e] at e'
    exact ne ys (Option.some.inj e')
  rcases h with (h | ⟨o, h⟩) | h
  · exact .inl (.inl (k _ _ (n _ _ h fun _ z => nomatch z) h))
  · exact .inl (.inr ⟨o, k _ _ (n _ _ h fun _ z => nomatch z) h⟩)
  · exact .inr h
theorem scL_kp (ol : OL O H) (k : Kp O H H') (h : ScL K H a xs) : ScL K H' a xs := by
  rcases h with ⟨o, h⟩ | h
  · refine .inl ⟨o, k _ _ (fun ob => ?_) h⟩
    obtain ⟨ys, e'⟩ := ol a ob
    rw [h] at e'; cases e'
  · exact .inr h
theorem Kp.refl : Kp O H H := fun _ _ _ h => h
theorem Kp.trans (a : Kp O H H') (o : Ow O H O') (b : Kp O' H' H2) : Kp O H H2 := fun c x n h => by
  refine b c x (fun z => ?_) (a c x n h)
  rcases o c z with q | q
  · exact n q
  · rw [h] at q; cases q
theorem Ow.refl : Ow O H O := fun _ h => .inl h
theorem Ow.trans (k : Kp O H H') (a : Ow O H O') (b : Ow O' H' O2) : Ow O H O2 := fun c h => by
  by_cases n : O c
  · exact .inl n
  rcases b c h with q | q
  · exact a c q
  · cases e : H c with
    | none => exact .inr rfl
    | some o => rw [k c o n e] at q; cases q
mutual
theorem DF.mono (ol : OL O H) (k : Kp O H H') (ow : Ow O H O') : ∀ (d : D) (v : V), DF K H O d v → DF K H' O' d v
  | .non, _, h => h
  | .bl _, _, h => h
  | .int _, _, h => h
  | .str _, _, h => h
  | .lst ds, v, h => by
    obtain ⟨a, xs, e, q, r⟩ := h
    exact ⟨a, xs, e, lstF_mono k ow q, DFs.mono ol k ow ds xs r⟩
  | .tup ds, v, h => by
    obtain ⟨a, xs, e, q, r⟩ := h
    exact ⟨a, xs, e, sqT_kp ol k q, DFs.mono ol k ow ds xs r⟩
  | .scr ds, v, h => by
    obtain ⟨a, xs, e, q, r⟩ := h
    exact ⟨a, xs, e, scL_kp ol k q, DFs.mono ol k ow ds xs r⟩
  | .dct, v, h => by
    obtain ⟨a, e, q, r⟩ := h
    refine ⟨a, e, k _ _ r q, fun o => ?_⟩
    rcases ow a o with z | z
    · exact r z
    · rw [q] at z; cases z
theorem DFs.mono (ol : OL O H) (k : Kp O H H') (ow : Ow O H O') : ∀ (ds : List D) (xs : List V), DFs K H O ds xs → DFs K H' O' ds xs
  | [], _, h => h
  | d :: ds, xs, h => by
    obtain ⟨x, r, e, q, s⟩ := h
    exact ⟨x, r, e, DF.mono ol k ow d x q, DFs.mono ol k ow ds r s⟩
end
/-- the heap kept whole -/
abbrev Ex (H H' : Hp) : Prop := ∀ b o, H b = some o → H' b = some o
theorem Ex.kp (e : Ex H H') : Kp O H H' := fun b o _ h => e b o h
theorem Ex.new {p : Addr} {o : HO} (h : H p = none) : Ex H (upd H p o) := fun b u e => by rw [upd_ne (ne_of_none e h)]; exact e
theorem OL.ex (ol : OL O H) (e : Ex H H') : OL O H' := fun a h => let ⟨xs, q⟩ := ol a h; ⟨xs, e a _ q⟩
theorem OL.not_none (ol : OL O H) (h : H a = none) : ¬ O a := fun z => by obtain ⟨_, q⟩ := ol a z; rw [h] at q; cases q
theorem DF.ex (ol : OL O H) (e : Ex H H') {d : D} {v : V} (h : DF K H O d v) : DF K H' O d v := DF.mono ol e.kp .refl d v h
theorem DFs.ex (ol : OL O H) (e : Ex H H') {d : List D} {v : List V} (h : DFs K H O d v) : DFs K H' O d v := DFs.mono ol e.kp .refl d v h
theorem DFs.length : ∀ {ds : List D} {xs : List V}, DFs K H O ds xs → ds.length = xs.length
  | [], _, h => by rw [show _ = [] from h]; rfl
  | d :: ds, xs, h => by
    obtain ⟨x, r, e, _, s⟩ := h
    rw [e, List.length_cons, List.length_cons, DFs.length s]
theorem DFs.get : ∀ {ds : List D} {xs : List V} {i : Nat} {d : D}, DFs K H O ds xs → ds[i]? = some d → ∃ x, xs[i]? = some x ∧ DF K H O d x
  | [], _, _, _, _, e => by simp at e
  | d :: ds, xs, 0, d', h, e => by
    obtain ⟨x, r, rfl, q, _⟩ := h
    simp at e; subst e
    exact ⟨x, rfl, q⟩
  | d :: ds, xs, i + 1, d', h, e => by
    obtain ⟨x, r, rfl, _, s⟩ := h
    exact DFs.get (i := i) s (by simpa using e)
theorem DFs.get' : ∀ {ds : List D} {xs : List V} {i : Nat} {x : V}, DFs K H O ds xs → xs[i]? = some x → ∃ d, ds[i]? = some d ∧ DF K H O d x
  | [], _, _, _, h, e => by rw [show _ = [] from h] at e; simp at e
  | d :: ds, xs, 0, d', h, e => by
    obtain ⟨x, r, rfl, q, _⟩ := h
    simp at e; subst e
    exact ⟨d, rfl, q⟩
  | d :: ds, xs, i + 1, d', h, e => by
    obtain ⟨x, r, rfl, _, s⟩ := h
    exact DFs.get' (i := i) s (by simpa using e)
theorem DFs.append : ∀ {ds es : List D} {xs ys : List V}, DFs K H O ds xs → DFs K H O es ys → DFs K H O (ds ++ es) (xs ++ ys)
  | [], _, _, _, h, h' => by rw [show _ = [] from h]; exact h'
  | d :: ds, es, xs, ys, h, h' => by
    obtain ⟨x, r, rfl, q, s⟩ := h
    exact ⟨x, r ++ ys, rfl, q, DFs.append s h'⟩
theorem DFs.drop : ∀ {ds : List D} {xs : List V} (n : Nat), DFs K H O ds xs → DFs K H O (ds.drop n) (xs.drop n)
  | _, _, 0, h => h
  | [], _, n + 1, h => by rw [show _ = [] from h]; exact rfl
  | d :: ds, xs, n + 1, h => by
    obtain ⟨x, r, rfl, q, s⟩ := h
    exact DFs.drop n s
theorem DFs.take : ∀ {ds : List D} {xs : List V} (n : Nat), DFs K H O ds xs → DFs K H O (ds.take n) (xs.take n)
  | _, _, 0, h => rfl
  | [], _, n + 1, h => by rw [show _ = [] from h]; exact rfl
  | d :: ds, xs, n + 1, h => by
    obtain ⟨x, r, rfl, q, s⟩ := h
    exact ⟨x, _, rfl, q, DFs.take n s⟩
theorem DFs.set : ∀ {ds : List D} {xs : List V} (i : Nat) {d : D} {x : V}, DFs K H O ds xs → DF K H O d x → DFs K H O (ds.set i d) (xs.set i x)
  | [], _, _, _, _, h, _ => by rw [show _ = [] from h]; exact rfl
  | d :: ds, xs, 0, d', x', h, q' => by
    obtain ⟨x, r, rfl, q, s⟩ := h
    exact ⟨x', r, rfl, q', s⟩
  | d :: ds, xs, i + 1, d', x', h, q' => by
    obtain ⟨x, r, rfl, q, s⟩ := h
    exact ⟨x, _, rfl, q, DFs.set i s q'⟩
theorem DFs.eraseIdx : ∀ {ds : List D} {xs : List V} (i : Nat), DFs K H O ds xs → DFs K H O (ds.eraseIdx i) (xs.eraseIdx i)
  | [], _, _, h => by rw [show _ = [] from h]; exact rfl
  | d :: ds, xs, 0, h => by
    obtain ⟨x, r, rfl, q, s⟩ := h
    exact s
  | d :: ds, xs, i + 1, h => by
    obtain ⟨x, r, rfl, q, s⟩ := h
    exact ⟨x, _, rfl, q, DFs.eraseIdx i s⟩
theorem DFs.one {d : D} {x : V} (h : DF K H O d x) : DFs K H O [d] [x] := ⟨x, [], rfl, h, rfl⟩
theorem DFs.cons {d : D} {x : V} {ds : List D} {xs : List V} (h : DF K H O d x) (t : DFs K H O ds xs) : DFs K H O (d :: ds) (x :: xs) := ⟨x, xs, rfl, h, t⟩
theorem DFs.dropLast {ds : List D} {xs : List V} (h : DFs K H O ds xs) : DFs K H O ds.dropLast xs.dropLast := by
  rw [List.dropLast_eq_take, List.dropLast_eq_take, h.length]
  exact h.take _
theorem DFs.rep {ds : List D} {xs : List V} (h : DFs K H O ds xs) : ∀ k : Nat, DFs K H O (List.replicate k ds).flatten (List.replicate k xs).flatten
  | 0 => rfl
  | k + 1 => by
    simp only [List.replicate_succ, List.flatten_cons]
    exact h.append (DFs.rep h k)
end
end Dn
namespace Dn
open PySem PySem.Spec PyProof.Rows L2
/-- a def's frame: the place of its sack (a list that it may change), the heap and what is owned at its entry -/
structure Fm where
  io : Option Addr
  H0 : Hp
  O0 : Addr → Prop
  /-- what is wished of an exception of the class with such a name -/
  W : Str → L2.St → Hp → Prop
abbrev VE := List (Option D)
structure SR (K : PySem.W.Frag) (F : Fm) (own : List Nat) (O : Addr → Prop) (H : Hp) (σ : L2.St) (sk : D) (ev : VE) : Prop where
  len : ev.length = σ.length
  val : ∀ i d, ev[i]? = some (some d) → i ∉ own → ∃ v, σ[i]? = some (some v) ∧ DF K H O d v
  ownd : ∀ i d, ev[i]? = some (some d) → i ∈ own → ∃ a xs ds, d = .lst ds ∧ σ[i]? = some (some (.ref a)) ∧ H a = some (.lst xs) ∧ O a ∧ F.H0 a = none ∧ DFs K H O ds xs
  inj : ∀ i j d e a, i ∈ own → j ∈ own → ev[i]? = some (some d) → ev[j]? = some (some e) → σ[i]? = some (some (.ref a)) → σ[j]? = some (some (.ref a)) → i = j
  ol : OL O H
  pres : ∀ b o, F.H0 b = some o → F.io ≠ some b → H b = some o
  o0 : ∀ a, F.O0 a → O a
  ow : Ow F.O0 F.H0 O
  ol0 : OL F.O0 F.H0
  sack : ∀ a, F.io = some a → F.O0 a ∧ σ[0]? = some (some (.ref a)) ∧ ∃ xs ds, sk = .lst ds ∧ H a = some (.lst xs) ∧ DFs K H O ds xs
/-- an expression's step: only the sack may change -/
def Xt (F : Fm) (H H' : Hp) : Prop := ∀ b o, F.io ≠ some b → H b = some o → H' b = some o
theorem Xt.refl {F : Fm} {H : Hp} : Xt F H H := fun _ _ _ h => h
theorem Xt.trans {F : Fm} {H H' H2 : Hp} (a : Xt F H H') (b : Xt F H' H2) : Xt F H H2 := fun c o n h => b c o n (a c o n h)
theorem Ex.xt {F : Fm} {H H' : Hp} (e : Ex H H') : Xt F H H' := fun b o _ h => e b o h
section
variable {K : PySem.W.Frag} {F : Fm} {own : List Nat} {O O' : Addr → Prop} {H H' H2 : Hp} {σ : L2.St} {sk sk' : D} {ev : VE}
theorem SR.io_O (S : SR K F own O H σ sk ev) {a : Addr} (e : F.io = some a) : O a := S.o0 a (S.sack a e).1
theorem SR.kp (S : SR K F own O H σ sk ev) (x : Xt F H H') : Kp O H H' := fun b o n h => x b o (fun z => n (S.io_O z)) h
theorem SR.fresh0 (S : SR K F own O H σ sk ev) {a : Addr} (h : H a = none) : F.H0 a = none := by
  cases e : F.H0 a with
  | none => rfl
  | some o =>
    by_cases q : F.io = some a
    · obtain ⟨_, _, xs, ds, _, z, _⟩ := S.sack a q
      rw [h] at z; cases z
    · rw [S.pres a o e q] at h; cases h
/-- the heap steps on; what is owned grows by new lists -/
theorem SR.step (S : SR K F own O H σ sk ev) (x : Xt F H H') (g : ∀ b, O b → O' b) (n : ∀ b, O' b → O b ∨ (H b = none ∧ ∃ xs, H' b = some (.lst xs)))
    (s : ∀ a, F.io = some a → ∃ xs ds, sk' = .lst ds ∧ H' a = some (.lst xs) ∧ DFs K H' O' ds xs) : SR K F own O' H' σ sk' ev := by
  have k := S.kp x
  have ow : Ow O H O' := fun b h => (n b h).elim .inl fun z => .inr z.1
  refine ⟨S.len, fun i d e ni => ?_, fun i d e hi => ?_, S.inj, fun b h => ?_, fun b o e ne => x b o ne (S.pres b o e ne), fun a h => g a (S.o0 a h), fun b h => ?_, S.ol0, fun a e => ?_⟩
  · obtain ⟨v, h, q⟩ := S.val i d e ni
    exact ⟨v, h, DF.mono S.ol k ow d v q⟩
  · obtain ⟨a, xs, ds, h1, h2, h3, h4, h5, h6⟩ := S.ownd i d e hi
    refine ⟨a, xs, ds, h1, h2, x a _ (fun z => ?_) h3, g a h4, h5, DFs.mono S.ol k ow ds xs h6⟩
    obtain ⟨ys, q⟩ := S.ol0 a (S.sack a z).1
    rw [h5] at q; cases q
  · rcases n b h with z | z
    · by_cases q : F.io = some b
      · obtain ⟨xs, ds, _, z, _⟩ := s b q
        exact ⟨xs, z⟩
      · obtain ⟨xs, z⟩ := S.ol b z
        exact ⟨xs, x b _ q z⟩
    · exact z.2
  · rcases n b h with z | z
    · exact S.ow b z
    · exact .inr (S.fresh0 z.1)
  · obtain ⟨h1, h2, _⟩ := S.sack a e
    exact ⟨h1, h2, s a e⟩
theorem SR.sackmono (S : SR K F own O H σ sk ev) (e : Ex H H') (ow : Ow O H O') : ∀ a, F.io = some a → ∃ xs ds, sk = .lst ds ∧ H' a = some (.lst xs) ∧ DFs K H' O' ds xs := fun a h => by
  obtain ⟨_, _, xs, ds, h1, h2, h3⟩ := S.sack a h
  exact ⟨xs, ds, h1, e a _ h2, DFs.mono S.ol e.kp ow ds xs h3⟩
/-- the heap grows -/
theorem SR.ex (S : SR K F own O H σ sk ev) (e : Ex H H') : SR K F own O H' σ sk ev := S.step e.xt (fun _ h => h) (fun _ h => .inl h) (S.sackmono e .refl)
/-- a new list, owned from here on -/
theorem SR.grow (S : SR K F own O H σ sk ev) (e : Ex H H') {a : Addr} {xs : List V} (h : H a = none) (h' : H' a = some (.lst xs)) : SR K F own (fun b => O b ∨ b = a) H' σ sk ev :=
  S.step e.xt (fun _ h => .inl h) (fun b q => q.elim .inl fun z => .inr (by rw [z]; exact ⟨h, xs, h'⟩)) (S.sackmono e fun b q => q.elim .inl fun z => .inr (by rw [z]; exact h))
theorem SR.less (S : SR K F own (fun b => O b ∨ b = a) H σ sk ev) (S0 : SR K F own O H2 σ sk' ev) (h : H2 a = none) (x : Xt F H2 H) : SR K F own O H σ sk ev :=
  S0.step x (fun _ h => h) (fun _ h => .inl h) fun b e => by
    obtain ⟨_, _, xs, ds, h1, h2, h3⟩ := S.sack b e
    exact ⟨xs, ds, h1, h2, DFs.mono S.ol .refl (fun b h => .inl (.inl h)) ds xs h3⟩
end
/-- a value: clean, or (top) an owned list whose items are clean -/
def DV (top : Bool) (K : PySem.W.Frag) (F : Fm) (H : Hp) (O : Addr → Prop) (d : D) (v : V) : Prop :=
  DF K H O d v ∨ (top = true ∧ ∃ a xs ds, d = .lst ds ∧ v = .ref a ∧ F.io ≠ some a ∧ H a = some (.lst xs) ∧ DFs K H O ds xs)
theorem DV.clean {K : PySem.W.Frag} {F : Fm} {H : Hp} {O : Addr → Prop} {d : D} {v : V} (h : DV false K F H O d v) : DF K H O d v := h.elim id fun z => nomatch z.1
theorem DV.of {top : Bool} {K : PySem.W.Frag} {F : Fm} {H : Hp} {O : Addr → Prop} {d : D} {v : V} (h : DF K H O d v) : DV top K F H O d v := .inl h
theorem DV.top {top : Bool} {K : PySem.W.Frag} {F : Fm} {H : Hp} {O : Addr → Prop} {d : D} {v : V} (h : DV top K F H O d v) : DV true K F H O d v := h.elim .inl fun z => .inr ⟨rfl, z.2⟩
theorem DV.xt {top : Bool} {K : PySem.W.Frag} {F : Fm} {H H' : Hp} {O : Addr → Prop} {d : D} {v : V} (ol : OL O H) (k : Kp O H H') (x : Xt F H H') (h : DV top K F H O d v) : DV top K F H' O d v := by
  rcases h with h | ⟨ht, a, xs, ds, h1, h2, h3, h4, h5⟩
  · exact .inl (DF.mono ol k .refl d v h)
  · exact .inr ⟨ht, a, xs, ds, h1, h2, h3, x a _ h3 h4, DFs.mono ol k .refl ds xs h5⟩
/-- .. as a list that may be read -/
theorem DV.lst {top : Bool} {K : PySem.W.Frag} {F : Fm} {H : Hp} {O : Addr → Prop} {ds : List D} {v : V} (h : DV top K F H O (.lst ds) v) : ∃ a xs, v = .ref a ∧ H a = some (.lst xs) ∧ DFs K H O ds xs := by
  rcases h with h | ⟨_, a, xs, ds', h1, h2, _, h4, h5⟩
  · obtain ⟨a, xs, e, q, r⟩ := h
    exact ⟨a, xs, e, q.1, r⟩
  · cases h1
    exact ⟨a, xs, h2, h4, h5⟩
theorem DV.tup {top : Bool} {K : PySem.W.Frag} {F : Fm} {H : Hp} {O : Addr → Prop} {ds : List D} {v : V} (h : DV top K F H O (.tup ds) v) : ∃ a xs, v = .ref a ∧ SqT K H a xs ∧ DFs K H O ds xs := by
  rcases h with h | ⟨_, a, xs, ds', h1, h2, _, h4, h5⟩
  · exact h
  · cases h1
theorem DV.scr {top : Bool} {K : PySem.W.Frag} {F : Fm} {H : Hp} {O : Addr → Prop} {ds : List D} {v : V} (h : DV top K F H O (.scr ds) v) : ∃ a xs, v = .ref a ∧ ScL K H a xs ∧ DFs K H O ds xs := by
  rcases h with h | ⟨_, a, xs, ds', h1, h2, _, h4, h5⟩
  · exact h
  · cases h1
theorem DV.dct {top : Bool} {K : PySem.W.Frag} {F : Fm} {H : Hp} {O : Addr → Prop} {v : V} (h : DV top K F H O .dct v) : ∃ a, v = .ref a ∧ H a = some (.dK []) := by
  rcases h with h | ⟨_, a, xs, ds', h1, _⟩
  · obtain ⟨a, e, q, _⟩ := h
    exact ⟨a, e, q⟩
  · cases h1
theorem DV.int {top : Bool} {K : PySem.W.Frag} {F : Fm} {H : Hp} {O : Addr → Prop} {i : Int} {v : V} (h : DV top K F H O (.int i) v) : v = .int i := by
  rcases h with h | ⟨_, a, xs, ds', h1, _⟩
  · exact h
  · cases h1
theorem DV.bl {top : Bool} {K : PySem.W.Frag} {F : Fm} {H : Hp} {O : Addr → Prop} {b : Bool} {v : V} (h : DV top K F H O (.bl b) v) : v = .bl b := by
  rcases h with h | ⟨_, a, xs, ds', h1, _⟩
  · exact h
  · cases h1
theorem DV.str {top : Bool} {K : PySem.W.Frag} {F : Fm} {H : Hp} {O : Addr → Prop} {b : Str} {v : V} (h : DV top K F H O (.str b) v) : v = .str b := by
  rcases h with h | ⟨_, a, xs, ds', h1, _⟩
  · exact h
  · cases h1
theorem DV.non {top : Bool} {K : PySem.W.Frag} {F : Fm} {H : Hp} {O : Addr → Prop} {v : V} (h : DV top K F H O .non v) : v = .non := by
  rcases h with h | ⟨_, a, xs, ds', h1, _⟩
  · exact h
  · cases h1
/-! ### denotations, judgements -/
/-- an expression: the sack and the names to a value and the sack -/
abbrev EF := D → VE → Option (D × D)
abbrev BF := D → VE → Option (Bool × D)
abbrev AF := D → VE → Option (List D × D)
def tD (K : PySem.W.Frag) (F : Fm) (own : List Nat) (top : Bool) (E : EF) : TE := fun σ H Q => ∃ O sk ev d sk', SR K F own O H σ sk ev ∧ E sk ev = some (d, sk') ∧
  ∀ v H', SR K F own O H' σ sk' ev → Xt F H H' → DV top K F H' O d v → Q v H'
/-- a new list -/
def tN (K : PySem.W.Frag) (F : Fm) (own : List Nat) (E : EF) : TE := fun σ H Q => ∃ O sk ev d sk', SR K F own O H σ sk ev ∧ E sk ev = some (d, sk') ∧
  ∀ a xs ds H', d = .lst ds → SR K F own (fun b => O b ∨ b = a) H' σ sk' ev → Xt F H H' → H a = none → H' a = some (.lst xs) → DFs K H' (fun b => O b ∨ b = a) ds xs → Q (.ref a) H'
def tT (K : PySem.W.Frag) (F : Fm) (own : List Nat) (E : BF) : TT := fun σ H Q => ∃ O sk ev d sk', SR K F own O H σ sk ev ∧ E sk ev = some (d, sk') ∧
  ∀ H', SR K F own O H' σ sk' ev → Xt F H H' → Q d H'
def tA (K : PySem.W.Frag) (F : Fm) (own : List Nat) (E : AF) : TA := fun σ H Q => ∃ O sk ev ds sk', SR K F own O H σ sk ev ∧ E sk ev = some (ds, sk') ∧
  ∀ vs H', SR K F own O H' σ sk' ev → Xt F H H' → DFs K H' O ds vs → Q vs H'
abbrev DE (X : Cx) (F : Fm) (own : List Nat) (top : Bool) (e : Expr) (E : EF) : Prop := PE X e (tD X.K F own top E)
abbrev DN (X : Cx) (F : Fm) (own : List Nat) (e : Expr) (E : EF) : Prop := PE X e (tN X.K F own E)
abbrev DT (X : Cx) (F : Fm) (own : List Nat) (e : Expr) (E : BF) : Prop := PT X e (tT X.K F own E)
abbrev DA (X : Cx) (F : Fm) (own : List Nat) (es : List Expr) (E : AF) : Prop := PA X es (tA X.K F own E)
theorem PE.conv {X : Cx} {e : Expr} {t t' : TE} (h : PE X e t) (c : ∀ σ H Q, t' σ H Q → t σ H Q) : PE X e t' := ⟨fun pins s σ H Q I q => h.run pins s σ H Q I (c σ H Q q)⟩
theorem PT.conv {X : Cx} {e : Expr} {t t' : TT} (h : PT X e t) (c : ∀ σ H Q, t' σ H Q → t σ H Q) : PT X e t' := ⟨fun pins s σ H Q I q => h.run pins s σ H Q I (c σ H Q q)⟩
theorem PW.conv {X : Cx} {e : Expr} {t t' : TT} (h : PW X e t) (c : ∀ σ H Q, t' σ H Q → t σ H Q) : PW X e t' := ⟨fun w pins s σ H Q I q => h.run w pins s σ H Q I (c σ H Q q)⟩
theorem PA.conv {X : Cx} {e : List Expr} {t t' : TA} (h : PA X e t) (c : ∀ σ H Q, t' σ H Q → t σ H Q) : PA X e t' := ⟨fun p pins s σ H Q I q => h.run p pins s σ H Q I (c σ H Q q)⟩
theorem PS.conv {X : Cx} {e : Stmt} {t t' : TS} (h : PS X e t) (c : ∀ D σ H, t' D σ H → t D σ H) : PS X e t' := ⟨fun pins s σ H D I q => h.run pins s σ H D I (c D σ H q)⟩
theorem PSs.conv {X : Cx} {e : List Stmt} {t t' : TS} (h : PSs X e t) (c : ∀ D σ H, t' D σ H → t D σ H) : PSs X e t' := ⟨fun pins s σ H D I q => h.run pins s σ H D I (c D σ H q)⟩
section
variable {X : Cx} {F : Fm} {own : List Nat} {top : Bool} {e : Expr} {E : EF}
/-- a clean value is a value -/
theorem DE.up (h : DE X F own false e E) : DE X F own true e E := PE.conv h fun σ H Q ⟨O, sk, ev, d, sk', S, hE, q⟩ => ⟨O, sk, ev, d, sk', S, hE, fun v H' S' x hv => q v H' S' x hv.top⟩
theorem DE.any (h : DE X F own false e E) : DE X F own top e E := PE.conv h fun σ H Q ⟨O, sk, ev, d, sk', S, hE, q⟩ => ⟨O, sk, ev, d, sk', S, hE, fun v H' S' x hv => q v H' S' x (.of hv.clean)⟩
/-- a new list is a clean value -/
theorem DN.de (h : DN X F own e E) : DE X F own false e E := PE.conv h fun σ H Q ⟨O, sk, ev, d, sk', S, hE, q⟩ => ⟨O, sk, ev, d, sk', S, hE, fun a xs ds H' hd S' x hn ha hs => by
  refine q _ H' (S'.less S hn x) x (.of ?_)
  subst hd
  exact ⟨a, xs, rfl, ⟨ha, S.ol.not_none hn⟩, DFs.mono S'.ol .refl (fun b h => .inl (.inl h)) ds xs hs⟩⟩
end
end Dn
set_option maxHeartbeats 4000000
namespace Dn
open PySem PySem.Spec PyProof.Rows L2
/-! ### a tuple times 1 is the tuple -/
theorem tuple_mul1 (l : Addr) (items : Array Value) (n : Nat) (dd : Option Addr) (sl : Array (Option Value)) (u : Tok) :
    Meets (Builtin.«tuple.__mul__» ⟨[.ref l, .int 1 u], []⟩) (fun _ R s => s.heap.get? l = some { cls := .type "tuple", dict := dd, data := .seq items n, slots := sl } ∧ R (.ok (.ret (Value.ref l))) s) :=
  .of_wp fun prog w A R s h => by
    obtain ⟨hp, g, d, tk, os⟩ := s
    obtain ⟨hl, h⟩ := h
    have f1 := AutoSeq1.idx_int
    wp_walk using wpAny_loadPart' hl
    exact ⟨_, rfl, h⟩
def rRep1 (K : PySem.W.Frag) : R2 := fun x y H Q => ∃ l xs, x = .ref l ∧ y = .int 1 ∧ SqT K H l xs ∧ Q (.ref l) H
section
variable {X : Cx}
theorem op_rep1 : OpR X (binaryOp .Mult) (rRep1 X.K) := by
  intro pins s σ H x y v u Q I rx ry h
  obtain ⟨l, xs, rfl, rfl, hT, q⟩ := h
  cases rx
  obtain ⟨t, rfl⟩ := ry
  obtain ⟨its, r, ⟨⟨cls, dd, data, sl⟩, ho, hc, n, hd⟩, hs⟩ := I.tuple hT
  simp only at hc hd
  subst hc hd
  refine wpAny_binaryOp_repeat_ref (T := "tuple") (U := "int") (by decide) ⟨_, ho, rfl⟩ (fun s' => typeIs_int s' 1 t) noFill_tuple_mul F.fills_int_mul F.slot_int_rmul repeat_tuple F.slot_int_index.lookup
    (call_meets F.slot_int_rmul (typeIs_int s 1 t) F.entry_int_rmul (F.args_int_rmul_2 _ _) (int_rmul_tuple 1 t l its.toArray n dd sl)
      ⟨ho, rfl, ⟨_, ho, rfl⟩, call_meets F.slot_tuple_mul ⟨_, ho, rfl⟩ F.entry_tuple_mul (F.args_tuple_mul_2 _ _) (tuple_mul1 l its.toArray n dd sl t) ⟨ho, ?_⟩⟩)
  exact ⟨.ref l, _, I, rfl, q⟩
end
end Dn
namespace Dn
open PySem PySem.Spec PyProof.Rows L2
/-! ### what operators do on data -/
abbrev SZ : Nat := 1000000
theorem sz_le {n : Nat} (h : n ≤ SZ) : n ≤ sizeLine := Nat.le_trans h (by rw [sizeLine_eq]; decide)
theorem sz_lt {n : Nat} (h : n < SZ) : n < sizeLine := Nat.lt_of_lt_of_le h (by rw [sizeLine_eq]; decide)
/-- sizes of ints: factors, divisors -/
def bitsN (i : Int) : Nat := if i == 0 then 0 else i.natAbs.log2 + 1
def mulOk (i j : Int) : Bool := decide (bitsN i + bitsN j ≤ 134217728)
def divOk (i j : Int) : Bool := !(j == 0) && !(Builtin.divisionGoesByPylong i j)
def addD : D → D → Option D
  | .int i, .int j => some (.int (i + j))
  | .lst a, .lst b => if a.length + b.length ≤ SZ then some (.lst (a ++ b)) else none
  | .tup a, .tup b => if a.length + b.length ≤ SZ then some (.tup (a ++ b)) else none
  | .str a, .str b => if a.length + b.length ≤ SZ then some (.str (a ++ b)) else none
  | _, _ => none
def catD : D → D → Option D
  | .lst a, .lst b => if a.length + b.length ≤ SZ then some (.lst (a ++ b)) else none
  | _, _ => none
def subD : D → D → Option D
  | .int i, .int j => some (.int (i - j))
  | _, _ => none
def mulD : D → D → Option D
  | .int i, .int j => if mulOk i j then some (.int (i * j)) else none
  | .tup a, .int k => if a.isEmpty || decide (k < 1) || decide (1000 < k) || decide (1000 < a.length) then none else some (.tup (List.replicate k.toNat a).flatten)
  | _, _ => none
def repD : D → D → Option D
  | .lst a, .int k => if decide (k ≤ 1000000) && decide (-1000000 ≤ k) && decide (a.length * k.toNat ≤ SZ) then some (.lst (List.replicate k.toNat a).flatten) else none
  | _, _ => none
def fdivD : D → D → Option D
  | .int i, .int j => if divOk i j then some (.int (i.fdiv j)) else none
  | _, _ => none
def modD : D → D → Option D
  | .int i, .int j => if j == 0 then none else some (.int (i.fmod j))
  | _, _ => none
def powD : D → D → Option D
  | .int i, .int j => if decide (0 ≤ j) && decide (j ≤ 1000000) && decide (i.natAbs < 2 ^ 64) then some (.int (i ^ j.toNat)) else none
  | _, _ => none
/-- a rule on values serves a function on data -/
def OpS (K : PySem.W.Frag) (f : D → D → Option D) (r : R2) : Prop := ∀ (F : Fm) (O : Addr → Prop) (H : Hp) (x y : V) (dx dy d : D) (Q : VK), OL O H → DV true K F H O dx x → DV true K F H O dy y → f dx dy = some d →
  (∀ v H', Ex H H' → DF K H' O d v → Q v H') → r x y H Q
/-- .. that makes a list -/
def OpN (K : PySem.W.Frag) (f : D → D → Option D) (r : R2) : Prop := ∀ (F : Fm) (O : Addr → Prop) (H : Hp) (x y : V) (dx dy d : D) (Q : VK), OL O H → DV true K F H O dx x → DV true K F H O dy y → f dx dy = some d →
  (∀ a xs ds H', d = .lst ds → Ex H H' → H a = none → H' a = some (.lst xs) → DFs K H O ds xs → Q (.ref a) H') → r x y H Q
theorem OpN.s {K : PySem.W.Frag} {f : D → D → Option D} {r : R2} (h : OpN K f r) : OpS K f r := fun F O H x y dx dy d Q ol hx hy e q =>
  h F O H x y dx dy d Q ol hx hy e fun a xs ds H' hd ex hn ha hs => q _ H' ex (by subst hd; exact ⟨a, xs, rfl, ⟨ha, ol.not_none hn⟩, hs.ex ol ex⟩)
section
variable {K : PySem.W.Frag}
theorem opN_cat : OpN K catD rCat := by
  intro F O H x y dx dy d Q ol hx hy e q
  cases dx <;> cases dy <;> try (cases e)
  rename_i as bs
  simp only [catD] at e
  split at e <;> cases e
  rename_i hz
  obtain ⟨a, xs, rfl, ha, sa⟩ := hx.lst
  obtain ⟨b, ys, rfl, hb, sb⟩ := hy.lst
  refine ⟨a, b, xs, ys, rfl, rfl, ha, hb, ?_, fun p hp => q p _ _ _ rfl (Ex.new hp) hp upd_same (sa.append sb)⟩
  rw [← sa.length, ← sb.length]; exact sz_le hz
theorem opS_add : OpS K addD (fun x y H Q => ((rI0 (fun i j => .int (i + j)) x y H Q ∨ rCat x y H Q) ∨ rCatA K x y H Q) ∨ (∃ i j, x = .str i ∧ y = .str j ∧ i.length + j.length ≤ sizeLine ∧ Q (.str (i ++ j)) H)) := by
  intro F O H x y dx dy d Q ol hx hy e q
  cases dx <;> cases dy <;> try (cases e)
  · exact .inl (.inl (.inl ⟨_, _, hx.int, hy.int, q _ H (fun _ _ h => h) rfl⟩))
  · simp only [addD] at e
    split at e <;> cases e
    rename_i hz
    exact .inr ⟨_, _, hx.str, hy.str, sz_le hz, q _ H (fun _ _ h => h) rfl⟩
  · exact .inl (.inl (.inr (opN_cat.s F O H x y _ _ d Q ol hx hy e q)))
  · simp only [addD] at e
    split at e <;> cases e
    rename_i hz
    obtain ⟨a, xs, rfl, ha, sa⟩ := hx.tup
    obtain ⟨b, ys, rfl, hb, sb⟩ := hy.tup
    refine .inl (.inr ⟨a, b, xs, ys, rfl, rfl, ha, hb, ?_, fun h => ?_, fun _ h => ?_, fun _ _ p hp => ?_⟩)
    · rw [← sa.length, ← sb.length]; exact sz_le hz
    · refine q _ H (fun _ _ h => h) ⟨b, ys, rfl, hb, ?_⟩
      subst h
      rw [List.length_eq_zero_iff.mp (show _ = 0 from sa.length)]; exact sb
    · refine q _ H (fun _ _ h => h) ⟨a, xs, rfl, ha, ?_⟩
      subst h
      rw [List.length_eq_zero_iff.mp (show _ = 0 from sb.length), List.append_nil]; exact sa
    · exact q _ _ (Ex.new hp) ⟨p, _, rfl, .inl (.inl upd_same), (sa.append sb).ex ol (Ex.new hp)⟩
theorem opS_sub : OpS K subD (rI0 fun i j => .int (i - j)) := by
  intro F O H x y dx dy d Q ol hx hy e q
  cases dx <;> cases dy <;> try (cases e)
  exact ⟨_, _, hx.int, hy.int, q _ H (fun _ _ h => h) rfl⟩
theorem opS_mul : OpS K mulD (fun x y H Q => (rI CMulX (fun i j => .int (i * j)) x y H Q ∨ rRepT K x y H Q) ∨ rRep1 K x y H Q) := by
  intro F O H x y dx dy d Q ol hx hy e q
  cases dx <;> cases dy <;> try (cases e)
  · simp only [mulD] at e
    split at e <;> cases e
    rename_i hz
    refine .inl (.inl ⟨_, _, hx.int, hy.int, ?_, q _ H (fun _ _ h => h) rfl⟩)
    have h := of_decide_eq_true hz
    unfold CMulX Builtin.Int.intBits
    unfold bitsN at h
    omega
  · simp only [mulD] at e
    split at e <;> cases e
    rename_i as k hz
    simp only [Bool.or_eq_true, decide_eq_true_eq, not_or, List.isEmpty_iff] at hz
    obtain ⟨a, xs, rfl, ha, sa⟩ := hx.tup
    have hl := sa.length
    by_cases h1 : k = 1
    · subst h1
      refine .inr ⟨a, xs, rfl, hy.int, ha, q _ H (fun _ _ h => h) ⟨a, xs, rfl, ha, ?_⟩⟩
      have e : (List.replicate (1 : Int).toNat as).flatten = as := by simp
      rw [e]
      exact sa
    refine .inl (.inr ⟨a, k, xs, rfl, hy.int, ha, fun z => hz.1.1.1 ?_, by omega, by omega, by omega, fun p hp => ?_⟩)
    · subst z
      exact List.length_eq_zero_iff.mp hl
    · exact q _ _ (Ex.new hp) ⟨p, _, rfl, .inl (.inl upd_same), (sa.rep _).ex ol (Ex.new hp)⟩
theorem opN_rep : OpN K repD rRep := by
  intro F O H x y dx dy d Q ol hx hy e q
  cases dx <;> cases dy <;> try (cases e)
  rename_i as k
  simp only [repD] at e
  split at e <;> cases e
  rename_i hz
  simp only [Bool.and_eq_true, decide_eq_true_eq] at hz
  obtain ⟨a, xs, rfl, ha, sa⟩ := hx.lst
  refine ⟨a, k, xs, rfl, hy.int, ha, by omega, by omega, ?_, fun p hp => q p _ _ _ rfl (Ex.new hp) hp upd_same (sa.rep _)⟩
  rw [← sa.length]; exact sz_le hz.2
def CDivX (i j : Int) : Prop := j ≠ 0 ∧ Builtin.divisionGoesByPylong i j = false
theorem op_fdivX {X : Cx} : OpR X (binaryOp .FloorDiv) (rI CDivX fun i j => .int (i.fdiv j)) := opI fun _ _ _ _ _ _ _ hc q => floordiv_int hc.1 q (.inl hc.2)
theorem opS_fdiv : OpS K fdivD (rI CDivX fun i j => .int (i.fdiv j)) := by
  intro F O H x y dx dy d Q ol hx hy e q
  cases dx <;> cases dy <;> try (cases e)
  rename_i i j
  simp only [fdivD] at e
  split at e <;> cases e
  rename_i hz
  simp only [divOk, Bool.and_eq_true, Bool.not_eq_true', beq_eq_false_iff_ne, ne_eq] at hz
  exact ⟨_, _, hx.int, hy.int, hz, q _ H (fun _ _ h => h) rfl⟩
theorem opS_mod : OpS K modD (rI (fun _ j => j ≠ 0) fun i j => .int (i.fmod j)) := by
  intro F O H x y dx dy d Q ol hx hy e q
  cases dx <;> cases dy <;> try (cases e)
  rename_i i j
  simp only [modD] at e
  split at e <;> cases e
  rename_i hz
  exact ⟨_, _, hx.int, hy.int, by simpa using hz, q _ H (fun _ _ h => h) rfl⟩
theorem opS_pow : OpS K powD (rI CPow fun i j => .int (i ^ j.toNat)) := by
  intro F O H x y dx dy d Q ol hx hy e q
  cases dx <;> cases dy <;> try (cases e)
  rename_i i j
  simp only [powD] at e
  split at e <;> cases e
  rename_i hz
  simp only [Bool.and_eq_true, decide_eq_true_eq] at hz
  exact ⟨_, _, hx.int, hy.int, ⟨hz.1.1, hz.1.2, hz.2⟩, q _ H (fun _ _ h => h) rfl⟩
end
end Dn
namespace Dn
open PySem PySem.Spec PyProof.Rows L2
/-! ### data as the library's data; == -/
mutual
def toP : D → PyData
  | .non => .none
  | .bl b => .bool b
  | .int i => .int i
  | .str x => .str x
  | .lst ds => .list (toPs ds)
  | .tup ds => .tuple (toPs ds)
  | .scr ds => .list (toPs ds)
  | .dct => .dict []
def toPs : List D → List PyData
  | [] => []
  | d :: ds => toP d :: toPs ds
end
/-- nested at most n deep, its texts of proper signs -/
def okN : Nat → D → Bool
  | _, .str x => PyData.strOk x
  | _, .scr _ => false
  | _, .dct => false
  | 0, .lst _ => false
  | 0, .tup _ => false
  | n + 1, .lst ds => ds.all (okN n)
  | n + 1, .tup ds => ds.all (okN n)
  | _, _ => true
mutual
def eqD : D → D → Bool
  | .non, .non => true
  | .bl a, .bl b => a == b
  | .bl a, .int j => (if a then 1 else 0) == j
  | .int i, .bl b => i == (if b then 1 else 0)
  | .int i, .int j => i == j
  | .str x, .str y => x == y
  | .lst xs, .lst ys => eqDs xs ys
  | .tup xs, .tup ys => eqDs xs ys
  | .scr xs, .lst ys => eqDs xs ys
  | .lst xs, .scr ys => eqDs xs ys
  | .scr xs, .scr ys => eqDs xs ys
  | .dct, .dct => PyData.eqv (.dict []) (.dict [])
  | _, _ => false
def eqDs : List D → List D → Bool
  | [], [] => true
  | x :: xs, y :: ys => eqD x y && eqDs xs ys
  | _, _ => false
end
mutual
theorem eqv_toP : ∀ d e : D, PyData.eqv (toP d) (toP e) = eqD d e
  | .non, e => by cases e <;> simp [toP, PyData.eqv, eqD]
  | .bl b, e => by cases e <;> simp [toP, PyData.eqv, eqD]
  | .int i, e => by cases e <;> simp [toP, PyData.eqv, eqD]
  | .str x, e => by cases e <;> simp [toP, PyData.eqv, eqD]
  | .lst ds, e => by
    cases e with
    | lst es => simp only [toP, PyData.eqv, eqD]; exact eqv_toPs ds es
    | scr es => simp only [toP, PyData.eqv, eqD]; exact eqv_toPs ds es
    | _ => simp [toP, PyData.eqv, eqD]
  | .scr ds, e => by
    cases e with
    | lst es => simp only [toP, PyData.eqv, eqD]; exact eqv_toPs ds es
    | scr es => simp only [toP, PyData.eqv, eqD]; exact eqv_toPs ds es
    | _ => simp [toP, PyData.eqv, eqD]
  | .tup ds, e => by
    cases e with
    | tup es => simp only [toP, PyData.eqv, eqD]; exact eqv_toPs ds es
    | _ => simp [toP, PyData.eqv, eqD]
  | .dct, e => by
    cases e with
    | dct => simp only [toP, eqD]
    | _ => simp [toP, PyData.eqv, eqD]
theorem eqv_toPs : ∀ ds es : List D, PyData.eqvAll (toPs ds) (toPs es) = eqDs ds es
  | [], [] => by simp [toPs, PyData.eqvAll, eqDs]
  | [], _ :: _ => by simp [toPs, PyData.eqvAll, eqDs]
  | _ :: _, [] => by simp [toPs, PyData.eqvAll, eqDs]
  | d :: ds, e :: es => by simp only [toPs, PyData.eqvAll, eqDs]; rw [eqv_toP d e, eqv_toPs ds es]
end
mutual
theorem ok_lay : ∀ (n : Nat) (d : D), okN n d = true → (toP d).canLay0 = true ∧ (toP d).depth ≤ n
  | n, .non, _ => by simp [toP, PyData.canLay0, PyData.depth]
  | n, .bl _, _ => by simp [toP, PyData.canLay0, PyData.depth]
  | n, .int _, _ => by simp [toP, PyData.canLay0, PyData.depth]
  | n, .str x, h => by
    have h' : PyData.strOk x = true := by cases n <;> simpa [okN] using h
    simp [toP, PyData.canLay0, PyData.depth, h']
  | n, .scr _, h => by cases n <;> simp [okN] at h
  | n, .dct, h => by cases n <;> simp [okN] at h
  | 0, .lst _, h => by simp [okN] at h
  | 0, .tup _, h => by simp [okN] at h
  | n + 1, .lst ds, h => by
    have q := oks_lay n ds (by simpa [okN] using h)
    simp only [toP, PyData.canLay0, PyData.depth]
    exact ⟨q.1, Nat.succ_le_succ q.2⟩
  | n + 1, .tup ds, h => by
    have q := oks_lay n ds (by simpa [okN] using h)
    simp only [toP, PyData.canLay0, PyData.depth]
    exact ⟨q.1, Nat.succ_le_succ q.2⟩
theorem oks_lay : ∀ (n : Nat) (ds : List D), (∀ d ∈ ds, okN n d = true) → PyData.canLayAll0 (toPs ds) = true ∧ PyData.depthAll (toPs ds) ≤ n
  | n, [], _ => by simp [toPs, PyData.canLayAll0, PyData.depthAll]
  | n, d :: ds, h => by
    have q1 := ok_lay n d (h d (by simp))
    have q2 := oks_lay n ds fun e he => h e (by simp [he])
    simp only [toPs, PyData.canLayAll0, PyData.depthAll, q1.1, q2.1]
    exact ⟨rfl, Nat.max_le.mpr ⟨q1.2, q2.2⟩⟩
end
theorem shaped_ok {d : D} (h : okN 20 d = true) : SeqAt.shaped (toP d) = true := by
  obtain ⟨h1, h2⟩ := ok_lay 20 d h
  unfold SeqAt.shaped
  rw [h1, Bool.true_and]
  exact decide_eq_true (by omega)
section
variable {K : PySem.W.Frag} {H : Hp} {O : Addr → Prop} {F : Fm} {top : Bool}
mutual
theorem DF.dp : ∀ (d : D) (v : V), DF K H O d v → (toP d).hasDict = false → Dp K H v (toP d)
  | .non, v, h, _ => by rw [show v = .non from h]; unfold toP; exact .non
  | .bl b, v, h, _ => by rw [show v = .bl b from h]; unfold toP; exact .bl b
  | .int i, v, h, _ => by rw [show v = .int i from h]; unfold toP; exact .int i
  | .str x, v, h, _ => by rw [show v = .str x from h]; unfold toP; exact .str x
  | .lst ds, v, h, n => by
    obtain ⟨a, xs, e, q, r⟩ := h
    rw [e]; unfold toP
    exact .lst (.inl (.inl q.1)) (DFs.dp ds xs r (by simpa [toP, PyData.hasDict] using n))
  | .tup ds, v, h, n => by
    obtain ⟨a, xs, e, q, r⟩ := h
    rw [e]; unfold toP
    exact .tup q (DFs.dp ds xs r (by simpa [toP, PyData.hasDict] using n))
  | .scr ds, v, h, n => by
    obtain ⟨a, xs, e, q, r⟩ := h
    rw [e]; unfold toP
    exact .lst q.sq (DFs.dp ds xs r (by simpa [toP, PyData.hasDict] using n))
  | .dct, v, h, n => by simp [toP, PyData.hasDict] at n
theorem DFs.dp : ∀ (ds : List D) (xs : List V), DFs K H O ds xs → PyData.hasDictAll (toPs ds) = false → DpAll K H xs (toPs ds)
  | [], xs, h, _ => by rw [show xs = [] from h]; unfold toPs; exact .nil
  | d :: ds, xs, h, n => by
    obtain ⟨x, r, e, q, s⟩ := h
    simp only [toPs, PyData.hasDictAll, Bool.or_eq_false_iff] at n
    rw [e]; unfold toPs
    exact .cons (DF.dp d x q n.1) (DFs.dp ds r s n.2)
end
mutual
theorem ok_nd : ∀ (n : Nat) (d : D), okN n d = true → (toP d).hasDict = false
  | n, .non, _ => by simp [toP, PyData.hasDict]
  | n, .bl _, _ => by simp [toP, PyData.hasDict]
  | n, .int _, _ => by simp [toP, PyData.hasDict]
  | n, .str x, h => by simp [toP, PyData.hasDict]
  | n, .scr _, h => by cases n <;> simp [okN] at h
  | n, .dct, h => by cases n <;> simp [okN] at h
  | 0, .lst _, h => by simp [okN] at h
  | 0, .tup _, h => by simp [okN] at h
  | n + 1, .lst ds, h => by
    have q := oks_nd n ds (by simpa [okN] using h)
    simpa only [toP, PyData.hasDict] using q
  | n + 1, .tup ds, h => by
    have q := oks_nd n ds (by simpa [okN] using h)
    simpa only [toP, PyData.hasDict] using q
theorem oks_nd : ∀ (n : Nat) (ds : List D), (∀ d ∈ ds, okN n d = true) → PyData.hasDictAll (toPs ds) = false
  | n, [], _ => by simp [toPs, PyData.hasDictAll]
  | n, d :: ds, h => by
    have q1 := ok_nd n d (h d (by simp))
    have q2 := oks_nd n ds fun e he => h e (by simp [he])
    simp only [toPs, PyData.hasDictAll, q1, q2, Bool.or_self]
end
theorem DV.dp {d : D} {v : V} (h : DV top K F H O d v) (n : (toP d).hasDict = false) : Dp K H v (toP d) := by
  rcases h with h | ⟨_, a, xs, ds, rfl, rfl, _, h4, h5⟩
  · exact DF.dp d v h n
  · unfold toP
    exact .lst (.inl (.inl h4)) (DFs.dp ds xs h5 (by simpa [toP, PyData.hasDict] using n))
end
def eqQ : D → D → Option D := fun d e => if okN 20 d && okN 20 e then some (.bl (eqD d e)) else none
def neQ : D → D → Option D := fun d e => if okN 20 d && okN 20 e then some (.bl (!eqD d e)) else none
section
variable {K : PySem.W.Frag}
theorem opS_eq : OpS K eqQ (rEqD K) := by
  intro F O H x y dx dy d Q ol hx hy e q
  unfold eqQ at e
  split at e <;> cases e
  rename_i hz
  rw [Bool.and_eq_true] at hz
  refine ⟨_, _, hx.dp (ok_nd 20 _ hz.1), hy.dp (ok_nd 20 _ hz.2), shaped_ok hz.1, shaped_ok hz.2, ?_⟩
  rw [eqv_toP]
  exact q _ H (fun _ _ h => h) rfl
theorem opS_ne : OpS K neQ (rNeD K) := by
  intro F O H x y dx dy d Q ol hx hy e q
  unfold neQ at e
  split at e <;> cases e
  rename_i hz
  rw [Bool.and_eq_true] at hz
  refine ⟨_, _, hx.dp (ok_nd 20 _ hz.1), hy.dp (ok_nd 20 _ hz.2), shaped_ok hz.1, shaped_ok hz.2, ?_⟩
  rw [eqv_toP]
  exact q _ H (fun _ _ h => h) rfl
def cmpQ (p : Int → Int → Bool) : D → D → Option D
  | .int i, .int j => some (.bl (p i j))
  | _, _ => none
theorem opS_cmp {p : Int → Int → Bool} : OpS K (cmpQ p) (rI0 fun i j => .bl (p i j)) := by
  intro F O H x y dx dy d Q ol hx hy e q
  cases dx <;> cases dy <;> try (cases e)
  exact ⟨_, _, hx.int, hy.int, q _ H (fun _ _ h => h) rfl⟩
/-- is None, is not None -/
def isNQ : D → D → Option D
  | .non, .non => some (.bl true)
  | _, .non => some (.bl false)
  | _, _ => none
def ntNQ : D → D → Option D
  | .non, .non => some (.bl false)
  | _, .non => some (.bl true)
  | _, _ => none
def isND : D → Bool
  | .non => true
  | _ => false
theorem DV.isnon {F : Fm} {top : Bool} {H : Hp} {O : Addr → Prop} {d : D} {v : V} (h : DV top K F H O d v) : decide (v = .non) = isND d := by
  cases d with
  | non => rw [h.non]; rfl
  | bl b => rw [h.bl]; rfl
  | int b => rw [h.int]; rfl
  | str b => rw [h.str]; rfl
  | lst b => obtain ⟨a, xs, rfl, _⟩ := h.lst; rfl
  | scr b => obtain ⟨a, xs, rfl, _⟩ := h.scr; rfl
  | tup b => obtain ⟨a, xs, rfl, _⟩ := h.tup; rfl
  | dct => obtain ⟨a, rfl, _⟩ := h.dct; rfl
theorem opS_isN : OpS K isNQ (fun x y H Q => y = .non ∧ Q (.bl (decide (x = .non))) H) := by
  intro F O H x y dx dy d Q ol hx hy e q
  have h := hx.isnon
  refine ⟨?_, ?_⟩
  · cases dy with
    | non => exact hy.non
    | _ => cases dx <;> cases e
  · rw [h]
    refine q _ H (fun _ _ h => h) ?_
    cases dy <;> cases dx <;> cases e <;> rfl
theorem opS_ntN : OpS K ntNQ (fun x y H Q => y = .non ∧ Q (.bl (!decide (x = .non))) H) := by
  intro F O H x y dx dy d Q ol hx hy e q
  have h := hx.isnon
  refine ⟨?_, ?_⟩
  · cases dy with
    | non => exact hy.non
    | _ => cases dx <;> cases e
  · rw [h]
    refine q _ H (fun _ _ h => h) ?_
    cases dy <;> cases dx <;> cases e <;> rfl
/-! ### subscripts -/
def ixQ : D → D → Option D
  | .lst ds, .int i => atI ds i
  | .tup ds, .int i => atI ds i
  | .scr ds, .int i => atI ds i
  | _, _ => none
theorem DFs.atI {H : Hp} {O : Addr → Prop} {ds : List D} {xs : List V} {i : Int} {d : D} (h : DFs K H O ds xs) (e : L2.atI ds i = some d) : ∃ x, L2.atI xs i = some x ∧ DF K H O d x := by
  unfold L2.atI at e ⊢
  rw [← h.length]
  cases q : ixN ds.length i with
  | none => rw [q] at e; cases e
  | some j =>
    rw [q] at e
    exact h.get (show ds[j]? = some d from e)
theorem opS_ix : OpS K ixQ (rIx K) := by
  intro F O H x y dx dy d Q ol hx hy e q
  cases dx <;> cases dy <;> try (cases e)
  · obtain ⟨a, xs, rfl, ha, sa⟩ := hx.lst
    obtain ⟨v, hv, dv⟩ := sa.atI e
    exact .inl ⟨a, xs, _, v, rfl, hy.int, .inl (.inl ha), hv, q v H (fun _ _ h => h) dv⟩
  · obtain ⟨a, xs, rfl, ha, sa⟩ := hx.tup
    obtain ⟨v, hv, dv⟩ := sa.atI e
    exact .inr (.inl ⟨a, xs, _, v, rfl, hy.int, ha, hv, q v H (fun _ _ h => h) dv⟩)
  · obtain ⟨a, xs, rfl, ha, sa⟩ := hx.scr
    obtain ⟨v, hv, dv⟩ := sa.atI e
    exact .inl ⟨a, xs, _, v, rfl, hy.int, ha.sq, hv, q v H (fun _ _ h => h) dv⟩
end
end Dn
namespace Dn
open PySem PySem.Spec PyProof.Rows L2
/-! ### denotations of expressions -/
def varE (i : Nat) : EF := fun sk ev => match ev[i]? with
  | some (some d) => some (d, sk)
  | _ => none
def cE (d : D) : EF := fun sk _ => some (d, sk)
def binE (f : D → D → Option D) (a b : EF) : EF := fun sk ev => match a sk ev with
  | none => none
  | some (x, s1) => match b s1 ev with
    | none => none
    | some (y, s2) => match f x y with
      | none => none
      | some d => some (d, s2)
def unE (f : D → Option D) (a : EF) : EF := fun sk ev => match a sk ev with
  | none => none
  | some (x, s1) => match f x with
    | none => none
    | some d => some (d, s1)
def negQ : D → Option D
  | .int i => some (.int (-i))
  | _ => none
def notQ : D → Option D
  | .bl b => some (.bl (!b))
  | _ => none
def andE (a b : EF) : EF := fun sk ev => match a sk ev with
  | some (.bl true, s1) => b s1 ev
  | some (.bl false, s1) => some (.bl false, s1)
  | _ => none
def orE (a b : EF) : EF := fun sk ev => match a sk ev with
  | some (.bl true, s1) => some (.bl true, s1)
  | some (.bl false, s1) => b s1 ev
  | _ => none
def ifE (c : BF) (a b : EF) : EF := fun sk ev => match c sk ev with
  | some (true, s1) => a s1 ev
  | some (false, s1) => b s1 ev
  | none => none
def tstB (a : EF) : BF := fun sk ev => match a sk ev with
  | some (.bl b, s1) => some (b, s1)
  | _ => none
def andB (a b : BF) : BF := fun sk ev => match a sk ev with
  | some (true, s1) => b s1 ev
  | some (false, s1) => some (false, s1)
  | none => none
def orB (a b : BF) : BF := fun sk ev => match a sk ev with
  | some (true, s1) => some (true, s1)
  | some (false, s1) => b s1 ev
  | none => none
def notB (a : BF) : BF := fun sk ev => match a sk ev with
  | some (b, s1) => some (!b, s1)
  | none => none
def nilA : AF := fun sk _ => some ([], sk)
def consA (a : EF) (as : AF) : AF := fun sk ev => match a sk ev with
  | none => none
  | some (x, s1) => match as s1 ev with
    | none => none
    | some (xs, s2) => some (x :: xs, s2)
def tupE (as : AF) : EF := fun sk ev => match as sk ev with
  | some (xs, s1) => if xs.length ≤ SZ then some (.tup xs, s1) else none
  | none => none
def lstE (as : AF) : EF := fun sk ev => match as sk ev with
  | some (xs, s1) => if xs.length ≤ SZ then some (.lst xs, s1) else none
  | none => none
def chE (f g : D → D → Option D) (a b c : EF) : EF := fun sk ev => match a sk ev with
  | none => none
  | some (x, s1) => match b s1 ev with
    | none => none
    | some (y, s2) => match f x y with
      | some (.bl true) => (match c s2 ev with
        | none => none
        | some (z, s3) => match g y z with
          | none => none
          | some d => some (d, s3))
      | some (.bl false) => some (.bl false, s2)
      | _ => none
section
variable {X : Cx} {F : Fm} {own : List Nat} {top : Bool} {a b c : Expr} {Ea Eb Ec : EF} {Ba Bb Bc : BF} {pos : Pos}
/-- what is not there was not there -/
theorem SR.before {K : PySem.W.Frag} {O : Addr → Prop} {H H' : Hp} {σ : L2.St} {sk : D} {ev : VE} (S : SR K F own O H' σ sk ev) (x : Xt F H H') {p : Addr} (hn : H' p = none) : H p = none := by
  cases z : H p with
  | none => rfl
  | some o =>
    by_cases w : F.io = some p
    · exact absurd (S.io_O w) (S.ol.not_none hn)
    · rw [x p o w z] at hn; cases hn
theorem de_var {i : Nat} (h : PE X a (tVar i)) (hi : own.contains i = false) : DE X F own false a (varE i) := PE.conv h fun σ H Q ⟨O, sk, ev, d, sk', S, e, q⟩ => by
  unfold varE at e
  split at e <;> cases e
  rename_i hd
  obtain ⟨v, hv, dv⟩ := S.val i d hd (fun z => by rw [List.contains_iff_mem.mpr z] at hi; cases hi)
  exact ⟨v, hv, q v H S .refl (.of dv)⟩
/-- an owned name -/
theorem de_varO {i : Nat} (h : PE X a (tVar i)) (hi : own.contains i = true) : DE X F own true a (varE i) := PE.conv h fun σ H Q ⟨O, sk, ev, d, sk', S, e, q⟩ => by
  unfold varE at e
  split at e <;> cases e
  rename_i hd
  obtain ⟨p, xs, ds, rfl, hv, hp, ho, h0, hs⟩ := S.ownd i d hd (List.contains_iff_mem.mp hi)
  refine ⟨_, hv, q _ H S .refl (.inr ⟨rfl, p, xs, ds, rfl, rfl, fun z => ?_, hp, hs⟩)⟩
  obtain ⟨ys, z2⟩ := S.ol0 p (S.sack p z).1
  rw [h0] at z2; cases z2
theorem de_c {v : V} {d : D} (h : PE X a (tC v)) (hd : ∀ (H : Hp) (O : Addr → Prop), DF X.K H O d v) : DE X F own false a (cE d) := PE.conv h fun σ H Q ⟨O, sk, ev, d', sk', S, e, q⟩ => by
  cases e
  exact q v H S .refl (.of (hd H O))
theorem de_int {i : Int} {j : Nat} : DE X F own false (.Constant (.int i) j pos) (cE (.int i)) := de_c pe_int fun _ _ => rfl
theorem de_bl {i : Bool} {j : Nat} : DE X F own false (.Constant (.bool i) j pos) (cE (.bl i)) := de_c pe_bl fun _ _ => rfl
theorem de_non {j : Nat} : DE X F own false (.Constant .none j pos) (cE .non) := de_c pe_non fun _ _ => rfl
theorem de_str {i : Str} {j : Nat} : DE X F own false (.Constant (.str i) j pos) (cE (.str i)) := de_c pe_str fun _ _ => rfl
/-- two operands, a rule on values -/
theorem op_conv {r : R2} {f : D → D → Option D} (hs : OpS X.K f r) : ∀ σ H Q, tD X.K F own false (binE f Ea Eb) σ H Q → tOp r (tD X.K F own true Ea) (tD X.K F own true Eb) σ H Q := fun σ H Q ⟨O, sk, ev, d, sk', S, e, q⟩ => by
  unfold binE at e
  split at e
  · cases e
  rename_i x s1 e1
  split at e
  · cases e
  rename_i y s2 e2
  split at e <;> cases e
  rename_i e3
  refine ⟨O, sk, ev, x, s1, S, e1, fun v1 H1 S1 x1 d1 => ⟨O, s1, ev, y, _, S1, e2, fun v2 H2 S2 x2 d2 => ?_⟩⟩
  refine hs F O H2 v1 v2 x y d Q S2.ol (d1.xt S1.ol (S1.kp x2) x2) d2 e3 fun v H' ex dv => ?_
  exact q v H' (S2.ex ex) ((x1.trans x2).trans ex.xt) (.of dv)
theorem op_convN {r : R2} {f : D → D → Option D} (hs : OpN X.K f r) : ∀ σ H Q, tN X.K F own (binE f Ea Eb) σ H Q → tOp r (tD X.K F own true Ea) (tD X.K F own true Eb) σ H Q := fun σ H Q ⟨O, sk, ev, d, sk', S, e, q⟩ => by
  unfold binE at e
  split at e
  · cases e
  rename_i x s1 e1
  split at e
  · cases e
  rename_i y s2 e2
  split at e <;> cases e
  rename_i e3
  refine ⟨O, sk, ev, x, s1, S, e1, fun v1 H1 S1 x1 d1 => ⟨O, s1, ev, y, _, S1, e2, fun v2 H2 S2 x2 d2 => ?_⟩⟩
  refine hs F O H2 v1 v2 x y d Q S2.ol (d1.xt S1.ol (S1.kp x2) x2) d2 e3 fun p xs ds H' hd ex hn hp dv => ?_
  have ow : Ow O H2 (fun b => O b ∨ b = p) := fun b z => z.elim .inl fun w => .inr (by rw [w]; exact hn)
  refine q p xs ds H' hd (S2.grow ex hn hp) ((x1.trans x2).trans ex.xt) (S2.before (x1.trans x2) hn) hp (DFs.mono S2.ol ex.kp ow ds xs dv)
theorem de_bin {op : Operator} {r : R2} {f : D → D → Option D} (ho : OpR X (binaryOp op) r) (hs : OpS X.K f r) (ha : DE X F own true a Ea) (hb : DE X F own true b Eb) : DE X F own false (.BinOp a op b pos) (binE f Ea Eb) :=
  PE.conv (pe_op ho ha hb) (op_conv hs)
theorem dn_bin {op : Operator} {r : R2} {f : D → D → Option D} (ho : OpR X (binaryOp op) r) (hs : OpN X.K f r) (ha : DE X F own true a Ea) (hb : DE X F own true b Eb) : DN X F own (.BinOp a op b pos) (binE f Ea Eb) :=
  PE.conv (pe_op ho ha hb) (op_convN hs)
theorem op_addA : OpR X (binaryOp .Add) (fun x y H Q => ((rI0 (fun i j => .int (i + j)) x y H Q ∨ rCat x y H Q) ∨ rCatA X.K x y H Q) ∨ (∃ i j, x = .str i ∧ y = .str j ∧ i.length + j.length ≤ sizeLine ∧ Q (.str (i ++ j)) H)) :=
  ((op_add.or op_cat).or op_catA).or op_add_str
theorem op_mulA : OpR X (binaryOp .Mult) (fun x y H Q => (rI CMulX (fun i j => .int (i * j)) x y H Q ∨ rRepT X.K x y H Q) ∨ rRep1 X.K x y H Q) := (op_mulX.or op_repT).or op_rep1
theorem de_add (ha : DE X F own true a Ea) (hb : DE X F own true b Eb) : DE X F own false (.BinOp a .Add b pos) (binE addD Ea Eb) := de_bin op_addA opS_add ha hb
theorem dn_cat (ha : DE X F own true a Ea) (hb : DE X F own true b Eb) : DN X F own (.BinOp a .Add b pos) (binE catD Ea Eb) := dn_bin op_cat opN_cat ha hb
theorem de_sub (ha : DE X F own true a Ea) (hb : DE X F own true b Eb) : DE X F own false (.BinOp a .Sub b pos) (binE subD Ea Eb) := de_bin op_sub opS_sub ha hb
theorem de_mul (ha : DE X F own true a Ea) (hb : DE X F own true b Eb) : DE X F own false (.BinOp a .Mult b pos) (binE mulD Ea Eb) := de_bin op_mulA opS_mul ha hb
theorem dn_rep (ha : DE X F own true a Ea) (hb : DE X F own true b Eb) : DN X F own (.BinOp a .Mult b pos) (binE repD Ea Eb) := dn_bin op_rep opN_rep ha hb
theorem de_fdiv (ha : DE X F own true a Ea) (hb : DE X F own true b Eb) : DE X F own false (.BinOp a .FloorDiv b pos) (binE fdivD Ea Eb) := de_bin op_fdivX opS_fdiv ha hb
theorem de_mod (ha : DE X F own true a Ea) (hb : DE X F own true b Eb) : DE X F own false (.BinOp a .Mod b pos) (binE modD Ea Eb) := de_bin op_modN opS_mod ha hb
theorem de_pow (ha : DE X F own true a Ea) (hb : DE X F own true b Eb) : DE X F own false (.BinOp a .Pow b pos) (binE powD Ea Eb) := de_bin op_pow opS_pow ha hb
/-! ### comparisons, tests -/
theorem de_cmpR {op : CmpOp} {r : R2} {f : D → D → Option D} (ho : OpR X (compareOp op) r) (hs : OpS X.K f r) (ha : DE X F own true a Ea) (hb : DE X F own true b Eb) (hm : behindInMarks op b = false) : DE X F own false (.Compare a [op] [b] pos) (binE f Ea Eb) :=
  PE.conv (pe_cmpR ho ha hb hm) (op_conv hs)
theorem tst_conv {t : TE} {E : EF} (h : ∀ σ H Q, tD X.K F own false E σ H Q → t σ H Q) : ∀ σ H Q, tT X.K F own (tstB E) σ H Q → tTest t σ H Q := fun σ H Q ⟨O, sk, ev, k, sk', S, e, q⟩ => by
  unfold tstB at e
  split at e <;> cases e
  rename_i e1
  exact h σ H _ ⟨O, sk, ev, _, _, S, e1, fun v H' S' x dv => ⟨k, dv.bl, q H' S' x⟩⟩
theorem dt_cmpR {op : CmpOp} {r : R2} {f : D → D → Option D} (ho : OpR X (compareOp op) r) (hs : OpS X.K f r) (ha : DE X F own true a Ea) (hb : DE X F own true b Eb) (hm : behindInMarks op b = false) : DT X F own (.Compare a [op] [b] pos) (tstB (binE f Ea Eb)) :=
  PT.conv (pt_cmpR ho ha hb hm) (tst_conv (op_conv hs))
/-- a bool's expression as a test: he by intro _; rfl -/
theorem dt_val {E : EF} (h : DE X F own false a E) (he : ∀ whole, isTrue a X.env whole = (do let v ← whole; standAt a.pos; holding [v] (truthy v)) := by intro _; rfl) : DT X F own a (tstB E) :=
  PT.conv (pt_val h he) (tst_conv fun _ _ _ z => z)
def ltP (i j : Int) : Bool := decide (i < j)
def leP (i j : Int) : Bool := decide (i ≤ j)
def gtP (i j : Int) : Bool := decide (j < i)
def geP (i j : Int) : Bool := decide (j ≤ i)
theorem de_lt (ha : DE X F own true a Ea) (hb : DE X F own true b Eb) : DE X F own false (.Compare a [.Lt] [b] pos) (binE (cmpQ ltP) Ea Eb) := de_cmpR op_lt opS_cmp ha hb (nomark _)
theorem de_le (ha : DE X F own true a Ea) (hb : DE X F own true b Eb) : DE X F own false (.Compare a [.LtE] [b] pos) (binE (cmpQ leP) Ea Eb) := de_cmpR op_le opS_cmp ha hb (nomark _)
theorem de_gt (ha : DE X F own true a Ea) (hb : DE X F own true b Eb) : DE X F own false (.Compare a [.Gt] [b] pos) (binE (cmpQ gtP) Ea Eb) := de_cmpR op_gt opS_cmp ha hb (nomark _)
theorem de_ge (ha : DE X F own true a Ea) (hb : DE X F own true b Eb) : DE X F own false (.Compare a [.GtE] [b] pos) (binE (cmpQ geP) Ea Eb) := de_cmpR op_ge opS_cmp ha hb (nomark _)
theorem dt_lt (ha : DE X F own true a Ea) (hb : DE X F own true b Eb) : DT X F own (.Compare a [.Lt] [b] pos) (tstB (binE (cmpQ ltP) Ea Eb)) := dt_cmpR op_lt opS_cmp ha hb (nomark _)
theorem dt_le (ha : DE X F own true a Ea) (hb : DE X F own true b Eb) : DT X F own (.Compare a [.LtE] [b] pos) (tstB (binE (cmpQ leP) Ea Eb)) := dt_cmpR op_le opS_cmp ha hb (nomark _)
theorem dt_gt (ha : DE X F own true a Ea) (hb : DE X F own true b Eb) : DT X F own (.Compare a [.Gt] [b] pos) (tstB (binE (cmpQ gtP) Ea Eb)) := dt_cmpR op_gt opS_cmp ha hb (nomark _)
theorem dt_ge (ha : DE X F own true a Ea) (hb : DE X F own true b Eb) : DT X F own (.Compare a [.GtE] [b] pos) (tstB (binE (cmpQ geP) Ea Eb)) := dt_cmpR op_ge opS_cmp ha hb (nomark _)
theorem de_eq (hu : X.A.units + 64 < cLine) (ha : DE X F own true a Ea) (hb : DE X F own true b Eb) : DE X F own false (.Compare a [.Eq] [b] pos) (binE eqQ Ea Eb) := de_cmpR (op_eqD hu) opS_eq ha hb (nomark _)
theorem de_ne (hu : X.A.units + 64 < cLine) (ha : DE X F own true a Ea) (hb : DE X F own true b Eb) : DE X F own false (.Compare a [.NotEq] [b] pos) (binE neQ Ea Eb) := de_cmpR (op_neD hu) opS_ne ha hb (nomark _)
theorem dt_eq (hu : X.A.units + 64 < cLine) (ha : DE X F own true a Ea) (hb : DE X F own true b Eb) : DT X F own (.Compare a [.Eq] [b] pos) (tstB (binE eqQ Ea Eb)) := dt_cmpR (op_eqD hu) opS_eq ha hb (nomark _)
theorem dt_ne (hu : X.A.units + 64 < cLine) (ha : DE X F own true a Ea) (hb : DE X F own true b Eb) : DT X F own (.Compare a [.NotEq] [b] pos) (tstB (binE neQ Ea Eb)) := dt_cmpR (op_neD hu) opS_ne ha hb (nomark _)
theorem de_isN (ha : DE X F own true a Ea) (hb : DE X F own true b Eb) : DE X F own false (.Compare a [.Is] [b] pos) (binE isNQ Ea Eb) := de_cmpR op_isN opS_isN ha hb (nomark _)
theorem dt_isN (ha : DE X F own true a Ea) (hb : DE X F own true b Eb) : DT X F own (.Compare a [.Is] [b] pos) (tstB (binE isNQ Ea Eb)) := dt_cmpR op_isN opS_isN ha hb (nomark _)
theorem de_ntN (ha : DE X F own true a Ea) (hb : DE X F own true b Eb) : DE X F own false (.Compare a [.IsNot] [b] pos) (binE ntNQ Ea Eb) := de_cmpR op_notN opS_ntN ha hb (nomark _)
theorem dt_ntN (ha : DE X F own true a Ea) (hb : DE X F own true b Eb) : DT X F own (.Compare a [.IsNot] [b] pos) (tstB (binE ntNQ Ea Eb)) := dt_cmpR op_notN opS_ntN ha hb (nomark _)
/-- a op1 b op2 c of ints -/
theorem ch_conv {r r' : R2} {f g : D → D → Option D} (hs : OpS X.K f r) (hs' : OpS X.K g r') : ∀ σ H Q, tD X.K F own false (chE f g Ea Eb Ec) σ H Q →
    tChain r r' (tD X.K F own true Ea) (tD X.K F own true Eb) (tD X.K F own true Ec) σ H Q := fun σ H Q ⟨O, sk, ev, d, sk', S, e, q⟩ => by
  unfold chE at e
  split at e
  · cases e
  rename_i x s1 e1
  split at e
  · cases e
  rename_i y s2 e2
  refine ⟨O, sk, ev, x, s1, S, e1, fun v1 H1 S1 x1 d1 => ⟨O, s1, ev, y, s2, S1, e2, fun v2 H2 S2 x2 d2 => ?_⟩⟩
  have d1' := d1.xt S1.ol (S1.kp x2) x2
  split at e
  · rename_i e3
    split at e
    · cases e
    rename_i z s3 e4
    split at e <;> cases e
    rename_i e5
    refine hs F O H2 v1 v2 x y _ _ S2.ol d1' d2 e3 fun v H' ex dv => ⟨true, dv, ?_⟩
    refine iteT ⟨O, s2, ev, z, _, S2.ex ex, e4, fun v3 H3 S3 x3 d3 => hs' F O H3 v2 v3 y z _ _ S3.ol ((d2.xt S2.ol (S2.kp ex.xt) ex.xt).xt (S2.ex ex).ol ((S2.ex ex).kp x3) x3) d3 e5 fun v4 H4 ex4 dv4 => ?_⟩
    exact q v4 H4 (S3.ex ex4) ((((x1.trans x2).trans ex.xt).trans x3).trans ex4.xt) (.of dv4)
  · rename_i e3
    cases e
    refine hs F O H2 v1 v2 x y _ _ S2.ol d1' d2 e3 fun v H' ex dv => ⟨false, dv, ?_⟩
    refine iteF ?_
    exact q _ H' (S2.ex ex) ((x1.trans x2).trans ex.xt) (.of rfl)
  · cases e
theorem de_ch {op op' : CmpOp} {r r' : R2} {f g : D → D → Option D} (ho : OpR X (compareOp op) r) (hs : OpS X.K f r) (ho' : OpR X (compareOp op') r') (hs' : OpS X.K g r') (ha : DE X F own true a Ea) (hb : DE X F own true b Eb) (hc : DE X F own true c Ec)
    (hm : lastMarks [op, op'] [b, c] = false := by with_unfolding_all rfl) : DE X F own false (.Compare a [op, op'] [b, c] pos) (chE f g Ea Eb Ec) := PE.conv (pe_chain ho ho' ha hb hc hm) (ch_conv hs hs')
theorem dt_ch {op op' : CmpOp} {r r' : R2} {f g : D → D → Option D} (ho : OpR X (compareOp op) r) (hs : OpS X.K f r) (ho' : OpR X (compareOp op') r') (hs' : OpS X.K g r') (ha : DE X F own true a Ea) (hb : DE X F own true b Eb) (hc : DE X F own true c Ec)
    (hm : lastMarks [op, op'] [b, c] = false := by with_unfolding_all rfl) : DT X F own (.Compare a [op, op'] [b, c] pos) (tstB (chE f g Ea Eb Ec)) := PT.conv (pt_chain ho ho' ha hb hc hm) (tst_conv (ch_conv hs hs'))
/-! ### one operand, and, or, if -/
theorem de_neg (ha : DE X F own true a Ea) : DE X F own false (.UnaryOp .USub a pos) (unE negQ Ea) := PE.conv (pe_un un_neg ha) fun σ H Q ⟨O, sk, ev, d, sk', S, e, q⟩ => by
  unfold unE at e
  split at e
  · cases e
  rename_i x s1 e1
  split at e <;> cases e
  rename_i e2
  refine ⟨O, sk, ev, x, _, S, e1, fun v H' S' x' dv => ?_⟩
  cases x <;> cases e2
  exact ⟨_, dv.int, q _ H' S' x' (.of rfl)⟩
theorem de_not (ha : DE X F own true a Ea) : DE X F own false (.UnaryOp .Not a pos) (unE notQ Ea) := PE.conv (pe_not ha) fun σ H Q ⟨O, sk, ev, d, sk', S, e, q⟩ => by
  unfold unE at e
  split at e
  · cases e
  rename_i x s1 e1
  split at e <;> cases e
  rename_i e2
  refine ⟨O, sk, ev, x, _, S, e1, fun v H' S' x' dv => ?_⟩
  cases x <;> cases e2
  exact ⟨_, dv.bl, q _ H' S' x' (.of rfl)⟩
theorem dt_not (ha : DT X F own a Ba) : DT X F own (.UnaryOp .Not a pos) (notB Ba) := PT.conv (pt_not ha) fun σ H Q ⟨O, sk, ev, d, sk', S, e, q⟩ => by
  unfold notB at e
  split at e <;> cases e
  rename_i e1
  exact ⟨O, sk, ev, _, _, S, e1, fun H' S' x' => q H' S' x'⟩
theorem de_one {op} (h : DE X F own top a Ea) : DE X F own top (.BoolOp op [a] pos) Ea := pe_one h
variable {rest : List Expr}
theorem de_and (ha : DE X F own true a Ea) (hb : DE X F own top (.BoolOp .And (b :: rest) pos) Eb) : DE X F own top (.BoolOp .And (a :: b :: rest) pos) (andE Ea Eb) := PE.conv (pe_and ha hb) fun σ H Q ⟨O, sk, ev, d, sk', S, e, q⟩ => by
  unfold andE at e
  split at e
  · rename_i s1 e1
    exact ⟨O, sk, ev, _, s1, S, e1, fun v H' S' x' dv => ⟨true, dv.bl, iteT (⟨O, s1, ev, d, sk', S', e, fun v2 H2 S2 x2 d2 => q v2 H2 S2 (x'.trans x2) d2⟩)⟩⟩
  · rename_i s1 e1
    cases e
    exact ⟨O, sk, ev, _, _, S, e1, fun v H' S' x' dv => ⟨false, dv.bl, iteF (q _ H' S' x' (.of rfl))⟩⟩
  · cases e
theorem de_or (ha : DE X F own true a Ea) (hb : DE X F own top (.BoolOp .Or (b :: rest) pos) Eb) : DE X F own top (.BoolOp .Or (a :: b :: rest) pos) (orE Ea Eb) := PE.conv (pe_or ha hb) fun σ H Q ⟨O, sk, ev, d, sk', S, e, q⟩ => by
  unfold orE at e
  split at e
  · rename_i s1 e1
    cases e
    exact ⟨O, sk, ev, _, _, S, e1, fun v H' S' x' dv => ⟨true, dv.bl, iteT (q _ H' S' x' (.of rfl))⟩⟩
  · rename_i s1 e1
    exact ⟨O, sk, ev, _, s1, S, e1, fun v H' S' x' dv => ⟨false, dv.bl, iteF (⟨O, s1, ev, d, sk', S', e, fun v2 H2 S2 x2 d2 => q v2 H2 S2 (x'.trans x2) d2⟩)⟩⟩
  · cases e
/-- .. as tests -/
abbrev DW (X : Cx) (F : Fm) (own : List Nat) (e : Expr) (E : BF) : Prop := PW X e (tT X.K F own E)
theorem dw_and1 (ha : DT X F own a Ba) : DW X F own (.BoolOp .And [a] pos) Ba := pw_and1 ha
theorem dw_or1 (ha : DT X F own a Ba) : DW X F own (.BoolOp .Or [a] pos) Ba := pw_or1 ha
theorem dw_and (ha : DT X F own a Ba) (hb : DW X F own (.BoolOp .And (b :: rest) pos) Bb) : DW X F own (.BoolOp .And (a :: b :: rest) pos) (andB Ba Bb) := PW.conv (pw_and ha hb) fun σ H Q ⟨O, sk, ev, d, sk', S, e, q⟩ => by
  unfold andB at e
  split at e
  · rename_i s1 e1
    exact ⟨O, sk, ev, _, s1, S, e1, fun H' S' x' => iteT (⟨O, s1, ev, d, sk', S', e, fun H2 S2 x2 => q H2 S2 (x'.trans x2)⟩)⟩
  · rename_i s1 e1
    cases e
    exact ⟨O, sk, ev, _, _, S, e1, fun H' S' x' => iteF (q H' S' x')⟩
  · cases e
theorem dw_or (ha : DT X F own a Ba) (hb : DW X F own (.BoolOp .Or (b :: rest) pos) Bb) : DW X F own (.BoolOp .Or (a :: b :: rest) pos) (orB Ba Bb) := PW.conv (pw_or ha hb) fun σ H Q ⟨O, sk, ev, d, sk', S, e, q⟩ => by
  unfold orB at e
  split at e
  · rename_i s1 e1
    cases e
    exact ⟨O, sk, ev, _, _, S, e1, fun H' S' x' => iteT (q H' S' x')⟩
  · rename_i s1 e1
    exact ⟨O, sk, ev, _, s1, S, e1, fun H' S' x' => iteF (⟨O, s1, ev, d, sk', S', e, fun H2 S2 x2 => q H2 S2 (x'.trans x2)⟩)⟩
  · cases e
theorem de_if (hc : DT X F own c Bc) (ha : DE X F own top a Ea) (hb : DE X F own top b Eb) : DE X F own top (.IfExp c a b pos) (ifE Bc Ea Eb) := PE.conv (pe_ifExp hc ha hb) fun σ H Q ⟨O, sk, ev, d, sk', S, e, q⟩ => by
  unfold ifE at e
  split at e
  · rename_i s1 e1
    exact ⟨O, sk, ev, _, s1, S, e1, fun H' S' x' => iteT (⟨O, s1, ev, d, sk', S', e, fun v2 H2 S2 x2 d2 => q v2 H2 S2 (x'.trans x2) d2⟩)⟩
  · rename_i s1 e1
    exact ⟨O, sk, ev, _, s1, S, e1, fun H' S' x' => iteF (⟨O, s1, ev, d, sk', S', e, fun v2 H2 S2 x2 d2 => q v2 H2 S2 (x'.trans x2) d2⟩)⟩
  · cases e
theorem dn_if (hc : DT X F own c Bc) (ha : DN X F own a Ea) (hb : DN X F own b Eb) : DN X F own (.IfExp c a b pos) (ifE Bc Ea Eb) := PE.conv (pe_ifExp hc ha hb) fun σ H Q ⟨O, sk, ev, d, sk', S, e, q⟩ => by
  unfold ifE at e
  split at e
  · rename_i s1 e1
    exact ⟨O, sk, ev, _, s1, S, e1, fun H' S' x' => iteT (⟨O, s1, ev, d, sk', S', e, fun p xs ds H2 hd S2 x2 hn hp hs => q p xs ds H2 hd S2 (x'.trans x2) (S'.before x' hn) hp hs⟩)⟩
  · rename_i s1 e1
    exact ⟨O, sk, ev, _, s1, S, e1, fun H' S' x' => iteF (⟨O, s1, ev, d, sk', S', e, fun p xs ds H2 hd S2 x2 hn hp hs => q p xs ds H2 hd S2 (x'.trans x2) (S'.before x' hn) hp hs⟩)⟩
  · cases e
/-! ### subscripts, displays -/
theorem de_ix (ha : DE X F own true a Ea) (hb : DE X F own true b Eb) (hs : PlainIx b := by intro _ _; rfl) : DE X F own false (.Subscript a b pos) (binE ixQ Ea Eb) := PE.conv (pe_ix ix_seq ha hb hs) (op_conv opS_ix)
variable {es : List Expr} {As : AF}
theorem da_nil : DA X F own [] nilA := PA.conv pa_nil fun σ H Q ⟨O, sk, ev, d, sk', S, e, q⟩ => by
  cases e
  exact q [] H S .refl rfl
theorem da_cons {e : Expr} {Ee : EF} (he : DE X F own false e Ee) (hr : DA X F own es As) (hs : starEach (e :: es) X.env = (false, eval e X.env) :: starEach es X.env := by rfl) : DA X F own (e :: es) (consA Ee As) := PA.conv (pa_cons he hr hs) fun σ H Q ⟨O, sk, ev, d, sk', S, e, q⟩ => by
  unfold consA at e
  split at e
  · cases e
  rename_i x s1 e1
  split at e <;> cases e
  rename_i xs e2
  refine ⟨O, sk, ev, x, s1, S, e1, fun v H1 S1 x1 d1 => ⟨O, s1, ev, xs, _, S1, e2, fun vs H2 S2 x2 d2 => ?_⟩⟩
  exact q _ H2 S2 (x1.trans x2) ⟨v, vs, rfl, DF.mono S1.ol (S1.kp x2) .refl _ _ d1.clean, d2⟩
theorem de_tup {x1 : Nat} (h : DA X F own es As) : DE X F own false (.Tuple es x1 pos) (tupE As) := PE.conv (pe_tup h) fun σ H Q ⟨O, sk, ev, d, sk', S, e, q⟩ => by
  unfold tupE at e
  split at e
  · rename_i xs s1 e1
    split at e <;> cases e
    rename_i hz
    refine ⟨O, sk, ev, xs, _, S, e1, fun vs H1 S1 x1 d1 => ⟨by rw [← d1.length]; exact sz_le hz, fun p hp => ?_⟩⟩
    exact q _ _ (S1.ex (Ex.new hp)) (x1.trans (Ex.new hp).xt) (.of ⟨p, vs, rfl, .inl (.inl upd_same), d1.ex S1.ol (Ex.new hp)⟩)
  · cases e
theorem dn_lst (h : DA X F own es As) : DN X F own (.List es pos) (lstE As) := PE.conv (pe_lst h) fun σ H Q ⟨O, sk, ev, d, sk', S, e, q⟩ => by
  unfold lstE at e
  split at e
  · rename_i xs s1 e1
    split at e <;> cases e
    rename_i hz
    refine ⟨O, sk, ev, xs, _, S, e1, fun vs H1 S1 x1 d1 => ⟨by rw [← d1.length]; exact sz_le hz, fun p hp => ?_⟩⟩
    have ow : Ow O H1 (fun b => O b ∨ b = p) := fun b z => z.elim .inl fun w => .inr (by rw [w]; exact hp)
    exact q p vs xs _ rfl (S1.grow (Ex.new hp) hp upd_same) (x1.trans (Ex.new hp).xt) (S1.before x1 hp) upd_same (DFs.mono S1.ol (Ex.new hp).kp ow xs vs d1)
  · cases e
end
end Dn
namespace Dn
open PySem PySem.Spec PyProof.Rows L2
/-! ### slices -/
abbrev PF := D → VE → Option (Option Int × D)
def noP : PF := fun sk _ => some (none, sk)
def someP (a : EF) : PF := fun sk ev => match a sk ev with
  | some (.int i, s1) => some (some i, s1)
  | _ => none
def tO (K : PySem.W.Frag) (F : Fm) (own : List Nat) (E : PF) : TO := fun σ H Q => ∃ O sk ev d sk', SR K F own O H σ sk ev ∧ E sk ev = some (d, sk') ∧ ∀ H', SR K F own O H' σ sk' ev → Xt F H H' → Q d H'
theorem PO.conv {X : Cx} {e : Option Expr} {t t' : TO} (h : PO X e t) (c : ∀ σ H Q, t' σ H Q → t σ H Q) : PO X e t' := by
  obtain ⟨r⟩ := h
  constructor
  intros
  exact r _ _ _ _ _ (by assumption) (c _ _ _ (by assumption))
section
variable {X : Cx} {F : Fm} {own : List Nat} {a : Expr} {Ea : EF}
theorem do_none : PO X none (tO X.K F own noP) := PO.conv po_none fun σ H Q ⟨O, sk, ev, d, sk', S, e, q⟩ => by
  cases e
  exact q H S .refl
theorem do_some (ha : DE X F own true a Ea) : PO X (some a) (tO X.K F own (someP Ea)) := PO.conv (po_some ha) fun σ H Q ⟨O, sk, ev, d, sk', S, e, q⟩ => by
  unfold someP at e
  split at e <;> cases e
  rename_i e1
  exact ⟨O, sk, ev, _, _, S, e1, fun v H' S' x dv => ⟨_, dv.int, q H' S' x⟩⟩
end
def cutD (ds : List D) (lo hi : Option Int) : List D := (ds.drop (HT.sIx ds.length 0 lo)).take (HT.sIx ds.length ds.length hi - HT.sIx ds.length 0 lo)
theorem DFs.cut {K : PySem.W.Frag} {H : Hp} {O : Addr → Prop} {ds : List D} {xs : List V} (h : DFs K H O ds xs) (lo hi : Option Int) : DFs K H O (cutD ds lo hi) (cutV xs lo hi) := by
  unfold cutD cutV
  rw [h.length]
  exact (h.drop _).take _
def slQ (lo hi : Option Int) : D → Option D
  | .tup ds => some (.tup (cutD ds lo hi))
  | .lst ds => some (.lst (cutD ds lo hi))
  | .scr ds => some (.lst (cutD ds lo hi))
  | _ => none
def slLQ (lo hi : Option Int) : D → Option D
  | .lst ds => some (.lst (cutD ds lo hi))
  | _ => none
def slE (f : Option Int → Option Int → D → Option D) (a : EF) (lo hi : PF) : EF := fun sk ev => match a sk ev with
  | none => none
  | some (x, s1) => match lo s1 ev with
    | none => none
    | some (l, s2) => match hi s2 ev with
      | none => none
      | some (h, s3) => match f l h x with
        | none => none
        | some d => some (d, s3)
section
variable {X : Cx} {F : Fm} {own : List Nat} {a : Expr} {Ea : EF} {lo hi : Option Expr} {Pl Ph : PF} {p2 pos : Pos}
theorem dn_sl (ha : DE X F own true a Ea) (hl : PO X lo (tO X.K F own Pl)) (hh : PO X hi (tO X.K F own Ph)) : DN X F own (.Subscript a (.Slice lo hi none p2) pos) (slE slLQ Ea Pl Ph) := PE.conv (pe_slice sl_list ha hl hh) fun σ H Q ⟨O, sk, ev, d, sk', S, e, q⟩ => by
  unfold slE at e
  split at e
  · cases e
  rename_i x s1 e1
  split at e
  · cases e
  rename_i l s2 e2
  split at e
  · cases e
  rename_i h s3 e3
  split at e <;> cases e
  rename_i e4
  refine ⟨O, sk, ev, x, s1, S, e1, fun v H1 S1 x1 d1 => ⟨O, s1, ev, l, s2, S1, e2, fun H2 S2 x2 => ⟨O, s2, ev, h, _, S2, e3, fun H3 S3 x3 => ?_⟩⟩⟩
  cases x <;> cases e4
  have x23 := x2.trans x3
  have d3 := d1.xt S1.ol (S1.kp x23) x23
  obtain ⟨b, xs, rfl, hb, sb⟩ := d3.lst
  refine ⟨b, xs, rfl, .inl (.inl hb), fun p hp => ?_⟩
  have ow : Ow O H3 (fun b => O b ∨ b = p) := fun b z => z.elim .inl fun w => .inr (by rw [w]; exact hp)
  exact q p _ _ _ rfl (S3.grow (Ex.new hp) hp upd_same) ((x1.trans x23).trans (Ex.new hp).xt) (S3.before (x1.trans x23) hp) upd_same (DFs.mono S3.ol (Ex.new hp).kp ow _ _ (sb.cut l h))
theorem de_sl (ha : DE X F own true a Ea) (hl : PO X lo (tO X.K F own Pl)) (hh : PO X hi (tO X.K F own Ph)) : DE X F own false (.Subscript a (.Slice lo hi none p2) pos) (slE slQ Ea Pl Ph) := PE.conv (pe_slice (sl_tupA.or sl_list) ha hl hh) fun σ H Q ⟨O, sk, ev, d, sk', S, e, q⟩ => by
  unfold slE at e
  split at e
  · cases e
  rename_i x s1 e1
  split at e
  · cases e
  rename_i l s2 e2
  split at e
  · cases e
  rename_i h s3 e3
  split at e <;> cases e
  rename_i e4
  refine ⟨O, sk, ev, x, s1, S, e1, fun v H1 S1 x1 d1 => ⟨O, s1, ev, l, s2, S1, e2, fun H2 S2 x2 => ⟨O, s2, ev, h, _, S2, e3, fun H3 S3 x3 => ?_⟩⟩⟩
  have x23 := x2.trans x3
  have d3 := d1.xt S1.ol (S1.kp x23) x23
  cases x <;> cases e4
  · obtain ⟨b, xs, rfl, hb, sb⟩ := d3.lst
    refine .inr ⟨b, xs, rfl, .inl (.inl hb), fun p hp => ?_⟩
    exact q _ _ (S3.ex (Ex.new hp)) ((x1.trans x23).trans (Ex.new hp).xt) (.of ⟨p, _, rfl, ⟨upd_same, S3.ol.not_none hp⟩, (sb.cut l h).ex S3.ol (Ex.new hp)⟩)
  · obtain ⟨b, xs, rfl, hb, sb⟩ := d3.tup
    refine .inl ⟨b, xs, rfl, hb, fun hw => ?_, fun hw p hp => ?_⟩
    · refine q _ _ S3 (x1.trans x23) (.of ⟨b, xs, rfl, hb, ?_⟩)
      have hc := sb.cut l h
      have e5 : cutV xs l h = xs := by
        unfold cutV
        rw [hw.1, hw.2]
        simp
      rw [e5] at hc
      exact hc
    · exact q _ _ (S3.ex (Ex.new hp)) ((x1.trans x23).trans (Ex.new hp).xt) (.of ⟨p, _, rfl, .inl (.inl upd_same), (sb.cut l h).ex S3.ol (Ex.new hp)⟩)
  · obtain ⟨b, xs, rfl, hb, sb⟩ := d3.scr
    refine .inr ⟨b, xs, rfl, hb.sq, fun p hp => ?_⟩
    exact q _ _ (S3.ex (Ex.new hp)) ((x1.trans x23).trans (Ex.new hp).xt) (.of ⟨p, _, rfl, ⟨upd_same, S3.ol.not_none hp⟩, (sb.cut l h).ex S3.ol (Ex.new hp)⟩)
end
/-! ### built-in functions -/
def C1S (K : PySem.W.Frag) (f : D → Option D) (r : List V → Hp → VK → Prop) : Prop := ∀ (F : Fm) (O : Addr → Prop) (H : Hp) (x : V) (dx d : D) (Q : VK), OL O H → DV true K F H O dx x → f dx = some d →
  (∀ v H', Ex H H' → DF K H' O d v → Q v H') → r [x] H Q
def C1N (K : PySem.W.Frag) (f : D → Option D) (r : List V → Hp → VK → Prop) : Prop := ∀ (F : Fm) (O : Addr → Prop) (H : Hp) (x : V) (dx d : D) (Q : VK), OL O H → DV true K F H O dx x → f dx = some d →
  (∀ a xs ds H', d = .lst ds → Ex H H' → H a = none → H' a = some (.lst xs) → DFs K H O ds xs → Q (.ref a) H') → r [x] H Q
def C2S (K : PySem.W.Frag) (f : D → D → Option D) (r : List V → Hp → VK → Prop) : Prop := ∀ (F : Fm) (O : Addr → Prop) (H : Hp) (x y : V) (dx dy d : D) (Q : VK), OL O H → DV true K F H O dx x → DV true K F H O dy y → f dx dy = some d →
  (∀ v H', Ex H H' → DF K H' O d v → Q v H') → r [x, y] H Q
section
variable {X : Cx} {F : Fm} {own : List Nat} {e : Expr} {Ea Eb : EF} {r : List V → Hp → VK → Prop}
theorem de_b1 {f : D → Option D} (hs : C1S X.K f r) (h : PE X e (tCB r (tCons (tD X.K F own true Ea) tNil))) : DE X F own false e (unE f Ea) := PE.conv h fun σ H Q ⟨O, sk, ev, d, sk', S, e, q⟩ => by
  unfold unE at e
  split at e
  · cases e
  rename_i x s1 e1
  split at e <;> cases e
  rename_i e2
  exact ⟨O, sk, ev, x, _, S, e1, fun v H1 S1 x1 d1 => hs F O H1 v x d _ S1.ol d1 e2 fun w H2 ex dw => q w H2 (S1.ex ex) (x1.trans ex.xt) (.of dw)⟩
theorem dn_b1 {f : D → Option D} (hs : C1N X.K f r) (h : PE X e (tCB r (tCons (tD X.K F own true Ea) tNil))) : DN X F own e (unE f Ea) := PE.conv h fun σ H Q ⟨O, sk, ev, d, sk', S, e, q⟩ => by
  unfold unE at e
  split at e
  · cases e
  rename_i x s1 e1
  split at e <;> cases e
  rename_i e2
  refine ⟨O, sk, ev, x, _, S, e1, fun v H1 S1 x1 d1 => hs F O H1 v x d _ S1.ol d1 e2 fun p xs ds H2 hd ex hn hp dw => ?_⟩
  have ow : Ow O H1 (fun b => O b ∨ b = p) := fun b z => z.elim .inl fun w => .inr (by rw [w]; exact hn)
  exact q p xs ds H2 hd (S1.grow ex hn hp) (x1.trans ex.xt) (S1.before x1 hn) hp (DFs.mono S1.ol ex.kp ow ds xs dw)
theorem de_b2 {f : D → D → Option D} (hs : C2S X.K f r) (h : PE X e (tCB r (tCons (tD X.K F own true Ea) (tCons (tD X.K F own true Eb) tNil)))) : DE X F own false e (binE f Ea Eb) := PE.conv h fun σ H Q ⟨O, sk, ev, d, sk', S, e, q⟩ => by
  unfold binE at e
  split at e
  · cases e
  rename_i x s1 e1
  split at e
  · cases e
  rename_i y s2 e2
  split at e <;> cases e
  rename_i e3
  exact ⟨O, sk, ev, x, s1, S, e1, fun v1 H1 S1 x1 d1 => ⟨O, s1, ev, y, _, S1, e2, fun v2 H2 S2 x2 d2 =>
    hs F O H2 v1 v2 x y d _ S2.ol (d1.xt S1.ol (S1.kp x2) x2) d2 e3 fun v H' ex dv => q v H' (S2.ex ex) ((x1.trans x2).trans ex.xt) (.of dv)⟩⟩
end
def lenQ : D → Option D
  | .lst ds => some (.int ds.length)
  | .tup ds => some (.int ds.length)
  | .scr ds => some (.int ds.length)
  | .str x => if x.length ≤ SZ then some (.int x.length) else none
  | _ => none
def lstQ : D → Option D
  | .lst ds => some (.lst ds)
  | .tup ds => some (.lst ds)
  | _ => none
def tupQ : D → Option D
  | .lst ds => some (.tup ds)
  | .tup ds => some (.tup ds)
  | _ => none
def intQ : D → Option D
  | .int i => some (.int i)
  | .bl b => some (.int (if b then 1 else 0))
  | _ => none
def absQ : D → Option D
  | .int i => some (.int (if i < 0 then -i else i))
  | _ => none
def maxQ : D → D → Option D
  | .int i, .int j => some (.int (if j > i then j else i))
  | _, _ => none
def minQ : D → D → Option D
  | .int i, .int j => some (.int (if j < i then j else i))
  | _, _ => none
def gcdQ : D → D → Option D
  | .int i, .int j => some (.int ((Nat.gcd i.natAbs j.natAbs : Nat) : Int))
  | _, _ => none
def toInts : List D → Option (List Int)
  | [] => some []
  | .int i :: ds => match toInts ds with
    | some is => some (i :: is)
    | none => none
  | _ => none
def toBls : List D → Option (List Bool)
  | [] => some []
  | .bl i :: ds => match toBls ds with
    | some is => some (i :: is)
    | none => none
  | _ => none
def leastI : Int → List Int → Int
  | m, [] => m
  | m, i :: is => leastI (if i < m then i else m) is
def mostI : Int → List Int → Int
  | m, [] => m
  | m, i :: is => mostI (if m < i then i else m) is
def sumQ : D → Option D
  | .lst ds => match toInts ds with
    | some is => some (.int is.sum)
    | none => none
  | _ => none
def minLQ : D → Option D
  | .lst ds => match toInts ds with
    | some (i :: is) => some (.int (leastI i is))
    | _ => none
  | _ => none
def maxLQ : D → Option D
  | .lst ds => match toInts ds with
    | some (i :: is) => some (.int (mostI i is))
    | _ => none
  | _ => none
def allQ : D → Option D
  | .lst ds => match toBls ds with
    | some bs => some (.bl (bs.all id))
    | none => none
  | _ => none
def anyQ : D → Option D
  | .lst ds => match toBls ds with
    | some bs => some (.bl (bs.any id))
    | none => none
  | _ => none
theorem toInts_eq : ∀ {ds : List D} {is : List Int}, toInts ds = some is → ds = is.map .int
  | [], is, h => by cases h; rfl
  | d :: ds, is, h => by
    cases d <;> try (cases h)
    unfold toInts at h
    split at h <;> cases h
    rename_i e
    rw [toInts_eq e]; rfl
theorem toBls_eq : ∀ {ds : List D} {is : List Bool}, toBls ds = some is → ds = is.map .bl
  | [], is, h => by cases h; rfl
  | d :: ds, is, h => by
    cases d <;> try (cases h)
    unfold toBls at h
    split at h <;> cases h
    rename_i e
    rw [toBls_eq e]; rfl
theorem leastI_le : ∀ (is : List Int) (m : Int), leastI m is ≤ m ∧ (∀ i, i ∈ is → leastI m is ≤ i) ∧ leastI m is ∈ m :: is
  | [], m => by simp [leastI]
  | i :: is, m => by
    have h := leastI_le is (if i < m then i else m)
    have e : leastI m (i :: is) = leastI (if i < m then i else m) is := rfl
    rw [e]
    generalize leastI (if i < m then i else m) is = z at h
    obtain ⟨h1, h2, h3⟩ := h
    refine ⟨?_, fun j hj => ?_, ?_⟩
    · split at h1 <;> omega
    · rcases List.mem_cons.mp hj with rfl | hj
      · split at h1 <;> omega
      · exact h2 j hj
    · rcases List.mem_cons.mp h3 with h | h
      · rw [h]; split <;> simp
      · simp [h]
theorem mostI_ge : ∀ (is : List Int) (m : Int), m ≤ mostI m is ∧ (∀ i, i ∈ is → i ≤ mostI m is) ∧ mostI m is ∈ m :: is
  | [], m => by simp [mostI]
  | i :: is, m => by
    have h := mostI_ge is (if m < i then i else m)
    have e : mostI m (i :: is) = mostI (if m < i then i else m) is := rfl
    rw [e]
    generalize mostI (if m < i then i else m) is = z at h
    obtain ⟨h1, h2, h3⟩ := h
    refine ⟨?_, fun j hj => ?_, ?_⟩
    · split at h1 <;> omega
    · rcases List.mem_cons.mp hj with rfl | hj
      · split at h1 <;> omega
      · exact h2 j hj
    · rcases List.mem_cons.mp h3 with h | h
      · rw [h]; split <;> simp
      · simp [h]
section
variable {K : PySem.W.Frag} {H : Hp} {O : Addr → Prop}
theorem DFs.ints : ∀ {is : List Int} {xs : List V}, DFs K H O (is.map .int) xs → xs = is.map .int
  | [], xs, h => h
  | i :: is, xs, h => by
    obtain ⟨x, r, rfl, q, s⟩ := h
    rw [DFs.ints s, show x = .int i from q]; rfl
theorem DFs.bls : ∀ {is : List Bool} {xs : List V}, DFs K H O (is.map .bl) xs → xs = is.map .bl
  | [], xs, h => h
  | i :: is, xs, h => by
    obtain ⟨x, r, rfl, q, s⟩ := h
    rw [DFs.bls s, show x = .bl i from q]; rfl
end
section
variable {K : PySem.W.Frag}
theorem c1_len : C1S K lenQ (fun xs H Q => ∃ x n, xs = [x] ∧ LenV K x H n ∧ Q (.int n) H) := fun F O H x dx d Q ol hx e q => by
  cases dx <;> try (cases e)
  · rename_i z
    simp only [lenQ] at e
    split at e <;> cases e
    rename_i hz
    rw [hx.str]
    exact ⟨_, _, rfl, ⟨sz_le hz, rfl⟩, q _ H (fun _ _ h => h) rfl⟩
  · obtain ⟨a, xs, rfl, ha, sa⟩ := hx.lst
    exact ⟨_, _, rfl, .inl ⟨xs, .inl (.inl ha), sa.length⟩, q _ H (fun _ _ h => h) rfl⟩
  · obtain ⟨a, xs, rfl, ha, sa⟩ := hx.tup
    exact ⟨_, _, rfl, .inr ⟨xs, ha, sa.length⟩, q _ H (fun _ _ h => h) rfl⟩
  · obtain ⟨a, xs, rfl, ha, sa⟩ := hx.scr
    exact ⟨_, _, rfl, .inl ⟨xs, ha.sq, sa.length⟩, q _ H (fun _ _ h => h) rfl⟩
theorem c1_list : C1N K lstQ (fun xs H Q => ∃ p ys, xs = [.ref p] ∧ (SqL K H p ys ∨ SqT K H p ys) ∧ ∀ l, H l = none → Q (.ref l) (upd H l (.lst ys))) := fun F O H x dx d Q ol hx e q => by
  cases dx <;> try (cases e)
  · obtain ⟨a, xs, rfl, ha, sa⟩ := hx.lst
    exact ⟨_, _, rfl, .inl (.inl (.inl ha)), fun l hl => q l xs _ _ rfl (Ex.new hl) hl upd_same sa⟩
  · obtain ⟨a, xs, rfl, ha, sa⟩ := hx.tup
    exact ⟨_, _, rfl, .inr ha, fun l hl => q l xs _ _ rfl (Ex.new hl) hl upd_same sa⟩
theorem c1_tuple : C1S K tupQ (fun xs H Q => ∃ p ys, xs = [.ref p] ∧ ((SqL K H p ys ∧ ∀ l, H l = none → Q (.ref l) (upd H l (.tup ys))) ∨ (SqT K H p ys ∧ Q (.ref p) H))) := fun F O H x dx d Q ol hx e q => by
  cases dx <;> try (cases e)
  · obtain ⟨a, xs, rfl, ha, sa⟩ := hx.lst
    exact ⟨_, _, rfl, .inl ⟨.inl (.inl ha), fun l hl => q _ _ (Ex.new hl) ⟨l, xs, rfl, .inl (.inl upd_same), sa.ex ol (Ex.new hl)⟩⟩⟩
  · obtain ⟨a, xs, rfl, ha, sa⟩ := hx.tup
    exact ⟨_, _, rfl, .inr ⟨ha, q _ H (fun _ _ h => h) ⟨a, xs, rfl, ha, sa⟩⟩⟩
theorem c1_int : C1S K intQ (fun xs H Q => (∃ i, xs = [.int i] ∧ Q (.int i) H) ∨ ∃ k, xs = [.bl k] ∧ Q (.int (if k then 1 else 0)) H) := fun F O H x dx d Q ol hx e q => by
  cases dx <;> try (cases e)
  · exact .inr ⟨_, by rw [hx.bl], q _ H (fun _ _ h => h) rfl⟩
  · exact .inl ⟨_, by rw [hx.int], q _ H (fun _ _ h => h) rfl⟩
theorem c1_abs : C1S K absQ (fun xs H Q => ∃ i, xs = [.int i] ∧ Q (.int (if i < 0 then -i else i)) H) := fun F O H x dx d Q ol hx e q => by
  cases dx <;> try (cases e)
  exact ⟨_, by rw [hx.int], q _ H (fun _ _ h => h) rfl⟩
theorem c2_max : C2S K maxQ (fun xs H Q => ∃ i j, xs = [.int i, .int j] ∧ Q (.int (if j > i then j else i)) H) := fun F O H x y dx dy d Q ol hx hy e q => by
  cases dx <;> cases dy <;> try (cases e)
  exact ⟨_, _, by rw [hx.int, hy.int], q _ H (fun _ _ h => h) rfl⟩
theorem c2_min : C2S K minQ (fun xs H Q => ∃ i j, xs = [.int i, .int j] ∧ Q (.int (if j < i then j else i)) H) := fun F O H x y dx dy d Q ol hx hy e q => by
  cases dx <;> cases dy <;> try (cases e)
  exact ⟨_, _, by rw [hx.int, hy.int], q _ H (fun _ _ h => h) rfl⟩
theorem c2_gcd : C2S K gcdQ rGcd := fun F O H x y dx dy d Q ol hx hy e q => by
  cases dx <;> cases dy <;> try (cases e)
  exact ⟨_, _, by rw [hx.int, hy.int], q _ H (fun _ _ h => h) rfl⟩
theorem c1_sum : C1S K sumQ (rSum K) := fun F O H x dx d Q ol hx e q => by
  cases dx <;> try (cases e)
  rename_i ds
  simp only [sumQ] at e
  split at e <;> cases e
  rename_i is e1
  rw [toInts_eq e1] at hx
  obtain ⟨a, xs, rfl, ha, sa⟩ := hx.lst
  rw [sa.ints] at ha
  exact ⟨a, is, rfl, .inl (.inl ha), q _ H (fun _ _ h => h) rfl⟩
theorem c1_min : C1S K minLQ (rMin K) := fun F O H x dx d Q ol hx e q => by
  cases dx <;> try (cases e)
  rename_i ds
  simp only [minLQ] at e
  split at e <;> cases e
  rename_i i is e1
  rw [toInts_eq e1] at hx
  obtain ⟨a, xs, rfl, ha, sa⟩ := hx.lst
  rw [sa.ints] at ha
  refine ⟨a, i :: is, rfl, .inl (.inl ha), Nat.succ_pos _, fun m hm hle => ?_⟩
  obtain ⟨h1, h2, h3⟩ := leastI_le is i
  have e3 : m = leastI i is := by
    refine Int.le_antisymm (hle _ h3) ?_
    rcases List.mem_cons.mp hm with rfl | hm
    · exact h1
    · exact h2 m hm
  rw [e3]
  exact q _ H (fun _ _ h => h) rfl
theorem c1_max : C1S K maxLQ (rMax K) := fun F O H x dx d Q ol hx e q => by
  cases dx <;> try (cases e)
  rename_i ds
  simp only [maxLQ] at e
  split at e <;> cases e
  rename_i i is e1
  rw [toInts_eq e1] at hx
  obtain ⟨a, xs, rfl, ha, sa⟩ := hx.lst
  rw [sa.ints] at ha
  refine ⟨a, i :: is, rfl, .inl (.inl ha), Nat.succ_pos _, fun m hm hle => ?_⟩
  obtain ⟨h1, h2, h3⟩ := mostI_ge is i
  have e3 : m = mostI i is := by
    refine Int.le_antisymm ?_ (hle _ h3)
    rcases List.mem_cons.mp hm with rfl | hm
    · exact h1
    · exact h2 m hm
  rw [e3]
  exact q _ H (fun _ _ h => h) rfl
theorem c1_all : C1S K allQ (rAll K) := fun F O H x dx d Q ol hx e q => by
  cases dx <;> try (cases e)
  rename_i ds
  simp only [allQ] at e
  split at e <;> cases e
  rename_i is e1
  rw [toBls_eq e1] at hx
  obtain ⟨a, xs, rfl, ha, sa⟩ := hx.lst
  rw [sa.bls] at ha
  exact ⟨a, is, rfl, .inl (.inl ha), q _ H (fun _ _ h => h) rfl⟩
theorem c1_any : C1S K anyQ (rAny K) := fun F O H x dx d Q ol hx e q => by
  cases dx <;> try (cases e)
  rename_i ds
  simp only [anyQ] at e
  split at e <;> cases e
  rename_i is e1
  rw [toBls_eq e1] at hx
  obtain ⟨a, xs, rfl, ha, sa⟩ := hx.lst
  rw [sa.bls] at ha
  exact ⟨a, is, rfl, .inl (.inl ha), q _ H (fun _ _ h => h) rfl⟩
end
/-! ### isinstance of a built-in type -/
def tyN : D → String
  | .non => "NoneType"
  | .bl _ => "bool"
  | .int _ => "int"
  | .str _ => "str"
  | .lst _ => "list"
  | .tup _ => "tuple"
  | .scr _ => "list"
  | .dct => "dict"
def isQ (T : String) (p : String → Bool) : D → Option D := fun d => match d with
  | .scr _ => none
  | d => some (.bl (p (tyN d)))
theorem tyx_of {K : PySem.W.Frag} {F : Fm} {H : Hp} {O : Addr → Prop} {d : D} {v : V} (h : DV true K F H O d v) (hn : ∀ ds, d ≠ .scr ds) : TyX K H v (.type (tyN d)) := by
  cases d with
  | non => rw [h.non]; exact .base .non
  | bl b => rw [h.bl]; exact .base (.bl b)
  | int i => rw [h.int]; exact .base (.int i)
  | str x => rw [h.str]; exact .base (.str x)
  | lst ds => obtain ⟨a, xs, rfl, ha, _⟩ := h.lst; exact .base (.lst ha)
  | tup ds =>
    obtain ⟨a, xs, rfl, ha, _⟩ := h.tup
    rcases ha with (h1 | ⟨o, h1⟩) | ⟨o, its, n, h1, h2, _⟩
    · exact .base (.tup h1)
    · exact .fTuple h1
    · exact .kTuple h1 h2
  | scr ds => exact absurd rfl (hn ds)
  | dct => obtain ⟨a, rfl, ha⟩ := h.dct; exact .base (.dK ha)
theorem de_isi {X : Cx} {F : Fm} {own : List Nat} {e : Expr} {Ea : EF} {T : String} {p : String → Bool} (hk : ["NoneType", "bool", "int", "str", "list", "tuple", "dict"].all (fun n => decide (kitB n T = some (p n))) = true)
    (h : PE X e (tCB (rIsi X.K) (tCons (tD X.K F own true Ea) (tCons (tC (.ty T)) tNil)))) : DE X F own false e (unE (isQ T p) Ea) := PE.conv h fun σ H Q ⟨O, sk, ev, d, sk', S, e, q⟩ => by
  unfold unE at e
  split at e
  · cases e
  rename_i x s1 e1
  have hn : ∀ ds, x ≠ .scr ds := fun ds z => by subst z; cases e
  have e' : d = .bl (p (tyN x)) ∧ sk' = s1 := by cases x <;> cases e <;> exact ⟨rfl, rfl⟩
  obtain ⟨rfl, rfl⟩ := e'
  refine ⟨O, sk, ev, x, _, S, e1, fun v H1 S1 x1 d1 => ⟨v, .ty T, _, _, p (tyN x), rfl, .ty T, tyx_of d1 hn, kit_ty ?_, q _ H1 S1 x1 (.of rfl)⟩⟩
  have hk' := List.all_eq_true.mp hk (tyN x) (by cases x <;> simp [tyN])
  exact of_decide_eq_true hk'
end Dn
namespace Dn
open PySem PySem.Spec PyProof.Rows L2
/-! ### promises of defs -/
/-- the value, the heap kept -/
def spV (K : PySem.W.Frag) (n : Nat) (f : List D → Option D) : Sp := fun vs H Q _ => ∃ (O : Addr → Prop) (ds : List D) (d : D), OL O H ∧ DFs K H O ds vs ∧ ds.length = n ∧ f ds = some d ∧ ∀ v H', Ex H H' → DF K H' O d v → Q v H'
/-- a new list -/
def spN (K : PySem.W.Frag) (n : Nat) (f : List D → Option D) : Sp := fun vs H Q _ => ∃ (O : Addr → Prop) (ds : List D) (d : D), OL O H ∧ DFs K H O ds vs ∧ ds.length = n ∧ f ds = some d ∧
  ∀ a xs es H', d = .lst es → Ex H H' → H a = none → H' a = some (.lst xs) → DFs K H' (fun b => O b ∨ b = a) es xs → Q (.ref a) H'
/-- all kept but the sack -/
def Bx (a : Addr) (H H' : Hp) : Prop := ∀ b o, b ≠ a → H b = some o → H' b = some o
def spS (K : PySem.W.Frag) (n : Nat) (f : D → List D → Option (D × D)) : Sp := fun vs H Q _ => ∃ (O : Addr → Prop) (a : Addr) (xs ws : List V) (ks ds : List D) (d sk' : D), vs = .ref a :: ws ∧ OL O H ∧ O a ∧ H a = some (.lst xs) ∧ DFs K H O ks xs ∧ DFs K H O ds ws ∧ ds.length = n ∧ f (.lst ks) ds = some (d, sk') ∧
  ∀ v H' xs' ks', Bx a H H' → sk' = .lst ks' → H' a = some (.lst xs') → DFs K H' O ks' xs' → DF K H' O d v → Q v H'
def spSN (K : PySem.W.Frag) (n : Nat) (f : D → List D → Option (D × D)) : Sp := fun vs H Q _ => ∃ (O : Addr → Prop) (a : Addr) (xs ws : List V) (ks ds : List D) (d sk' : D), vs = .ref a :: ws ∧ OL O H ∧ O a ∧ H a = some (.lst xs) ∧ DFs K H O ks xs ∧ DFs K H O ds ws ∧ ds.length = n ∧ f (.lst ks) ds = some (d, sk') ∧
  ∀ p ys es H' xs' ks', d = .lst es → Bx a H H' → sk' = .lst ks' → H' a = some (.lst xs') → DFs K H' (fun b => O b ∨ b = p) ks' xs' → H p = none → H' p = some (.lst ys) → DFs K H' (fun b => O b ∨ b = p) es ys → Q (.ref p) H'
def callE (f : List D → Option D) (as : AF) : EF := fun sk ev => match as sk ev with
  | none => none
  | some (ds, s1) => match f ds with
    | none => none
    | some d => some (d, s1)
def callS (f : D → List D → Option (D × D)) (as : AF) : EF := fun sk ev => match as sk ev with
  | none => none
  | some (ds, s1) => f s1 ds
def chk (n : Nat) (as : AF) : Prop := ∀ sk ev ds s1, as sk ev = some (ds, s1) → ds.length = n
theorem chk_nil : chk 0 nilA := fun _ _ _ _ e => by cases e; rfl
theorem chk_cons {n : Nat} {a : EF} {as : AF} (h : chk n as) : chk (n + 1) (consA a as) := fun sk ev ds s1 e => by
  unfold consA at e
  split at e
  · cases e
  split at e <;> cases e
  rename_i e2
  rw [List.length_cons, h _ _ _ _ e2]
section
variable {X : Cx} {F : Fm} {own : List Nat} {e : Expr} {As : AF} {n : Nat} {f : List D → Option D} {g : D → List D → Option (D × D)} {E0' : XK}
theorem call_conv (hn : chk n As) : ∀ σ H Q, tD X.K F own false (callE f As) σ H Q → tCall (spV X.K n f) [] E0' (tA X.K F own As) σ H Q := fun σ H Q ⟨O, sk, ev, d, sk', S, e, q⟩ => by
  unfold callE at e
  split at e
  · cases e
  rename_i ds s1 e1
  split at e <;> cases e
  rename_i e2
  refine ⟨O, sk, ev, ds, _, S, e1, fun vs H1 S1 x1 d1 => ⟨O, ds, d, S1.ol, ?_, hn _ _ _ _ e1, e2, fun v H' ex dv => q v H' (S1.ex ex) (x1.trans ex.xt) (.of dv)⟩⟩
  rw [List.append_nil]; exact d1
theorem call_convN (hn : chk n As) : ∀ σ H Q, tN X.K F own (callE f As) σ H Q → tCall (spN X.K n f) [] E0' (tA X.K F own As) σ H Q := fun σ H Q ⟨O, sk, ev, d, sk', S, e, q⟩ => by
  unfold callE at e
  split at e
  · cases e
  rename_i ds s1 e1
  split at e <;> cases e
  rename_i e2
  refine ⟨O, sk, ev, ds, _, S, e1, fun vs H1 S1 x1 d1 => ⟨O, ds, d, S1.ol, ?_, hn _ _ _ _ e1, e2, fun p xs es H' hd ex hn hp dv => q p xs es H' hd (S1.grow ex hn hp) (x1.trans ex.xt) (S1.before x1 hn) hp dv⟩⟩
  rw [List.append_nil]; exact d1
theorem de_call (hn : chk n As) (h : PE X e (tCall (spV X.K n f) [] E0' (tA X.K F own As))) : DE X F own false e (callE f As) := PE.conv h (call_conv hn)
theorem dn_call (hn : chk n As) (h : PE X e (tCall (spN X.K n f) [] E0' (tA X.K F own As))) : DN X F own e (callE f As) := PE.conv h (call_convN hn)
theorem Bx.xt {a : Addr} {H H' : Hp} (b : Bx a H H') (h : F.io = some a) : Xt F H H' := fun c o n q => b c o (fun z => n (by rw [z]; exact h)) q
theorem ds_call (hn : chk n As) (h : PE X e (tCall (spS X.K n g) [] E0' (tCons (tVar 0) (tA X.K F own As)))) (hio : F.io.isSome = true) : DE X F own false e (callS g As) := PE.conv h fun σ H Q ⟨O, sk, ev, d, sk', S, e, q⟩ => by
  unfold callS at e
  split at e
  · cases e
  rename_i ds s1 e1
  obtain ⟨a, ha⟩ := Option.isSome_iff_exists.mp hio
  obtain ⟨ho, hs, _⟩ := S.sack a ha
  refine ⟨.ref a, hs, O, sk, ev, ds, s1, S, e1, fun vs H1 S1 x1 d1 => ?_⟩
  obtain ⟨_, _, xs, ks, rfl, hx, hk⟩ := S1.sack a ha
  refine ⟨O, a, xs, vs, ks, ds, d, sk', by rw [List.append_nil], S1.ol, S1.o0 a ho, hx, hk, d1, hn _ _ _ _ e1, e, fun v H' xs' ks' bx hk' hx' hs' dv => ?_⟩
  refine q v H' (S1.step (bx.xt ha) (fun _ h => h) (fun _ h => .inl h) fun b hb => ?_) (x1.trans (bx.xt ha)) (.of dv)
  rw [ha] at hb; cases hb
  exact ⟨xs', ks', hk', hx', hs'⟩
theorem dsn_call (hn : chk n As) (h : PE X e (tCall (spSN X.K n g) [] E0' (tCons (tVar 0) (tA X.K F own As)))) (hio : F.io.isSome = true) : DN X F own e (callS g As) := PE.conv h fun σ H Q ⟨O, sk, ev, d, sk', S, e, q⟩ => by
  unfold callS at e
  split at e
  · cases e
  rename_i ds s1 e1
  obtain ⟨a, ha⟩ := Option.isSome_iff_exists.mp hio
  obtain ⟨ho, hs, _⟩ := S.sack a ha
  refine ⟨.ref a, hs, O, sk, ev, ds, s1, S, e1, fun vs H1 S1 x1 d1 => ?_⟩
  obtain ⟨_, _, xs, ks, rfl, hx, hk⟩ := S1.sack a ha
  refine ⟨O, a, xs, vs, ks, ds, d, sk', by rw [List.append_nil], S1.ol, S1.o0 a ho, hx, hk, d1, hn _ _ _ _ e1, e, fun p ys es H' xs' ks' hd bx hk' hx' hs' hp hp' dv => ?_⟩
  refine q p ys es H' hd (S1.step (bx.xt ha) (fun _ h => .inl h) (fun b h => h.elim .inl fun z => .inr (by rw [z]; exact ⟨hp, ys, hp'⟩)) fun b hb => ?_) (x1.trans (bx.xt ha)) (S1.before x1 hp) hp' dv
  rw [ha] at hb; cases hb
  exact ⟨xs', ks', hk', hx', hs'⟩
end
/-! ### targets -/
abbrev GF := D → VE → Option VE
/-- only the slots of ts have changed -/
def Tg (ts : List Nat) (σ σ' : L2.St) : Prop := σ'.length = σ.length ∧ ∀ i, i ∉ ts → σ'[i]? = σ[i]?
def tGd (K : PySem.W.Frag) (F : Fm) (own ts : List Nat) (G : GF) : TG := fun v σ H Q => ∃ O sk ev d ev', SR K F own O H σ sk ev ∧ DF K H O d v ∧ G d ev = some ev' ∧ ∀ σ', SR K F own O H σ' sk ev' → Tg ts σ σ' → Q σ' H
def tGs (K : PySem.W.Frag) (F : Fm) (own ts : List Nat) (G : List D → VE → Option VE) : TGs := fun vs σ H Q => ∃ O sk ev ds ev', SR K F own O H σ sk ev ∧ DFs K H O ds vs ∧ G ds ev = some ev' ∧ ∀ σ', SR K F own O H σ' sk ev' → Tg ts σ σ' → Q σ' H
theorem PG.conv {X : Cx} {e : Expr} {t t' : TG} (h : PG X e t) (c : ∀ v σ H Q, t' v σ H Q → t v σ H Q) : PG X e t' := by
  obtain ⟨r⟩ := h
  constructor
  intros
  exact r _ _ _ _ _ _ _ (by assumption) (by assumption) (c _ _ _ _ (by assumption))
theorem PGs.conv {X : Cx} {e : List Expr} {t t' : TGs} (h : PGs X e t) (c : ∀ v σ H Q, t' v σ H Q → t v σ H Q) : PGs X e t' := by
  obtain ⟨r⟩ := h
  constructor
  intros
  exact r _ _ _ _ _ _ _ (by assumption) (by assumption) (c _ _ _ _ (by assumption))
section
variable {K : PySem.W.Frag} {F : Fm} {own : List Nat} {O : Addr → Prop} {H : Hp} {σ : L2.St} {sk : D} {ev : VE}
/-- a clean value stored at a slot that is not owned -/
theorem SR.put (S : SR K F own O H σ sk ev) {i : Nat} {d : D} {v : V} (hi : own.contains i = false) (h0 : F.io = none ∨ i ≠ 0) (hd : DF K H O d v) : SR K F own O H (σ.set i (some v)) sk (ev.set i (some d)) := by
  have ni : ∀ j, j ∈ own → j ≠ i := fun j h z => by
    rw [z] at h
    rw [List.contains_iff_mem.mpr h] at hi; cases hi
  have back : ∀ {j e}, j ≠ i → (ev.set i (some d))[j]? = some (some e) → ev[j]? = some (some e) := fun {j e} h z => by rwa [List.getElem?_set_ne (Ne.symm h)] at z
  have fwd : ∀ {j e}, j ≠ i → σ[j]? = e → (σ.set i (some v))[j]? = e := fun {j e} h z => by rwa [List.getElem?_set_ne (Ne.symm h)]
  refine ⟨by simp [S.len], fun j e hj nj => ?_, fun j e hj hj' => ?_, fun j k e f a hj hk h1 h2 h3 h4 => ?_, S.ol, S.pres, S.o0, S.ow, S.ol0, fun a ha => ?_⟩
  · by_cases z : j = i
    · subst z
      by_cases hl : j < ev.length
      · rw [List.getElem?_set_self hl] at hj
        cases hj
        exact ⟨v, List.getElem?_set_self (by rw [← S.len]; exact hl), hd⟩
      · rw [List.getElem?_eq_none (by simpa using hl)] at hj; cases hj
    · obtain ⟨w, h1, h2⟩ := S.val j e (back z hj) nj
      exact ⟨w, fwd z h1, h2⟩
  · obtain ⟨a, xs, ds, h1, h2, h3⟩ := S.ownd j e (back (ni j hj') hj) hj'
    exact ⟨a, xs, ds, h1, fwd (ni j hj') h2, h3⟩
  · rw [List.getElem?_set_ne (Ne.symm (ni j hj))] at h1 h3
    rw [List.getElem?_set_ne (Ne.symm (ni k hk))] at h2 h4
    exact S.inj j k e f a hj hk h1 h2 h3 h4
  · obtain ⟨h1, h2, h3⟩ := S.sack a ha
    refine ⟨h1, fwd (fun z => ?_) h2, h3⟩
    rcases h0 with q | q
    · rw [ha] at q; cases q
    · exact q z.symm
end
def nameG (i : Nat) : GF := fun d ev => some (ev.set i (some d))
def nilG : List D → VE → Option VE := fun ds ev => match ds with
  | [] => some ev
  | _ => none
def consG (g : GF) (gs : List D → VE → Option VE) : List D → VE → Option VE := fun ds ev => match ds with
  | [] => none
  | d :: r => match g d ev with
    | none => none
    | some ev1 => gs r ev1
def tupG (n : Nat) (gs : List D → VE → Option VE) : GF := fun d ev => match d with
  | .tup ds => if ds.length = n then gs ds ev else none
  | _ => none
section
variable {X : Cx} {F : Fm} {own : List Nat} {e : Expr} {es : List Expr} {g : GF} {gs : List D → VE → Option VE}
theorem dg_name {i : Nat} (h : PG X e (gName i)) (hi : own.contains i = false) (h0 : F.io = none ∨ i ≠ 0) : PG X e (tGd X.K F own [i] (nameG i)) := PG.conv h fun v σ H Q ⟨O, sk, ev, d, ev', S, hd, e, q⟩ => by
  cases e
  exact q _ (S.put hi h0 hd) ⟨by simp, fun j hj => List.getElem?_set_ne (fun z => hj (by simp [z]))⟩
theorem dgs_nil : PGs X [] (tGs X.K F own [] nilG) := PGs.conv pgs_nil fun v σ H Q ⟨O, sk, ev, ds, ev', S, hd, e, q⟩ => by
  unfold nilG at e
  split at e <;> cases e
  exact ⟨hd, q σ S ⟨rfl, fun _ _ => rfl⟩⟩
theorem dgs_cons {ts us : List Nat} (h : PG X e (tGd X.K F own ts g)) (hr : PGs X es (tGs X.K F own us gs)) (hs : (assignEach (e :: es) X.env).map (·.2) = assign e X.env :: (assignEach es X.env).map (·.2) := by rfl) : PGs X (e :: es) (tGs X.K F own (ts ++ us) (consG g gs)) := PGs.conv (pgs_cons h hr hs) fun vs σ H Q ⟨O, sk, ev, ds, ev', S, hd, e, q⟩ => by
  unfold consG at e
  split at e
  · cases e
  rename_i d r
  split at e
  · cases e
  rename_i ev1 e1
  obtain ⟨v, vr, rfl, h1, h2⟩ := hd
  exact ⟨v, vr, rfl, O, sk, ev, d, ev1, S, h1, e1, fun σ' S' t1 => ⟨O, sk, ev1, r, ev', S', h2, e, fun σ2 S2 t2 => q σ2 S2 ⟨t2.1.trans t1.1, fun i hi => (t2.2 i fun z => hi (List.mem_append_right _ z)).trans (t1.2 i fun z => hi (List.mem_append_left _ z))⟩⟩⟩
theorem dg_tup {k n : Nat} {pos : Pos} {ts : List Nat} (hc : X.calm = true) (h : PGs X es (tGs X.K F own ts gs)) (hn : (assignEach es X.env).length = n := by rfl) (hst : (assignEach es X.env).findIdx? (·.1) = none := by rfl) : PG X (.Tuple es k pos) (tGd X.K F own ts (tupG n gs)) :=
  PG.conv (pg_tup hc h hn hst) fun v σ H Q ⟨O, sk, ev, d, ev', S, hd, e, q⟩ => by
    unfold tupG at e
    split at e
    · rename_i ds
      split at e
      · rename_i hl
        obtain ⟨a, xs, rfl, ha, sa⟩ := hd
        exact ⟨a, xs, rfl, ha, by rw [← sa.length]; exact hl, O, sk, ev, ds, ev', S, sa, e, q⟩
      · cases e
    · cases e
end
end Dn
namespace Dn
open PySem PySem.Spec PyProof.Rows L2 RT RZ
/-! ### what is walked -/
abbrev IF_ := D → VE → Option (List D × D)
/-- how the state may have gone on while a walk stands -/
def Stb (top : Bool) (F : Fm) (O : Addr → Prop) (H : Hp) (O2 : Addr → Prop) (H2 : Hp) : Prop := (if top = true then Xt F H H2 else True) ∧ Kp O H H2 ∧ Ow O H O2 ∧ OL O2 H2
def ItOk (K : PySem.W.Frag) (F : Fm) (top : Bool) (O : Addr → Prop) (H1 : Hp) (ds : List D) (J : It) : Prop := ∀ O2 H2, Stb top F O H1 O2 H2 →
  (∀ i d, ds[i]? = some d → J.go i H2 ∧ ∀ x H3, J.yld i H2 x H3 → Ex H2 H3 ∧ DF K H3 O2 d x) ∧ J.stop ds.length H2
def tI (K : PySem.W.Frag) (F : Fm) (own : List Nat) (top : Bool) (I : IF_) : TI := fun σ H R => ∃ O sk ev ds sk', SR K F own O H σ sk ev ∧ I sk ev = some (ds, sk') ∧
  ∀ J H', SR K F own O H' σ sk' ev → Xt F H H' → ItOk K F top O H' ds J → R J H'
theorem PI.conv {X : Cx} {tg e : Expr} {t t' : TI} (h : PI X tg e t) (c : ∀ σ H Q, t' σ H Q → t σ H Q) : PI X tg e t' := by
  obtain ⟨r⟩ := h
  constructor
  intros
  exact r _ _ _ _ _ (by assumption) (c _ _ _ (by assumption))
theorem PI.either {X : Cx} {tg e : Expr} {t t' : TI} (h : PI X tg e t) (h' : PI X tg e t') : PI X tg e (fun σ H R => t σ H R ∨ t' σ H R) := by
  obtain ⟨r⟩ := h
  obtain ⟨r'⟩ := h'
  constructor
  intros
  rename_i q
  rcases q with q | q
  · exact r _ _ _ _ _ (by assumption) q
  · exact r' _ _ _ _ _ (by assumption) q
section
variable {K : PySem.W.Frag} {F : Fm} {own : List Nat} {top : Bool} {O O2 : Addr → Prop} {H H2 : Hp} {σ : L2.St} {sk : D} {ev : VE}
/-- a list to be walked stays -/
theorem DV.stays (h : DV top K F H O (.lst ds) v) (ol : OL O H) : ∃ a xs, v = .ref a ∧ H a = some (.lst xs) ∧ DFs K H O ds xs ∧ ∀ O2 H2, Stb top F O H O2 H2 → H2 a = some (.lst xs) ∧ DFs K H2 O2 ds xs := by
  rcases h with ⟨a, xs, rfl, ⟨ha, na⟩, sa⟩ | ⟨ht, a, xs, ds', h1, rfl, h3, h4, h5⟩
  · exact ⟨a, xs, rfl, ha, sa, fun O2 H2 st => ⟨st.2.1 _ _ na ha, DFs.mono ol st.2.1 st.2.2.1 _ _ sa⟩⟩
  · cases h1
    refine ⟨a, xs, rfl, h4, h5, fun O2 H2 st => ⟨?_, DFs.mono ol st.2.1 st.2.2.1 _ _ h5⟩⟩
    have x := st.1
    rw [if_pos ht] at x
    exact x a _ h3 h4
theorem DV.stayT (h : DV top K F H O (.tup ds) v) (ol : OL O H) : ∃ a xs, v = .ref a ∧ SqT K H a xs ∧ DFs K H O ds xs ∧ ∀ O2 H2, Stb top F O H O2 H2 → SqT K H2 a xs ∧ DFs K H2 O2 ds xs := by
  obtain ⟨a, xs, rfl, ha, sa⟩ := h.tup
  exact ⟨a, xs, rfl, ha, sa, fun O2 H2 st => ⟨sqT_kp ol st.2.1 ha, DFs.mono ol st.2.1 st.2.2.1 _ _ sa⟩⟩
theorem DFs.lt {ds : List D} {xs : List V} (h : DFs K H O ds xs) {i : Nat} {d : D} (e : ds[i]? = some d) : i < xs.length := by
  rw [← h.length]
  exact (List.getElem?_eq_some_iff.mp e).1
end
def seqI (a : EF) : IF_ := fun sk ev => match a sk ev with
  | some (.lst ds, s1) => some (ds, s1)
  | some (.tup ds, s1) => some (ds, s1)
  | _ => none
/-- the ints from a on -/
def upTo (a : Int) : Nat → List D
  | 0 => []
  | n + 1 => .int a :: upTo (a + 1) n
theorem upTo_length : ∀ (n : Nat) (a : Int), (upTo a n).length = n
  | 0, _ => rfl
  | n + 1, a => by rw [upTo, List.length_cons, upTo_length n]
theorem upTo_get : ∀ (n : Nat) (a : Int) (i : Nat) (d : D), (upTo a n)[i]? = some d → i < n ∧ d = .int (a + i)
  | 0, _, i, d, h => by simp [upTo] at h
  | n + 1, a, 0, d, h => by simp [upTo] at h; subst h; exact ⟨Nat.succ_pos n, by simp⟩
  | n + 1, a, i + 1, d, h => by
    obtain ⟨h1, h2⟩ := upTo_get n (a + 1) i d (by simpa [upTo] using h)
    refine ⟨Nat.succ_lt_succ h1, ?_⟩
    rw [h2]
    congr 1
    omega
def rng1I (a : EF) : IF_ := fun sk ev => match a sk ev with
  | some (.int n, s1) => if decide (n ≤ 1000000) && decide (-1000000 ≤ n) then some (upTo 0 n.toNat, s1) else none
  | _ => none
def rng2I (a b : EF) : IF_ := fun sk ev => match a sk ev with
  | some (.int n, s1) => (match b s1 ev with
    | some (.int m, s2) => if decide (n ≤ 1000000) && decide (-1000000 ≤ n) && decide (m ≤ 1000000) && decide (-1000000 ≤ m) then some (upTo n (m - n).toNat, s2) else none
    | _ => none)
  | _ => none
def revI (a : EF) : IF_ := fun sk ev => match a sk ev with
  | some (.lst ds, s1) => some (ds.reverse, s1)
  | some (.tup ds, s1) => some (ds.reverse, s1)
  | _ => none
/-- .. downwards: n - 1 to 0 -/
def revRI (a : EF) : IF_ := fun sk ev => match a sk ev with
  | some (.int n, s1) => if decide (n ≤ 1000000) && decide (-1000000 ≤ n) then some ((upTo 0 n.toNat).reverse, s1) else none
  | _ => none
def zipL : List D → List D → List D
  | a :: as, b :: bs => .tup [a, b] :: zipL as bs
  | _, _ => []
def zipI (a b : EF) : IF_ := fun sk ev => match a sk ev with
  | some (.lst as, s1) => (match b s1 ev with
    | some (.lst bs, s2) => some (zipL as bs, s2)
    | _ => none)
  | some (.tup as, s1) => (match b s1 ev with
    | some (.tup bs, s2) => some (zipL as bs, s2)
    | _ => none)
  | _ => none
theorem zipL_length : ∀ as bs : List D, (zipL as bs).length = min as.length bs.length
  | [], _ => by simp [zipL]
  | _ :: _, [] => by simp [zipL]
  | a :: as, b :: bs => by simp only [zipL, List.length_cons, zipL_length as bs]; omega
theorem zipL_get : ∀ (as bs : List D) (i : Nat) (d : D), (zipL as bs)[i]? = some d → ∃ a b, as[i]? = some a ∧ bs[i]? = some b ∧ d = .tup [a, b]
  | [], _, i, d, h => by simp [zipL] at h
  | _ :: _, [], i, d, h => by simp [zipL] at h
  | a :: as, b :: bs, 0, d, h => by simp [zipL] at h; exact ⟨a, b, rfl, rfl, h.symm⟩
  | a :: as, b :: bs, i + 1, d, h => zipL_get as bs i d (by simpa [zipL] using h)
section
variable {X : Cx} {F : Fm} {own : List Nat} {top : Bool} {tg a b : Expr} {Ea Eb : EF}
theorem di_seq (h : DE X F own top a Ea) : PI X tg a (tI X.K F own top (seqI Ea)) := PI.conv (PI.either (pi_list h) (pi_tup h)) fun σ H Q ⟨O, sk, ev, ds, sk', S, e, q⟩ => by
  unfold seqI at e
  split at e
  · rename_i e1
    cases e
    refine .inl ⟨O, sk, ev, _, _, S, e1, fun v H1 S1 x1 d1 => ?_⟩
    obtain ⟨p, xs, rfl, hp, sp, st⟩ := d1.stays S1.ol
    refine ⟨p, rfl, ⟨xs, .inl (.inl hp)⟩, q _ H1 S1 x1 fun O2 H2 z => ?_⟩
    obtain ⟨hp2, sp2⟩ := st O2 H2 z
    have hq : SqL X.K H2 p xs := .inl (.inl hp2)
    refine ⟨fun i d hd => ⟨walk_list.goes i H2 (sp2.lt hd) hq, fun x H3 y => ?_⟩, ?_⟩
    · obtain ⟨e3, hx⟩ := walk_list.yields i H2 x H3 (sp2.lt hd) hq y
      subst e3
      obtain ⟨x', hx', dx⟩ := sp2.get hd
      rw [hx] at hx'; cases hx'
      exact ⟨fun _ _ h => h, dx⟩
    · rw [sp2.length]; exact walk_list.stops H2 hq
  · rename_i e1
    cases e
    refine .inr ⟨O, sk, ev, _, _, S, e1, fun v H1 S1 x1 d1 => ?_⟩
    obtain ⟨p, xs, rfl, hp, sp, st⟩ := d1.stayT S1.ol
    refine ⟨p, rfl, ⟨xs, hp⟩, q _ H1 S1 x1 fun O2 H2 z => ?_⟩
    obtain ⟨hq, sp2⟩ := st O2 H2 z
    refine ⟨fun i d hd => ⟨walk_tup.goes i H2 (sp2.lt hd) hq, fun x H3 y => ?_⟩, ?_⟩
    · obtain ⟨e3, hx⟩ := walk_tup.yields i H2 x H3 (sp2.lt hd) hq y
      subst e3
      obtain ⟨x', hx', dx⟩ := sp2.get hd
      rw [hx] at hx'; cases hx'
      exact ⟨fun _ _ h => h, dx⟩
    · rw [sp2.length]; exact walk_tup.stops H2 hq
  · cases e
theorem it_range {K : PySem.W.Frag} {O : Addr → Prop} {H : Hp} {lo : Int} {n : Nat} : ItOk K F top O H (upTo lo n) (Itr lo n) := fun O2 H2 z => by
  refine ⟨fun i d hd => ?_, ?_⟩
  · obtain ⟨hi, rfl⟩ := upTo_get n lo i d hd
    refine ⟨walk_range.goes i H2 hi True.intro, fun x H3 y => ?_⟩
    obtain ⟨e3, hx⟩ := walk_range.yields i H2 x H3 hi True.intro y
    subst e3
    exact ⟨fun _ _ h => h, hx⟩
  · rw [upTo_length]; exact walk_range.stops H2 True.intro
theorem di_rng1 {t : TE} (ht : t = tD X.K F own true Ea) (h : PI X tg a (iRng1 (tCons t tNil))) : PI X tg a (tI X.K F own top (rng1I Ea)) := PI.conv h fun σ H Q ⟨O, sk, ev, ds, sk', S, e, q⟩ => by
  subst ht
  unfold rng1I at e
  split at e
  · rename_i e1
    split at e <;> cases e
    rename_i hz
    simp only [Bool.and_eq_true, decide_eq_true_eq] at hz
    refine ⟨O, sk, ev, _, _, S, e1, fun v H1 S1 x1 d1 => ?_⟩
    obtain rfl := d1.int
    exact ⟨_, rfl, by omega, by omega, q _ H1 S1 x1 it_range⟩
  · cases e
theorem di_rng2 {t u : TE} (ht : t = tD X.K F own true Ea) (hu : u = tD X.K F own true Eb) (h : PI X tg a (iRng2 (tCons t (tCons u tNil)))) : PI X tg a (tI X.K F own top (rng2I Ea Eb)) := PI.conv h fun σ H Q ⟨O, sk, ev, ds, sk', S, e, q⟩ => by
  subst ht hu
  unfold rng2I at e
  split at e
  · rename_i e1
    split at e
    · rename_i e2
      split at e <;> cases e
      rename_i hz
      simp only [Bool.and_eq_true, decide_eq_true_eq] at hz
      refine ⟨O, sk, ev, _, _, S, e1, fun v H1 S1 x1 d1 => ⟨O, _, ev, _, _, S1, e2, fun v2 H2 S2 x2 d2 => ?_⟩⟩
      obtain rfl := d1.int
      obtain rfl := d2.int
      exact ⟨_, _, rfl, by omega, q _ H2 S2 (x1.trans x2) it_range⟩
    · cases e
  · cases e
theorem rev_get {ds : List D} {xs : List V} {K : PySem.W.Frag} {H : Hp} {O : Addr → Prop} (h : DFs K H O ds xs) {i : Nat} {d : D} (e : ds.reverse[i]? = some d) : i < xs.length ∧ ∃ x, xs[xs.length - 1 - i]? = some x ∧ DF K H O d x := by
  have hi : i < ds.reverse.length := (List.getElem?_eq_some_iff.mp e).1
  rw [List.length_reverse] at hi
  rw [List.getElem?_reverse hi] at e
  have hl := h.length
  refine ⟨by omega, ?_⟩
  obtain ⟨x, hx, dx⟩ := h.get e
  exact ⟨x, by rw [← hl]; exact hx, dx⟩
theorem di_rev {t : TE} (ht : t = tD X.K F own top Ea) (h : PI X tg a (iRevA X.K t)) : PI X tg a (tI X.K F own top (revI Ea)) := PI.conv h fun σ H Q ⟨O, sk, ev, ds, sk', S, e, q⟩ => by
  subst ht
  unfold revI at e
  split at e
  · rename_i e1
    cases e
    refine ⟨O, sk, ev, _, _, S, e1, fun v H1 S1 x1 d1 => ?_⟩
    obtain ⟨p, xs, rfl, hp, sp, st⟩ := d1.stays S1.ol
    refine ⟨p, xs, rfl, .inl ⟨.inl (.inl hp), q _ H1 S1 x1 fun O2 H2 z => ?_⟩⟩
    obtain ⟨hp2, sp2⟩ := st O2 H2 z
    have hq : SqL X.K H2 p xs := .inl (.inl hp2)
    refine ⟨fun i d hd => ?_, ?_⟩
    · obtain ⟨hi, x', hx', dx⟩ := rev_get sp2 hd
      refine ⟨walk_rev.goes i H2 hi hq, fun x H3 y => ?_⟩
      obtain ⟨e3, hx⟩ := walk_rev.yields i H2 x H3 hi hq y
      subst e3
      rw [hx] at hx'; cases hx'
      exact ⟨fun _ _ h => h, dx⟩
    · rw [List.length_reverse, sp2.length]; exact walk_rev.stops H2 hq
  · rename_i e1
    cases e
    refine ⟨O, sk, ev, _, _, S, e1, fun v H1 S1 x1 d1 => ?_⟩
    obtain ⟨p, xs, rfl, hp, sp, st⟩ := d1.stayT S1.ol
    refine ⟨p, xs, rfl, .inr ⟨hp, q _ H1 S1 x1 fun O2 H2 z => ?_⟩⟩
    obtain ⟨hq, sp2⟩ := st O2 H2 z
    refine ⟨fun i d hd => ?_, ?_⟩
    · obtain ⟨hi, x', hx', dx⟩ := rev_get sp2 hd
      refine ⟨⟨hi, xs, x', hq, hx'⟩, fun x H3 y => ?_⟩
      obtain ⟨e3, hx⟩ := y
      subst e3
      have hx2 := hx xs hq
      rw [hx'] at hx2; cases hx2
      exact ⟨fun _ _ h => h, dx⟩
    · rw [List.length_reverse, sp2.length]; exact Nat.le_refl _
  · cases e
theorem di_zip {t u : TE} (ht : t = tD X.K F own top Ea) (hu : u = tD X.K F own top Eb) (h : PI X tg a (iZipA X.K (tCons t (tCons u tNil)))) : PI X tg a (tI X.K F own top (zipI Ea Eb)) := PI.conv h fun σ H Q ⟨O, sk, ev, ds, sk', S, e, q⟩ => by
  subst ht hu
  have pairs : ∀ {K : PySem.W.Frag} {O2 : Addr → Prop} {H2 H3 : Hp} {T : Addr} {x y : V} {da db : D}, OL O2 H2 → H2 T = none → H3 = upd H2 T (.tup [x, y]) → DF K H2 O2 da x → DF K H2 O2 db y → Ex H2 H3 ∧ DF K H3 O2 (.tup [da, db]) (.ref T) := by
    intro K O2 H2 H3 T x y da db ol hT e3 dx dy
    subst e3
    exact ⟨Ex.new hT, T, [x, y], rfl, .inl (.inl upd_same), x, [y], rfl, dx.ex ol (Ex.new hT), y, [], rfl, dy.ex ol (Ex.new hT), rfl⟩
  unfold zipI at e
  split at e
  · rename_i e1
    split at e
    · rename_i e2
      cases e
      refine ⟨O, sk, ev, _, _, S, e1, fun v1 H1 S1 x1 d1 => ⟨O, _, ev, _, _, S1, e2, fun v2 H2 S2 x2 d2 => ?_⟩⟩
      obtain ⟨p1, xs, rfl, hp1, sp1, st1⟩ := (d1.xt S1.ol (S1.kp x2) x2).stays S2.ol
      obtain ⟨p2, ys, rfl, hp2, sp2, st2⟩ := d2.stays S2.ol
      refine ⟨p1, p2, xs, ys, rfl, .inl ⟨.inl (.inl hp1), .inl (.inl hp2), q _ H2 S2 (x1.trans x2) fun O3 H3 z => ?_⟩⟩
      obtain ⟨hq1, sq1⟩ := st1 O3 H3 z
      obtain ⟨hq2, sq2⟩ := st2 O3 H3 z
      have W := walk_zip (K := X.K) (a := p1) (b := p2) (xs := xs) (ys := ys) rfl
      have G : SqL X.K H3 p1 xs ∧ SqL X.K H3 p2 ys := ⟨.inl (.inl hq1), .inl (.inl hq2)⟩
      refine ⟨fun i d hd => ?_, ?_⟩
      · obtain ⟨da, db, ha, hb, rfl⟩ := zipL_get _ _ i d hd
        have h1 := sq1.lt ha
        have h2 := sq2.lt hb
        refine ⟨W.goes i H3 (by omega) G, fun x H4 y => ?_⟩
        obtain ⟨T, x0, y0, rfl, hT, e4, hx, hy⟩ := W.yields i H3 x H4 (by omega) G y
        obtain ⟨x', hx', dx⟩ := sq1.get ha
        obtain ⟨y', hy', dy⟩ := sq2.get hb
        have hx2 : xs[i]? = some x0 := hx
        have hy2 : ys[i]? = some y0 := hy
        rw [hx2] at hx'; cases hx'
        rw [hy2] at hy'; cases hy'
        exact pairs z.2.2.2 hT e4 dx dy
      · rw [zipL_length, sq1.length, sq2.length]; exact W.stops H3 G
    · cases e
  · rename_i e1
    split at e
    · rename_i e2
      cases e
      refine ⟨O, sk, ev, _, _, S, e1, fun v1 H1 S1 x1 d1 => ⟨O, _, ev, _, _, S1, e2, fun v2 H2 S2 x2 d2 => ?_⟩⟩
      obtain ⟨p1, xs, rfl, hp1, sp1, st1⟩ := (d1.xt S1.ol (S1.kp x2) x2).stayT S2.ol
      obtain ⟨p2, ys, rfl, hp2, sp2, st2⟩ := d2.stayT S2.ol
      refine ⟨p1, p2, xs, ys, rfl, .inr ⟨hp1, hp2, q _ H2 S2 (x1.trans x2) fun O3 H3 z => ?_⟩⟩
      obtain ⟨hq1, sq1⟩ := st1 O3 H3 z
      obtain ⟨hq2, sq2⟩ := st2 O3 H3 z
      refine ⟨fun i d hd => ?_, ?_⟩
      · obtain ⟨da, db, ha, hb, rfl⟩ := zipL_get _ _ i d hd
        obtain ⟨x', hx', dx⟩ := sq1.get ha
        obtain ⟨y', hy', dy⟩ := sq2.get hb
        refine ⟨⟨xs, ys, x', y', hq1, hq2, hx', hy'⟩, fun x H4 y => ?_⟩
        obtain ⟨T, x0, y0, rfl, hT, e4, hx, hy⟩ := y
        have hx2 := hx xs hq1
        have hy2 := hy ys hq2
        rw [hx2] at hx'; cases hx'
        rw [hy2] at hy'; cases hy'
        exact pairs z.2.2.2 hT e4 dx dy
      · refine ⟨xs, ys, hq1, hq2, ?_⟩
        rw [zipL_length, sq1.length, sq2.length]
        omega
    · cases e
  · cases e
end
end Dn
namespace Dn
open PySem PySem.Spec PyProof.Rows L2
/-! ### list comprehensions -/
def wipeV (ev : VE) : List Nat → VE
  | [] => ev
  | v :: vs => (wipeV ev vs).set v none
theorem wipeV_some {ev : VE} {i : Nat} {x : D} : ∀ {vs : List Nat}, (wipeV ev vs)[i]? = some (some x) → ev[i]? = some (some x) ∧ i ∉ vs
  | [], h => ⟨h, by simp⟩
  | v :: vs, h => by
    unfold wipeV at h
    by_cases hi : v = i
    · subst hi
      by_cases hv : v < (wipeV ev vs).length
      · rw [List.getElem?_set_self hv] at h; cases h
      · rw [List.getElem?_eq_none (by simpa using hv)] at h; cases h
    · rw [List.getElem?_set_ne hi] at h
      obtain ⟨h1, h2⟩ := wipeV_some h
      exact ⟨h1, by simp only [List.mem_cons, not_or]; exact ⟨fun e => hi e.symm, h2⟩⟩
theorem wipeV_length (ev : VE) : ∀ vs : List Nat, (wipeV ev vs).length = ev.length
  | [] => rfl
  | v :: vs => by unfold wipeV; rw [List.length_set, wipeV_length ev vs]
theorem wipe_in {σ : L2.St} {i : Nat} : ∀ {vs : List Nat}, i ∈ vs → i < σ.length → (wipe σ vs)[i]? = some none
  | [], h, _ => nomatch h
  | v :: vs, h, hl => by
    unfold wipe
    by_cases hi : v = i
    · subst hi
      rw [List.getElem?_set_self (by rw [wipe_length]; exact hl)]
    · rw [List.getElem?_set_ne hi]
      exact wipe_in ((List.mem_cons.mp h).resolve_left (fun z => hi z.symm)) hl
theorem wipe_tg {σ σ2 : L2.St} {ts vs : List Nat} (h : Tg ts (wipe σ vs) σ2) (hs : ∀ i ∈ ts, i ∈ vs) : wipe σ2 vs = wipe σ vs := by
  have hl : σ2.length = σ.length := h.1.trans (wipe_length σ vs)
  apply List.ext_getElem?
  intro i
  by_cases hi : i ∈ vs
  · by_cases hlt : i < σ.length
    · rw [wipe_in hi hlt, wipe_in hi (by omega)]
    · rw [List.getElem?_eq_none (by rw [wipe_length]; omega), List.getElem?_eq_none (by rw [wipe_length]; omega)]
  · rw [wipe_out hi, h.2 i fun z => hi (hs i z)]
section
variable {K : PySem.W.Frag} {F : Fm} {own : List Nat} {O : Addr → Prop} {H H2 : Hp} {σ σ2 : L2.St} {sk sk2 : D} {ev ev2 : VE}
theorem SR.wiped (S : SR K F own O H σ sk ev) (vs : List Nat) (h0 : F.io = none ∨ 0 ∉ vs) : SR K F own O H (wipe σ vs) sk (wipeV ev vs) := by
  refine ⟨by rw [wipeV_length, wipe_length]; exact S.len, fun i d hd ni => ?_, fun i d hd hi => ?_, fun i j d e a hi hj h1 h2 h3 h4 => ?_, S.ol, S.pres, S.o0, S.ow, S.ol0, fun a ha => ?_⟩
  · obtain ⟨h1, h2⟩ := wipeV_some hd
    rw [wipe_out h2]
    exact S.val i d h1 ni
  · obtain ⟨h1, h2⟩ := wipeV_some hd
    rw [wipe_out h2]
    exact S.ownd i d h1 hi
  · obtain ⟨k1, k2⟩ := wipeV_some h1
    obtain ⟨k3, k4⟩ := wipeV_some h2
    rw [wipe_out k2] at h3
    rw [wipe_out k4] at h4
    exact S.inj i j d e a hi hj k1 k3 h3 h4
  · obtain ⟨h1, h2, h3⟩ := S.sack a ha
    refine ⟨h1, ?_, h3⟩
    rw [wipe_out fun z => ?_]
    · exact h2
    · rcases h0 with q | q
      · rw [ha] at q; cases q
      · exact q z
/-- the names as before, the heap and the sack as later -/
theorem SR.back (S : SR K F own O H σ sk ev) (S2 : SR K F own O H2 σ2 sk2 ev2) (x : Xt F H H2) : SR K F own O H2 σ sk2 ev :=
  S.step x (fun _ h => h) (fun _ h => .inl h) fun a ha => (S2.sack a ha).2.2
/-- an owned list that is no name's changes -/
theorem SR.mut (S : SR K F own O H σ sk ev) {a : Addr} {ys : List V} (ha : O a) (hio : F.io ≠ some a) (h0 : F.H0 a = none) (hn : ∀ i d, i ∈ own → ev[i]? = some (some d) → σ[i]? ≠ some (some (.ref a))) : SR K F own O (upd H a (.lst ys)) σ sk ev := by
  have k : Kp O H (upd H a (.lst ys)) := fun b o nb h => by
    rw [upd_ne (fun z => nb (by rw [z]; exact ha))]; exact h
  refine ⟨S.len, fun i d hd ni => ?_, fun i d hd hi => ?_, S.inj, fun b hb => ?_, fun b o e ne => ?_, S.o0, S.ow, S.ol0, fun b hb => ?_⟩
  · obtain ⟨v, h1, h2⟩ := S.val i d hd ni
    exact ⟨v, h1, DF.mono S.ol k .refl d v h2⟩
  · obtain ⟨b, xs, ds, h1, h2, h3, h4, h5, h6⟩ := S.ownd i d hd hi
    refine ⟨b, xs, ds, h1, h2, ?_, h4, h5, DFs.mono S.ol k .refl ds xs h6⟩
    rw [upd_ne (fun z => hn i d hi hd (by rw [← z]; exact h2))]
    exact h3
  · by_cases z : b = a
    · rw [z]; exact ⟨ys, upd_same⟩
    · rw [upd_ne z]; exact S.ol b hb
  · rw [upd_ne (fun z => by rw [z, h0] at e; cases e)]
    exact S.pres b o e ne
  · obtain ⟨h1, h2, xs, ds, h3, h4, h5⟩ := S.sack b hb
    refine ⟨h1, h2, xs, ds, h3, ?_, DFs.mono S.ol k .refl ds xs h5⟩
    rw [upd_ne (fun z => hio (by rw [← z]; exact hb))]
    exact h4
end
def lcF (G : GF) (T : BF) (E : EF) : List D → D → VE → Option (List D × D)
  | [], sk, _ => some ([], sk)
  | d :: ds, sk, ev => match G d ev with
    | none => none
    | some ev1 => match T sk ev1 with
      | none => none
      | some (false, s1) => lcF G T E ds s1 ev
      | some (true, s1) => match E s1 ev1 with
        | none => none
        | some (x, s2) => match lcF G T E ds s2 ev with
          | none => none
          | some (xs, s3) => some (x :: xs, s3)
def lcE (I : IF_) (G : GF) (T : BF) (E : EF) (vs : List Nat) : EF := fun sk ev => match I sk ev with
  | none => none
  | some (ds, s1) => match lcF G T E ds s1 (wipeV ev vs) with
    | none => none
    | some (xs, s2) => if xs.length ≤ SZ then some (.lst xs, s2) else none
def yesB : BF := fun sk _ => some (true, sk)
theorem pts_yes {X : Cx} {F : Fm} {own : List Nat} : PTs X [] (tT X.K F own yesB) := by
  have h := pts_nil (X := X)
  obtain ⟨r⟩ := h
  constructor
  intros
  rename_i q
  obtain ⟨O, sk, ev, d, sk', S, e, q⟩ := q
  cases e
  exact r _ _ _ _ _ (by assumption) (q _ S .refl)
theorem lc_body {X : Cx} {F : Fm} {own vs ts : List Nat} {top : Bool} {G : GF} {T : BF} {E : EF} {O : Addr → Prop} {σ : L2.St} {H H1 : Hp} {ev : VE} {s1 s2 : D} {ds xs : List D} {J : It} {Q : VK} (hs : (ts.all fun i => vs.contains i) = true) (h0 : F.io = none ∨ 0 ∉ vs)
    (e2 : lcF G T E ds s1 (wipeV ev vs) = some (xs, s2)) (hz : xs.length ≤ SZ) (S1 : SR X.K F own O H1 σ s1 ev) (x1 : Xt F H H1) (it : ItOk X.K F top O H1 ds J)
    (q : ∀ (a : Addr) (ys : List V) (H' : Hp), SR X.K F own (fun b => O b ∨ b = a) H' σ s2 ev → Xt F H H' → H a = none → H1 a = none → H' a = some (.lst ys) → DFs X.K H' (fun b => O b ∨ b = a) xs ys → Q (.ref a) H') (hH : ∀ D, H1 D = none → H D = none) :
    ∀ D, H1 D = none → ∃ W : Nat → Nat → Hp → Prop, (∃ m, W 0 m (upd H1 D (.lst []))) ∧ ∀ i m H, W i m H →
      (J.stop i H ∧ Q (.ref D) H) ∨ (J.go i H ∧ ∃ Nx : Hp → Prop, (∀ H', Nx H' → ∃ m', m' < m ∧ W (i + 1) m' H') ∧ ∀ x H', J.yld i H x H' → tGd X.K F own ts G x (wipe σ vs) H' fun σ2 H2 => wipe σ2 vs = wipe σ vs ∧ tT X.K F own T σ2 H2 fun b H3 =>
        if b = true then tD X.K F own false E σ2 H3 fun y H4 => ∃ acc, H4 D = some (.lst acc) ∧ acc.length < sizeLine ∧ Nx (upd H4 D (.lst (acc ++ [y]))) else Nx H3) := by
  intro Dd hD
  have hts : ∀ i ∈ ts, i ∈ vs := fun i hi => List.contains_iff_mem.mp (List.all_eq_true.mp hs i hi)
  have S1p : SR X.K F own (fun b => O b ∨ b = Dd) (upd H1 Dd (.lst [])) σ s1 ev := S1.grow (Ex.new hD) hD upd_same
  have hio : F.io ≠ some Dd := fun z => S1.ol.not_none hD (S1.io_O z)
  have h00 : F.H0 Dd = none := S1.fresh0 hD
  have hns : ∀ i dd, i ∈ own → (wipeV ev vs)[i]? = some (some dd) → (wipe σ vs)[i]? ≠ some (some (.ref Dd)) := fun i dd hi he hw => by
    obtain ⟨k1, k2⟩ := wipeV_some he
    rw [wipe_out k2] at hw
    obtain ⟨a, ys, es, _, h2, h3, _⟩ := S1.ownd i dd k1 hi
    rw [h2] at hw; cases hw
    rw [hD] at h3; cases h3
  refine ⟨fun i m Hc => m + i = ds.length ∧ ∃ ski accs accd rest, SR X.K F own (fun b => O b ∨ b = Dd) Hc (wipe σ vs) ski (wipeV ev vs) ∧ Hc Dd = some (.lst accs) ∧ DFs X.K Hc (fun b => O b ∨ b = Dd) accd accs ∧
    lcF G T E (ds.drop i) ski (wipeV ev vs) = some (rest, s2) ∧ accd ++ rest = xs ∧ Xt F H1 Hc, ⟨ds.length, rfl, s1, [], [], xs, S1p.wiped vs h0, upd_same, rfl, e2, rfl, (Ex.new hD).xt⟩, ?_⟩
  rintro i m Hc ⟨hm, ski, accs, accd, rest, Sc, hDc, dacc, eF, ex, xc⟩
  have st : Stb top F O H1 (fun b => O b ∨ b = Dd) Hc := ⟨by split <;> first | exact xc | trivial, S1.kp xc, fun b z => z.elim .inl fun w => .inr (by rw [w]; exact hD), Sc.ol⟩
  obtain ⟨itg, its⟩ := it _ _ st
  cases hdr : ds.drop i with
  | nil =>
    rw [hdr] at eF
    cases eF
    have hi : i = ds.length := by
      have := congrArg List.length hdr
      rw [List.length_drop, List.length_nil] at this
      omega
    refine .inl ⟨by rw [hi]; exact its, ?_⟩
    rw [List.append_nil] at ex
    subst ex
    refine q Dd accs Hc (S1.step xc (fun _ h => .inl h) (fun b z => z.elim .inl fun w => .inr (by rw [w]; exact ⟨hD, accs, hDc⟩)) fun a ha => (Sc.sack a ha).2.2) (x1.trans xc) (hH Dd hD) hD hDc dacc
  | cons dd r =>
    have hi : ds[i]? = some dd := by
      have h := congrArg (fun l => l[0]?) hdr
      simpa using h
    have hr : ds.drop (i + 1) = r := by
      have h := congrArg List.tail hdr
      simpa using h
    obtain ⟨hgo, hy⟩ := itg i dd hi
    rw [hdr] at eF
    unfold lcF at eF
    split at eF
    · cases eF
    rename_i ev1 eG
    split at eF
    · cases eF
    · -- the test says no
      rename_i sA eT
      refine .inr ⟨hgo, fun H' => (m - 1) + (i + 1) = ds.length ∧ ∃ ski accs accd rest, SR X.K F own (fun b => O b ∨ b = Dd) H' (wipe σ vs) ski (wipeV ev vs) ∧ H' Dd = some (.lst accs) ∧ DFs X.K H' (fun b => O b ∨ b = Dd) accd accs ∧
        lcF G T E (ds.drop (i + 1)) ski (wipeV ev vs) = some (rest, s2) ∧ accd ++ rest = xs ∧ Xt F H1 H', fun H' n => ⟨m - 1, ?_, n⟩, fun x H' y => ?_⟩
      · have := (List.getElem?_eq_some_iff.mp hi).1
        omega
      · obtain ⟨ex', dx⟩ := hy x H' y
        have S' := Sc.ex ex'
        refine ⟨_, ski, _, dd, ev1, S', dx, eG, fun σ2 S2 tg => ⟨wipe_tg tg hts, _, ski, ev1, false, sA, S2, eT, fun H3 S3 x3 => iteF ⟨?_, sA, accs, accd, rest, S'.back S3 x3, x3 _ _ hio (ex' _ _ hDc), ?_, by rw [hr]; exact eF, ex, (xc.trans ex'.xt).trans x3⟩⟩⟩
        · have := (List.getElem?_eq_some_iff.mp hi).1
          omega
        · exact DFs.mono S'.ol (S'.kp x3) .refl _ _ (dacc.ex Sc.ol ex')
    · rename_i sA eT
      split at eF
      · cases eF
      rename_i y0 sB eE
      split at eF <;> cases eF
      rename_i xs' eR
      refine .inr ⟨hgo, fun H' => (m - 1) + (i + 1) = ds.length ∧ ∃ ski accs accd rest, SR X.K F own (fun b => O b ∨ b = Dd) H' (wipe σ vs) ski (wipeV ev vs) ∧ H' Dd = some (.lst accs) ∧ DFs X.K H' (fun b => O b ∨ b = Dd) accd accs ∧
        lcF G T E (ds.drop (i + 1)) ski (wipeV ev vs) = some (rest, s2) ∧ accd ++ rest = xs ∧ Xt F H1 H', fun H' n => ⟨m - 1, ?_, n⟩, fun x H' y => ?_⟩
      · have := (List.getElem?_eq_some_iff.mp hi).1
        omega
      · obtain ⟨ex', dx⟩ := hy x H' y
        have S' := Sc.ex ex'
        refine ⟨_, ski, _, dd, ev1, S', dx, eG, fun σ2 S2 tg => ⟨wipe_tg tg hts, _, ski, ev1, true, sA, S2, eT, fun H3 S3 x3 => iteT ⟨_, sA, ev1, y0, sB, S3, eE, fun v H4 S4 x4 dv => ?_⟩⟩⟩
        have x34 := x3.trans x4
        have hD4 := x34 _ _ hio (ex' _ _ hDc)
        have dacc4 : DFs X.K H4 (fun b => O b ∨ b = Dd) accd accs := DFs.mono S'.ol (S'.kp x34) .refl _ _ (dacc.ex Sc.ol ex')
        have hlen : accs.length < SZ := by
          rw [← dacc.length]
          have := congrArg List.length ex
          rw [List.length_append, List.length_cons] at this
          omega
        refine ⟨accs, hD4, sz_lt hlen, ?_, sB, accs ++ [v], accd ++ [y0], xs', (S'.back S4 x34).mut (.inr rfl) hio h00 hns, upd_same, ?_, by rw [hr]; exact eR, by rw [List.append_assoc]; exact ex, fun b o nb hb => ?_⟩
        · have := (List.getElem?_eq_some_iff.mp hi).1
          omega
        · have k : Kp (fun b => O b ∨ b = Dd) H4 (upd H4 Dd (.lst (accs ++ [v]))) := fun b o nb h => by
            rw [upd_ne (fun z => nb (.inr z))]; exact h
          exact DFs.mono S4.ol k .refl _ _ (dacc4.append (DFs.one dv.clean))
        · rw [upd_ne (fun z => by rw [z, hD] at hb; cases hb)]
          exact x34 b o nb (ex' b o (xc b o nb hb))
theorem lc_conv {X : Cx} {F : Fm} {own vs ts : List Nat} {top : Bool} {I : IF_} {G : GF} {T : BF} {E : EF} (hs : (ts.all fun i => vs.contains i) = true) (h0 : F.io = none ∨ 0 ∉ vs) :
    ∀ σ H Q, tN X.K F own (lcE I G T E vs) σ H Q → tLc (tI X.K F own top I) (tGd X.K F own ts G) (tT X.K F own T) (tD X.K F own false E) vs σ H Q := fun σ H Q ⟨O, sk, ev, d, sk', S, e, q⟩ => by
  unfold lcE at e
  split at e
  · cases e
  rename_i ds s1 e1
  split at e
  · cases e
  rename_i xs s2 e2
  split at e <;> cases e
  rename_i hz
  exact ⟨O, sk, ev, ds, s1, S, e1, fun J H1 S1 x1 it => lc_body hs h0 e2 hz S1 x1 it (fun a ys H' S' x hn _ ha hd => q a ys xs H' rfl S' x hn ha hd) fun Dd hD => S1.before x1 hD⟩
end Dn
namespace Dn
open PySem PySem.Spec PyProof.Rows L2
/-! ### statements -/
inductive Fl where
  | nx (sk : D) (ev : VE) | rt (sk d : D) | bk (sk : D) (ev : VE) | ct (sk : D) (ev : VE) | xc (x : Str) (sk : D) (ev : VE)
abbrev SF := D → VE → Option Fl
def SackOk (K : PySem.W.Frag) (F : Fm) (O : Addr → Prop) (H : Hp) (sk : D) : Prop := ∀ a, F.io = some a → ∃ xs ks, sk = .lst ks ∧ H a = some (.lst xs) ∧ DFs K H O ks xs
/-- what is handed back -/
def RtOk (K : PySem.W.Frag) (F : Fm) (fr : Bool) (sk d : D) (v : V) (H : Hp) : Prop := (∀ b o, F.H0 b = some o → F.io ≠ some b → H b = some o) ∧
  if fr = true then ∃ a xs ds, d = .lst ds ∧ v = .ref a ∧ F.H0 a = none ∧ H a = some (.lst xs) ∧ DFs K H (fun b => F.O0 b ∨ b = a) ds xs ∧ SackOk K F (fun b => F.O0 b ∨ b = a) H sk
  else DF K H F.O0 d v ∧ SackOk K F F.O0 H sk
def Fol (K : PySem.W.Frag) (F : Fm) (own' ol : List Nat) (fr : Bool) (O : Addr → Prop) (H : Hp) (Dn : Ends) : Fl → Prop
  | .nx sk ev => ∀ O' σ' H', SR K F own' O' H' σ' sk ev → Kp O H H' → Ow O H O' → Dn.nx σ' H'
  | .bk sk ev => ∀ O' σ' H', SR K F ol O' H' σ' sk ev → Kp O H H' → Ow O H O' → Dn.bk σ' H'
  | .ct sk ev => ∀ O' σ' H', SR K F ol O' H' σ' sk ev → Kp O H H' → Ow O H O' → Dn.ct σ' H'
  | .rt sk d => ∀ v H', RtOk K F fr sk d v H' → Dn.rt v H'
  | .xc x sk ev => ∀ O' σ' H', SR K F [] O' H' σ' sk ev → Kp O H H' → Ow O H O' → F.W x σ' H'
def tS (K : PySem.W.Frag) (F : Fm) (own own' ol : List Nat) (fr : Bool) (S : SF) : TS := fun Dn σ H => ∃ O sk ev f, SR K F own O H σ sk ev ∧ S sk ev = some f ∧ Fol K F own' ol fr O H Dn f
abbrev DS (X : Cx) (F : Fm) (own own' ol : List Nat) (fr : Bool) (st : Stmt) (S : SF) : Prop := PS X st (tS X.K F own own' ol fr S)
abbrev DSs (X : Cx) (F : Fm) (own own' ol : List Nat) (fr : Bool) (st : List Stmt) (S : SF) : Prop := PSs X st (tS X.K F own own' ol fr S)
def nxS : SF := fun sk ev => some (.nx sk ev)
def seqS (A B : SF) : SF := fun sk ev => match A sk ev with
  | some (.nx s1 e1) => B s1 e1
  | r => r
def neverS : SF := fun _ _ => none
def ifS (c : BF) (A B : SF) : SF := fun sk ev => match c sk ev with
  | some (true, s1) => A s1 ev
  | some (false, s1) => B s1 ev
  | none => none
def retS (E : EF) : SF := fun sk ev => match E sk ev with
  | some (d, s1) => some (.rt s1 d)
  | none => none
def dropS (E : EF) : SF := fun sk ev => match E sk ev with
  | some (_, s1) => some (.nx s1 ev)
  | none => none
def asgS (E : EF) (G : GF) : SF := fun sk ev => match E sk ev with
  | some (d, s1) => (match G d ev with
    | some ev1 => some (.nx s1 ev1)
    | none => none)
  | none => none
def par2S (i j : Nat) (E1 E2 : EF) : SF := fun sk ev => match E1 sk ev with
  | none => none
  | some (d1, s1) => match E2 s1 ev with
    | none => none
    | some (d2, s2) => some (.nx s2 ((ev.set i (some d1)).set j (some d2)))
def par3S (i j l : Nat) (E1 E2 E3 : EF) : SF := fun sk ev => match E1 sk ev with
  | none => none
  | some (d1, s1) => match E2 s1 ev with
    | none => none
    | some (d2, s2) => match E3 s2 ev with
      | none => none
      | some (d3, s3) => some (.nx s3 (((ev.set i (some d1)).set j (some d2)).set l (some d3)))
def forF (G : GF) (B : SF) : List D → D → VE → Option Fl
  | [], sk, ev => some (.nx sk ev)
  | d :: ds, sk, ev => match G d ev with
    | none => none
    | some ev1 => match B sk ev1 with
      | some (.nx s2 ev2) => forF G B ds s2 ev2
      | some (.ct s2 ev2) => forF G B ds s2 ev2
      | some (.bk s2 ev2) => some (.nx s2 ev2)
      | some (.rt s2 d2) => some (.rt s2 d2)
      | some (.xc x s2 ev2) => some (.xc x s2 ev2)
      | none => none
def forS (I : IF_) (G : GF) (B : SF) : SF := fun sk ev => match I sk ev with
  | none => none
  | some (ds, s1) => forF G B ds s1 ev
def whF (c : BF) (B : SF) : Nat → D → VE → Option Fl
  | 0, _, _ => none
  | n + 1, sk, ev => match c sk ev with
    | none => none
    | some (false, s1) => some (.nx s1 ev)
    | some (true, s1) => match B s1 ev with
      | some (.nx s2 ev2) => whF c B n s2 ev2
      | some (.ct s2 ev2) => whF c B n s2 ev2
      | some (.bk s2 ev2) => some (.nx s2 ev2)
      | some (.rt s2 d2) => some (.rt s2 d2)
      | some (.xc x s2 ev2) => some (.xc x s2 ev2)
      | none => none
abbrev fuel : Nat := 1000000
def whS (c : BF) (B : SF) : SF := fun sk ev => whF c B fuel sk ev
def appS (i : Nat) (E : EF) : SF := fun sk ev => match E sk ev with
  | none => none
  | some (d, s1) => match ev[i]? with
    | some (some (.lst ds)) => if ds.length < SZ then some (.nx s1 (ev.set i (some (.lst (ds ++ [d]))))) else none
    | _ => none
def setS (i : Nat) (Ei Ev : EF) : SF := fun sk ev => match Ev sk ev with
  | none => none
  | some (d, s1) => match Ei s1 ev with
    | some (.int k, s2) => (match ev[i]? with
      | some (some (.lst ds)) => (match ixN ds.length k with
        | some j => some (.nx s2 (ev.set i (some (.lst (ds.set j d)))))
        | none => none)
      | _ => none)
    | _ => none
/-- target = name.pop() -/
def popS (i : Nat) (G : GF) : SF := fun sk ev => match ev[i]? with
  | some (some (.lst ds)) => (match ds[ds.length - 1]? with
    | some d => (match G d (ev.set i (some (.lst ds.dropLast))) with
      | some ev1 => some (.nx sk ev1)
      | none => none)
    | none => none)
  | _ => none
/-- target = name.pop(e) -/
def popAtS (i : Nat) (E : EF) (G : GF) : SF := fun sk ev => match E sk ev with
  | some (.int k, s1) => (match ev[i]? with
    | some (some (.lst ds)) => (match (if decide (-1000000 ≤ k) && decide (k ≤ 1000000) then ixN ds.length k else none) with
      | some j => (match ds[j]? with
        | some d => (match G d (ev.set i (some (.lst (ds.eraseIdx j)))) with
          | some ev1 => some (.nx s1 ev1)
          | none => none)
        | none => none)
      | none => none)
    | _ => none)
  | _ => none
section
variable {K : PySem.W.Frag} {F : Fm} {own own' own2 ol : List Nat} {fr : Bool} {O O' O2 : Addr → Prop} {H H' H2 : Hp} {σ : L2.St} {sk : D} {ev : VE} {Dn : Ends}
/-- what follows from a later state follows from an earlier one -/
theorem Fol.back (k : Kp O H H') (o : Ow O H O') : ∀ {f : Fl}, Fol K F own' ol fr O H Dn f → Fol K F own' ol fr O' H' Dn f
  | .nx _ _, q => fun O2 σ2 H2 S k2 o2 => q O2 σ2 H2 S (k.trans o k2) (o.trans k o2)
  | .bk _ _, q => fun O2 σ2 H2 S k2 o2 => q O2 σ2 H2 S (k.trans o k2) (o.trans k o2)
  | .ct _ _, q => fun O2 σ2 H2 S k2 o2 => q O2 σ2 H2 S (k.trans o k2) (o.trans k o2)
  | .rt _ _, q => q
  | .xc _ _ _, q => fun O2 σ2 H2 S k2 o2 => q O2 σ2 H2 S (k.trans o k2) (o.trans k o2)
/-- names let go -/
theorem SR.freeze (S : SR K F own O H σ sk ev) (hs : ∀ i, i ∈ own2 → i ∈ own) : ∃ O2, SR K F own2 O2 H σ sk ev ∧ ∀ b, O2 b → O b := by
  have h0 : ∀ a, F.O0 a → F.H0 a ≠ none := fun a h z => by
    obtain ⟨_, q⟩ := S.ol0 a h
    rw [z] at q; cases q
  refine ⟨fun b => O b ∧ ¬ ∃ i d, i ∈ own ∧ i ∉ own2 ∧ ev[i]? = some (some d) ∧ σ[i]? = some (some (.ref b)), ⟨S.len, fun i d hd ni => ?_, fun i d hd hi => ?_, fun i j d e a hi hj => S.inj i j d e a (hs i hi) (hs j hj), fun a h => S.ol a h.1, S.pres, fun a h => ⟨S.o0 a h, ?_⟩, fun a h => S.ow a h.1, S.ol0, fun a ha => ?_⟩, fun _ h => h.1⟩
  · have ow : Ow O H (fun b => O b ∧ ¬ ∃ i d, i ∈ own ∧ i ∉ own2 ∧ ev[i]? = some (some d) ∧ σ[i]? = some (some (.ref b))) := fun b h => .inl h.1
    by_cases hi : i ∈ own
    · obtain ⟨a, xs, ds, rfl, h2, h3, h4, h5, h6⟩ := S.ownd i d hd hi
      exact ⟨_, h2, a, xs, rfl, ⟨h3, fun z => z.2 ⟨i, _, hi, ni, hd, h2⟩⟩, DFs.mono S.ol .refl ow ds xs h6⟩
    · obtain ⟨v, h1, h2⟩ := S.val i d hd hi
      exact ⟨v, h1, DF.mono S.ol .refl ow d v h2⟩
  · have ow : Ow O H (fun b => O b ∧ ¬ ∃ i d, i ∈ own ∧ i ∉ own2 ∧ ev[i]? = some (some d) ∧ σ[i]? = some (some (.ref b))) := fun b h => .inl h.1
    obtain ⟨a, xs, ds, h1, h2, h3, h4, h5, h6⟩ := S.ownd i d hd (hs i hi)
    refine ⟨a, xs, ds, h1, h2, h3, ⟨h4, fun ⟨j, e, hj, nj, h7, h8⟩ => ?_⟩, h5, DFs.mono S.ol .refl ow ds xs h6⟩
    have z := S.inj i j d e a (hs i hi) hj hd h7 h2 h8
    exact nj (z ▸ hi)
  · rintro ⟨i, d, hi, _, h7, h8⟩
    obtain ⟨b, xs, ds, _, h2, _, _, h5, _⟩ := S.ownd i d h7 hi
    rw [h8] at h2; cases h2
    exact h0 a h h5
  · have ow : Ow O H (fun b => O b ∧ ¬ ∃ i d, i ∈ own ∧ i ∉ own2 ∧ ev[i]? = some (some d) ∧ σ[i]? = some (some (.ref b))) := fun b h => .inl h.1
    obtain ⟨h1, h2, xs, ds, h3, h4, h5⟩ := S.sack a ha
    exact ⟨h1, h2, xs, ds, h3, h4, DFs.mono S.ol .refl ow ds xs h5⟩
end
def subO (a b : List Nat) : Bool := a.all fun i => b.contains i
theorem subO_of {a b : List Nat} (h : subO a b = true) : ∀ i, i ∈ a → i ∈ b := fun i hi => List.contains_iff_mem.mp (List.all_eq_true.mp h i hi)
section
variable {X : Cx} {F : Fm} {own own' own2 ol : List Nat} {fr : Bool} {st : Stmt} {sts : List Stmt} {A B : SF} {pos : Pos}
theorem pre_conv (h : subO own2 own = true) : ∀ Dn σ H, tS X.K F own own' ol fr A Dn σ H → tS X.K F own2 own' ol fr A Dn σ H := fun Dn σ H ⟨O, sk, ev, f, S, e, q⟩ => by
  obtain ⟨O2, S2, hO⟩ := S.freeze (subO_of h)
  refine ⟨O2, sk, ev, f, S2, e, ?_⟩
  cases f with
  | nx _ _ => exact fun O' σ' H' S' k o => q O' σ' H' S' (fun b u n z => k b u (fun w => n (hO b w)) z) fun b z => (o b z).elim (fun w => .inl (hO b w)) .inr
  | bk _ _ => exact fun O' σ' H' S' k o => q O' σ' H' S' (fun b u n z => k b u (fun w => n (hO b w)) z) fun b z => (o b z).elim (fun w => .inl (hO b w)) .inr
  | ct _ _ => exact fun O' σ' H' S' k o => q O' σ' H' S' (fun b u n z => k b u (fun w => n (hO b w)) z) fun b z => (o b z).elim (fun w => .inl (hO b w)) .inr
  | rt _ _ => exact q
  | xc _ _ _ => exact fun O' σ' H' S' k o => q O' σ' H' S' (fun b u n z => k b u (fun w => n (hO b w)) z) fun b z => (o b z).elim (fun w => .inl (hO b w)) .inr
theorem post_conv (h : subO own' own2 = true) : ∀ Dn σ H, tS X.K F own own' ol fr A Dn σ H → tS X.K F own own2 ol fr A Dn σ H := fun Dn σ H ⟨O, sk, ev, f, S, e, q⟩ => by
  refine ⟨O, sk, ev, f, S, e, ?_⟩
  cases f with
  | nx _ _ =>
    intro O' σ' H' S' k o
    obtain ⟨O2, S2, hO⟩ := S'.freeze (subO_of h)
    exact q O2 σ' H' S2 k fun b z => o b (hO b z)
  | bk _ _ => exact q
  | ct _ _ => exact q
  | rt _ _ => exact q
  | xc _ _ _ => exact q
/-- ahead of a statement names are let go -/
theorem ds_pre (h : DS X F own2 own' ol fr st A) (hs : subO own2 own = true := by rfl) : DS X F own own' ol fr st A := PS.conv h (pre_conv hs)
theorem dss_pre (h : DSs X F own2 own' ol fr sts A) (hs : subO own2 own = true := by rfl) : DSs X F own own' ol fr sts A := PSs.conv h (pre_conv hs)
/-- .. behind it -/
theorem ds_post (h : DS X F own own2 ol fr st A) (hs : subO own' own2 = true := by rfl) : DS X F own own' ol fr st A := PS.conv h (post_conv hs)
theorem dss_post (h : DSs X F own own2 ol fr sts A) (hs : subO own' own2 = true := by rfl) : DSs X F own own' ol fr sts A := PSs.conv h (post_conv hs)
theorem dss_nil : DSs X F own own ol fr [] nxS := PSs.conv pss_nil fun Dn σ H ⟨O, sk, ev, f, S, e, q⟩ => by
  cases e
  exact q O σ H S .refl .refl
theorem dss_cons (h : DS X F own own2 ol fr st A) (h' : DSs X F own2 own' ol fr sts B) : DSs X F own own' ol fr (st :: sts) (seqS A B) := PSs.conv (pss_cons h h') fun Dn σ H ⟨O, sk, ev, f, S, e, q⟩ => by
  unfold seqS at e
  split at e
  · rename_i s1 e1 hA
    exact ⟨O, sk, ev, _, S, hA, fun O' σ' H' S' k o => ⟨O', s1, e1, f, S', e, q.back k o⟩⟩
  · rename_i hn
    refine ⟨O, sk, ev, f, S, e, ?_⟩
    cases f with
    | nx s1 e1 => exact absurd e (hn s1 e1)
    | bk _ _ => exact q
    | ct _ _ => exact q
    | rt _ _ => exact q
    | xc _ _ _ => exact q
theorem dss_one (h : DS X F own own' ol fr st A) : DSs X F own own' ol fr [st] A := pss_one h
theorem ds_pass : DS X F own own ol fr (.Pass pos) nxS := PS.conv ps_pass fun Dn σ H ⟨O, sk, ev, f, S, e, q⟩ => by
  cases e
  exact q O σ H S .refl .refl
theorem ds_break : DS X F ol own' ol fr (.Break pos) (fun sk ev => some (.bk sk ev)) := PS.conv ps_break fun Dn σ H ⟨O, sk, ev, f, S, e, q⟩ => by
  cases e
  exact q O σ H S .refl .refl
theorem ds_cont : DS X F ol own' ol fr (.Continue pos) (fun sk ev => some (.ct sk ev)) := PS.conv ps_continue fun Dn σ H ⟨O, sk, ev, f, S, e, q⟩ => by
  cases e
  exact q O σ H S .refl .refl
/-- never come to -/
theorem ds_never : DS X F own own' ol fr st neverS := PS.conv ps_never fun Dn σ H ⟨O, sk, ev, f, S, e, q⟩ => nomatch e
variable {e c : Expr} {E : EF} {Bc : BF} {bd el : List Stmt}
theorem ds_if (hc : DT X F own c Bc) (ha : DSs X F own own' ol fr bd A) (hb : DSs X F own own' ol fr el B) : DS X F own own' ol fr (.If c bd el pos) (ifS Bc A B) := PS.conv (ps_if hc ha hb) fun Dn σ H ⟨O, sk, ev, f, S, e, q⟩ => by
  unfold ifS at e
  split at e
  · rename_i s1 e1
    exact ⟨O, sk, ev, _, s1, S, e1, fun H' S' x' => iteT ⟨O, s1, ev, f, S', e, q.back (S.kp x') .refl⟩⟩
  · rename_i s1 e1
    exact ⟨O, sk, ev, _, s1, S, e1, fun H' S' x' => iteF ⟨O, s1, ev, f, S', e, q.back (S.kp x') .refl⟩⟩
  · cases e
theorem SR.rt {K : PySem.W.Frag} {O : Addr → Prop} {H : Hp} {σ : L2.St} {sk d : D} {ev : VE} {v : V} (S : SR K F own O H σ sk ev) (hd : DF K H O d v) : RtOk K F false sk d v H := by
  have ow : Ow O H F.O0 := fun b h => .inl (S.o0 b h)
  refine ⟨S.pres, ?_⟩
  rw [if_neg Bool.false_ne_true]
  refine ⟨DF.mono S.ol .refl ow d v hd, fun a ha => ?_⟩
  obtain ⟨_, _, xs, ks, h1, h2, h3⟩ := S.sack a ha
  exact ⟨xs, ks, h1, h2, DFs.mono S.ol .refl ow ks xs h3⟩
theorem ds_ret (h : DE X F own false e E) : DS X F own own' ol false (.Return (some e) pos) (retS E) := PS.conv (ps_ret h) fun Dn σ H ⟨O, sk, ev, f, S, e, q⟩ => by
  unfold retS at e
  split at e <;> cases e
  rename_i d s1 e1
  exact ⟨O, sk, ev, d, s1, S, e1, fun v H' S' x' dv => q v H' (S'.rt dv.clean)⟩
theorem SR.rtN {K : PySem.W.Frag} {O : Addr → Prop} {H : Hp} {σ : L2.St} {sk : D} {ev : VE} {a : Addr} {xs : List V} {ds : List D} (S : SR K F own O H σ sk ev) (ho : O a) (h0 : F.H0 a = none) (ha : H a = some (.lst xs)) (hd : DFs K H O ds xs) : RtOk K F true sk (.lst ds) (.ref a) H := by
  have ow : Ow O H (fun b => F.O0 b ∨ b = a) := fun b h => h.elim (fun z => .inl (S.o0 b z)) fun z => .inl (by rw [z]; exact ho)
  refine ⟨S.pres, ?_⟩
  rw [if_pos rfl]
  refine ⟨a, xs, ds, rfl, rfl, h0, ha, DFs.mono S.ol .refl ow ds xs hd, fun b hb => ?_⟩
  obtain ⟨_, _, ys, ks, h1, h2, h3⟩ := S.sack b hb
  exact ⟨ys, ks, h1, h2, DFs.mono S.ol .refl ow ks ys h3⟩
theorem ds_retN (h : DN X F own e E) : DS X F own own' ol true (.Return (some e) pos) (retS E) := PS.conv (ps_ret h) fun Dn σ H ⟨O, sk, ev, f, S, e, q⟩ => by
  unfold retS at e
  split at e <;> cases e
  rename_i d s1 e1
  refine ⟨O, sk, ev, d, s1, S, e1, fun a xs ds H' hd S' x' hn ha dv => q _ H' ?_⟩
  subst hd
  exact S'.rtN (.inr rfl) (S.fresh0 hn) ha dv
/-- an owned name is handed back -/
theorem ds_retO {i : Nat} (h : PE X e (tVar i)) (hi : own.contains i = true := by rfl) : DS X F own own' ol true (.Return (some e) pos) (retS (varE i)) := PS.conv (ps_ret h) fun Dn σ H ⟨O, sk, ev, f, S, e, q⟩ => by
  unfold retS varE at e
  split at e <;> cases e
  rename_i e1
  split at e1 <;> cases e1
  rename_i hd
  obtain ⟨p, xs, ds, rfl, hv, hp, ho, h0, hs⟩ := S.ownd i _ hd (List.contains_iff_mem.mp hi)
  exact ⟨_, hv, q _ H (S.rtN ho h0 hp hs)⟩
theorem ds_drop (h : DE X F own false e E) (hs : swapsWith e none pos.line X.env = pure false := by rfl) : DS X F own own ol fr (.Expr e pos) (dropS E) := PS.conv (ps_expr h hs) fun Dn σ H ⟨O, sk, ev, f, S, e, q⟩ => by
  unfold dropS at e
  split at e <;> cases e
  rename_i d s1 e1
  exact ⟨O, sk, ev, d, s1, S, e1, fun v H' S' x' dv => q O σ H' S' (S.kp x') .refl⟩
end
end Dn
namespace Dn
open PySem PySem.Spec PyProof.Rows L2
def delO (i : Nat) (own : List Nat) : List Nat := own.filter fun j => !(j == i)
def addO (i : Nat) (own : List Nat) : List Nat := i :: delO i own
def kO (k : Bool) (i : Nat) (own : List Nat) : List Nat := if k = true then addO i own else own
theorem mem_delO {i j : Nat} {own : List Nat} : j ∈ delO i own ↔ j ∈ own ∧ j ≠ i := by
  unfold delO
  rw [List.mem_filter]
  simp
theorem mem_addO {i j : Nat} {own : List Nat} : j ∈ addO i own ↔ j = i ∨ j ∈ own := by
  unfold addO
  rw [List.mem_cons, mem_delO]
  by_cases h : j = i <;> simp [h]
section
variable {K : PySem.W.Frag} {F : Fm} {own : List Nat} {O : Addr → Prop} {H : Hp} {σ : L2.St} {sk : D} {ev : VE}
/-- an owned list put at a slot -/
theorem SR.putO (S : SR K F own O H σ sk ev) {i : Nat} {a : Addr} {xs : List V} {ds : List D} (h0 : F.io = none ∨ i ≠ 0) (ho : O a) (hz : F.H0 a = none) (ha : H a = some (.lst xs)) (hd : DFs K H O ds xs)
    (hn : ∀ j d, j ∈ own → j ≠ i → ev[j]? = some (some d) → σ[j]? ≠ some (some (.ref a))) : SR K F (addO i own) O H (σ.set i (some (.ref a))) sk (ev.set i (some (.lst ds))) := by
  have back : ∀ {j e}, j ≠ i → (ev.set i (some (.lst ds)))[j]? = some (some e) → ev[j]? = some (some e) := fun {j e} h z => by rwa [List.getElem?_set_ne (Ne.symm h)] at z
  have fwd : ∀ {j e}, j ≠ i → σ[j]? = e → (σ.set i (some (.ref a)))[j]? = e := fun {j e} h z => by rwa [List.getElem?_set_ne (Ne.symm h)]
  have here : ∀ {e}, (ev.set i (some (.lst ds)))[i]? = some (some e) → e = .lst ds ∧ (σ.set i (some (.ref a)))[i]? = some (some (.ref a)) := fun {e} z => by
    by_cases hl : i < ev.length
    · rw [List.getElem?_set_self hl] at z
      cases z
      exact ⟨rfl, List.getElem?_set_self (by rw [← S.len]; exact hl)⟩
    · rw [List.getElem?_eq_none (by simpa using hl)] at z; cases z
  refine ⟨by simp [S.len], fun j e hj nj => ?_, fun j e hj hj' => ?_, fun j k e f b hj hk h1 h2 h3 h4 => ?_, S.ol, S.pres, S.o0, S.ow, S.ol0, fun b hb => ?_⟩
  · rw [mem_addO, not_or] at nj
    obtain ⟨w, h1, h2⟩ := S.val j e (back nj.1 hj) nj.2
    exact ⟨w, fwd nj.1 h1, h2⟩
  · by_cases z : j = i
    · subst z
      obtain ⟨rfl, h2⟩ := here hj
      exact ⟨a, xs, ds, rfl, h2, ha, ho, hz, hd⟩
    · have hj2 := (mem_addO.mp hj').resolve_left z
      obtain ⟨b, ys, es, h1, h2, h3⟩ := S.ownd j e (back z hj) hj2
      exact ⟨b, ys, es, h1, fwd z h2, h3⟩
  · by_cases zj : j = i
    · by_cases zk : k = i
      · rw [zj, zk]
      · subst zj
        obtain ⟨_, h5⟩ := here h1
        rw [h5] at h3; cases h3
        rw [List.getElem?_set_ne (Ne.symm zk)] at h2 h4
        exact absurd h4 (hn k f ((mem_addO.mp hk).resolve_left zk) zk h2)
    · rw [List.getElem?_set_ne (Ne.symm zj)] at h1 h3
      by_cases zk : k = i
      · subst zk
        obtain ⟨_, h5⟩ := here h2
        rw [h5] at h4; cases h4
        exact absurd h3 (hn j e ((mem_addO.mp hj).resolve_left zj) zj h1)
      · rw [List.getElem?_set_ne (Ne.symm zk)] at h2 h4
        exact S.inj j k e f b ((mem_addO.mp hj).resolve_left zj) ((mem_addO.mp hk).resolve_left zk) h1 h2 h3 h4
  · obtain ⟨h1, h2, h3⟩ := S.sack b hb
    refine ⟨h1, fwd (fun z => ?_) h2, h3⟩
    rcases h0 with q | q
    · rw [hb] at q; cases q
    · exact q z.symm
/-- the list of an owned name changes -/
theorem SR.setO (S : SR K F own O H σ sk ev) {i : Nat} {a : Addr} {ds es : List D} {ys : List V} (hi : i ∈ own) (he : ev[i]? = some (some (.lst ds))) (hs : σ[i]? = some (some (.ref a))) (hd : DFs K H O es ys) :
    SR K F own O (upd H a (.lst ys)) σ sk (ev.set i (some (.lst es))) := by
  obtain ⟨a', xs, ds', _, h2, h3, h4, h5, h6⟩ := S.ownd i _ he hi
  rw [hs] at h2; cases h2
  have hil : i < ev.length := (List.getElem?_eq_some_iff.mp he).1
  have k : Kp O H (upd H a (.lst ys)) := fun b o nb h => by
    rw [upd_ne (fun z => nb (by rw [z]; exact h4))]; exact h
  have back : ∀ {j e}, j ≠ i → (ev.set i (some (.lst es)))[j]? = some (some e) → ev[j]? = some (some e) := fun {j e} h z => by rwa [List.getElem?_set_ne (Ne.symm h)] at z
  refine ⟨by simp [S.len], fun j e hj nj => ?_, fun j e hj hj' => ?_, fun j l e f b hj hl h1 h2 h3 h4 => ?_, fun b hb => ?_, fun b o e ne => ?_, S.o0, S.ow, S.ol0, fun b hb => ?_⟩
  · have ji : j ≠ i := fun z => nj (z ▸ hi)
    obtain ⟨v, h1, h2⟩ := S.val j e (back ji hj) nj
    exact ⟨v, h1, DF.mono S.ol k .refl e v h2⟩
  · by_cases z : j = i
    · subst z
      rw [List.getElem?_set_self hil] at hj
      cases hj
      exact ⟨a, ys, es, rfl, hs, upd_same, h4, h5, DFs.mono S.ol k .refl es ys hd⟩
    · obtain ⟨b, zs, fs, h7, h8, h9, h10, h11, h12⟩ := S.ownd j e (back z hj) hj'
      refine ⟨b, zs, fs, h7, h8, ?_, h10, h11, DFs.mono S.ol k .refl fs zs h12⟩
      rw [upd_ne (fun w => z (S.inj j i e _ a hj' hi (back z hj) he (by rw [h8, w]) hs))]
      exact h9
  · have g : ∀ {j e}, (ev.set i (some (.lst es)))[j]? = some (some e) → ∃ e', ev[j]? = some (some e') := fun {j e} z => by
      by_cases w : j = i
      · exact ⟨_, by rw [w]; exact he⟩
      · exact ⟨e, back w z⟩
    obtain ⟨e', h1'⟩ := g h1
    obtain ⟨f', h2'⟩ := g h2
    exact S.inj j l e' f' b hj hl h1' h2' h3 h4
  · by_cases z : b = a
    · rw [z]; exact ⟨ys, upd_same⟩
    · rw [upd_ne z]; exact S.ol b hb
  · rw [upd_ne (fun z => by rw [z, h5] at e; cases e)]
    exact S.pres b o e ne
  · obtain ⟨g1, g2, zs, fs, g3, g4, g5⟩ := S.sack b hb
    refine ⟨g1, g2, zs, fs, g3, ?_, DFs.mono S.ol k .refl fs zs g5⟩
    rw [upd_ne (fun z => ?_)]
    · exact g4
    · obtain ⟨_, q⟩ := S.ol0 b g1
      rw [z, h5] at q; cases q
/-- a value to be stored: a new list (k), or clean -/
def KV (k : Bool) (K : PySem.W.Frag) (F : Fm) (Hs : Hp) (O : Addr → Prop) (H : Hp) (d : D) (v : V) : Prop :=
  if k = true then ∃ a xs ds, d = .lst ds ∧ v = .ref a ∧ Hs a = none ∧ F.H0 a = none ∧ F.io ≠ some a ∧ O a ∧ H a = some (.lst xs) ∧ DFs K H O ds xs else DF K H O d v
theorem KV.later {k : Bool} {Hs H2 : Hp} {O2 : Addr → Prop} {d : D} {v : V} (h : KV k K F Hs O H d v) (ol : OL O H) (kp : Kp O H H2) (x : Xt F H H2) (g : ∀ b, O b → O2 b) (ow : Ow O H O2) : KV k K F Hs O2 H2 d v := by
  unfold KV at h ⊢
  cases k with
  | true =>
    rw [if_pos rfl] at h ⊢
    obtain ⟨a, xs, ds, h1, h2, h3, h4, h5, h6, h7, h8⟩ := h
    exact ⟨a, xs, ds, h1, h2, h3, h4, h5, g a h6, x a _ h5 h7, DFs.mono ol kp ow ds xs h8⟩
  | false =>
    rw [if_neg Bool.false_ne_true] at h ⊢
    exact DF.mono ol kp ow d v h
theorem SR.putK (S : SR K F own O H σ sk ev) {k : Bool} {Hs : Hp} {i : Nat} {d : D} {v : V} (h : KV k K F Hs O H d v) (h0 : F.io = none ∨ i ≠ 0) (hk : k = true ∨ own.contains i = false)
    (hn : ∀ j d, j ∈ own → ev[j]? = some (some d) → ∃ b, σ[j]? = some (some (.ref b)) ∧ Hs b ≠ none) : SR K F (kO k i own) O H (σ.set i (some v)) sk (ev.set i (some d)) := by
  unfold KV at h
  unfold kO
  cases k with
  | true =>
    rw [if_pos rfl] at h ⊢
    obtain ⟨a, xs, ds, rfl, rfl, h3, h4, h5, h6, h7, h8⟩ := h
    refine S.putO h0 h6 h4 h7 h8 fun j d hj _ he hs => ?_
    obtain ⟨b, hb, nb⟩ := hn j d hj he
    rw [hs] at hb; cases hb
    exact nb h3
  | false =>
    rw [if_neg Bool.false_ne_true] at h ⊢
    exact S.put (hk.resolve_left Bool.false_ne_true) h0 h
end
def tK (K : PySem.W.Frag) (F : Fm) (own : List Nat) (k : Bool) (E : EF) : TE := fun σ H Q => ∃ O sk ev d sk', SR K F own O H σ sk ev ∧ E sk ev = some (d, sk') ∧
  ∀ v O' H', SR K F own O' H' σ sk' ev → Xt F H H' → (∀ b, O b → O' b) → Ow O H O' → KV k K F H O' H' d v → Q v H'
section
variable {X : Cx} {F : Fm} {own own' ol : List Nat} {fr : Bool} {st : Stmt} {E E1 E2 E3 : EF} {e : Expr}
theorem k_convD : ∀ σ H Q, tK X.K F own false E σ H Q → tD X.K F own false E σ H Q := fun σ H Q ⟨O, sk, ev, d, sk', S, e, q⟩ =>
  ⟨O, sk, ev, d, sk', S, e, fun v H' S' x dv => q v O H' S' x (fun _ h => h) .refl (by unfold KV; rw [if_neg Bool.false_ne_true]; exact dv.clean)⟩
theorem k_convN : ∀ σ H Q, tK X.K F own true E σ H Q → tN X.K F own E σ H Q := fun σ H Q ⟨O, sk, ev, d, sk', S, e, q⟩ =>
  ⟨O, sk, ev, d, sk', S, e, fun a xs ds H' hd S' x hn ha dv => q _ _ H' S' x (fun _ h => .inl h) (fun b z => z.elim .inl fun w => .inr (by rw [w]; exact hn)) (by
    unfold KV; rw [if_pos rfl]; exact ⟨a, xs, ds, hd, rfl, hn, S.fresh0 hn, fun z => S.ol.not_none hn (S.io_O z), .inr rfl, ha, dv⟩)⟩
theorem dk_of (h : DE X F own false e E) : PE X e (tK X.K F own false E) := PE.conv h k_convD
theorem dk_ofN (h : DN X F own e E) : PE X e (tK X.K F own true E) := PE.conv h k_convN
theorem SR.ownTr {K : PySem.W.Frag} {O : Addr → Prop} {H : Hp} {σ : L2.St} {sk : D} {ev : VE} (S : SR K F own O H σ sk ev) : ∀ j d, j ∈ own → ev[j]? = some (some d) → ∃ b, σ[j]? = some (some (.ref b)) ∧ H b ≠ none := fun j d hj he => by
  obtain ⟨a, xs, ds, _, h2, h3, _⟩ := S.ownd j d he hj
  exact ⟨a, h2, by rw [h3]; exact fun z => nomatch z⟩
/-- name = e -/
theorem asgK_of {k : Bool} {i : Nat} {te : TE} (h : PS X st (tAsg te (gName i))) (c : ∀ σ H Q, tK X.K F own k E σ H Q → te σ H Q) (h0 : F.io = none ∨ i ≠ 0) (hk : k = true ∨ own.contains i = false) : DS X F own (kO k i own) ol fr st (asgS E (nameG i)) := PS.conv h fun Dn σ H ⟨O, sk, ev, f, S, e, q⟩ => by
  unfold asgS at e
  split at e
  · rename_i d s1 e1
    cases e
    refine c σ H _ ⟨O, sk, ev, d, s1, S, e1, fun v O' H' S' x' g ow kv => ?_⟩
    exact q O' _ H' (S'.putK kv h0 hk S.ownTr) (S.kp x') ow
  · cases e
/-- a target of any form = e, clean -/
theorem asg_of {te : TE} {g : TG} {G : GF} {ts : List Nat} (h : PS X st (tAsg te g)) (c : ∀ σ H Q, tD X.K F own false E σ H Q → te σ H Q) (hg : ∀ v σ H Q, tGd X.K F own ts G v σ H Q → g v σ H Q) : DS X F own own ol fr st (asgS E G) := PS.conv h fun Dn σ H ⟨O, sk, ev, f, S, e, q⟩ => by
  unfold asgS at e
  split at e
  · rename_i d s1 e1
    split at e <;> cases e
    rename_i ev1 e2
    refine c σ H _ ⟨O, sk, ev, d, s1, S, e1, fun v H' S' x' dv => hg v σ H' _ ⟨O, s1, ev, d, ev1, S', dv.clean, e2, fun σ' S2 _ => ?_⟩⟩
    exact q O σ' H' S2 (S.kp x') .refl
  · cases e
theorem par2_of {k1 k2 : Bool} {i j : Nat} (h : PS X st (tPar i j (tCons (tK X.K F own k1 E1) (tCons (tK X.K F own k2 E2) tNil)))) (hi : F.io = none ∨ i ≠ 0) (hj : F.io = none ∨ j ≠ 0) (h1 : k1 = true ∨ own.contains i = false) (h2 : k2 = true ∨ (kO k1 i own).contains j = false) :
    DS X F own (kO k2 j (kO k1 i own)) ol fr st (par2S i j E1 E2) := PS.conv h fun Dn σ H ⟨O, sk, ev, f, S, e, q⟩ => by
  unfold par2S at e
  split at e
  · cases e
  rename_i d1 s1 e1
  split at e <;> cases e
  rename_i d2 s2 e2
  refine ⟨O, sk, ev, d1, s1, S, e1, fun v1 O1 H1 S1 x1 g1 w1 kv1 => ⟨O1, s1, ev, d2, s2, S1, e2, fun v2 O2 H2 S2 x2 g2 w2 kv2 => ⟨v1, v2, rfl, ?_⟩⟩⟩
  have kv1' := kv1.later S1.ol (S1.kp x2) x2 g2 w2
  have Sa := S2.putK kv1' hi h1 S.ownTr
  have Sb := (S1.putK kv1 hi h1 S.ownTr).ownTr
  exact q O2 _ H2 (Sa.putK kv2 hj h2 Sb) ((S.kp x1).trans w1 (S1.kp x2)) (w1.trans (S.kp x1) w2)
theorem par3_of {k1 k2 k3 : Bool} {i j l : Nat} (h : PS X st (tPar3 i j l (tCons (tK X.K F own k1 E1) (tCons (tK X.K F own k2 E2) (tCons (tK X.K F own k3 E3) tNil))))) (hi : F.io = none ∨ i ≠ 0) (hj : F.io = none ∨ j ≠ 0) (hl : F.io = none ∨ l ≠ 0)
    (h1 : k1 = true ∨ own.contains i = false) (h2 : k2 = true ∨ (kO k1 i own).contains j = false) (h3 : k3 = true ∨ (kO k2 j (kO k1 i own)).contains l = false) :
    DS X F own (kO k3 l (kO k2 j (kO k1 i own))) ol fr st (par3S i j l E1 E2 E3) := PS.conv h fun Dn σ H ⟨O, sk, ev, f, S, e, q⟩ => by
  unfold par3S at e
  split at e
  · cases e
  rename_i d1 s1 e1
  split at e
  · cases e
  rename_i d2 s2 e2
  split at e <;> cases e
  rename_i d3 s3 e3
  refine ⟨O, sk, ev, d1, s1, S, e1, fun v1 O1 H1 S1 x1 g1 w1 kv1 => ⟨O1, s1, ev, d2, s2, S1, e2, fun v2 O2 H2 S2 x2 g2 w2 kv2 => ⟨O2, s2, ev, d3, s3, S2, e3, fun v3 O3 H3 S3 x3 g3 w3 kv3 => ⟨v1, v2, v3, rfl, ?_⟩⟩⟩⟩
  have kv1' := kv1.later S1.ol (S1.kp x2) x2 g2 w2
  have kv1'' := kv1'.later S2.ol (S2.kp x3) x3 g3 w3
  have kv2' := kv2.later S2.ol (S2.kp x3) x3 g3 w3
  have Sa := S3.putK kv1'' hi h1 S.ownTr
  have Sb := (S1.putK kv1 hi h1 S.ownTr).ownTr
  have Sc := Sa.putK kv2' hj h2 Sb
  have Sd := ((S2.putK kv1' hi h1 S.ownTr).putK kv2 hj h2 Sb).ownTr
  exact q O3 _ H3 (Sc.putK kv3 hl h3 Sd) (((S.kp x1).trans w1 (S1.kp x2)).trans (w1.trans (S.kp x1) w2) (S2.kp x3)) ((w1.trans (S.kp x1) w2).trans ((S.kp x1).trans w1 (S1.kp x2)) w3)
theorem n_convD : ∀ σ H Q, tD X.K F own false E σ H Q → tN X.K F own E σ H Q := fun σ H Q ⟨O, sk, ev, d, sk', S, e, q⟩ =>
  ⟨O, sk, ev, d, sk', S, e, fun a xs ds H' hd S' x hn ha dv => q _ H' (S'.less S hn x) x (.of (by
    subst hd
    exact ⟨a, xs, rfl, ⟨ha, S.ol.not_none hn⟩, DFs.mono S'.ol .refl (fun b h => .inl (.inl h)) ds xs dv⟩))⟩
theorem k_convDN : ∀ σ H Q, tK X.K F own false E σ H Q → tN X.K F own E σ H Q := fun σ H Q q => n_convD σ H Q (k_convD σ H Q q)
end
end Dn
namespace Dn
open PySem PySem.Spec PyProof.Rows L2
section
variable {X : Cx} {F : Fm} {own own' ol : List Nat} {fr : Bool} {st : Stmt} {E E1 E2 E3 : EF} {e : Expr} {G : GF} {ts : List Nat} {B : SF} {I : IF_} {pos : Pos} {tg iter c : Expr} {body : List Stmt} {Bc : BF}
theorem drop_cons {ds : List D} {i : Nat} {d : D} {r : List D} (h : ds.drop i = d :: r) : ds[i]? = some d ∧ ds.drop (i + 1) = r ∧ i < ds.length := by
  have h1 : ds[i]? = some d := by
    have q := congrArg (fun l => l[0]?) h
    simpa using q
  have h2 : ds.drop (i + 1) = r := by
    have q := congrArg List.tail h
    simpa using q
  exact ⟨h1, h2, (List.getElem?_eq_some_iff.mp h1).1⟩
theorem ds_for (hp : PassesOwn (model X.prog X.w) X.A X.env X.xe) (hc : X.calm = true) (hi : PI X tg iter (tI X.K F own false I)) (hg : PG X tg (tGd X.K F own ts G)) (hb : DSs X F own own own fr body B)
    (hs : ∀ x, foldedSetIterable iter X.env x = pure x := by intro _; rfl) : DS X F own own ol fr (.For tg iter body [] pos) (forS I G B) := PS.conv (ps_for hp hc hi hg hb hs) fun Dn σ H ⟨O, sk, ev, f, S, e, q⟩ => by
  unfold forS at e
  split at e
  · cases e
  rename_i ds s1 eI
  refine ⟨O, sk, ev, ds, s1, S, eI, fun J H1 S1 x1 it => ?_⟩
  refine ⟨fun i m σ2 H2 => m + i = ds.length ∧ ∃ O2 sk2 ev2 f, SR X.K F own O2 H2 σ2 sk2 ev2 ∧ Kp O H1 H2 ∧ Ow O H1 O2 ∧ forF G B (ds.drop i) sk2 ev2 = some f ∧ Fol X.K F own ol fr O2 H2 Dn f,
    ⟨ds.length, rfl, O, s1, ev, f, S1, .refl, .refl, e, q.back (S.kp x1) .refl⟩, ?_⟩
  rintro i m σ2 H2 ⟨hm, O2, sk2, ev2, f2, S2, k2, w2, e2, q2⟩
  obtain ⟨itg, its⟩ := it O2 H2 ⟨by rw [if_neg Bool.false_ne_true]; trivial, k2, w2, S2.ol⟩
  cases hdr : ds.drop i with
  | nil =>
    rw [hdr] at e2
    cases e2
    have hi : i = ds.length := by
      have := congrArg List.length hdr
      rw [List.length_drop, List.length_nil] at this
      omega
    exact .inl ⟨by rw [hi]; exact its, q2 O2 σ2 H2 S2 .refl .refl⟩
  | cons d r =>
    obtain ⟨hd, hr, hlt⟩ := drop_cons hdr
    obtain ⟨hgo, hy⟩ := itg i d hd
    rw [hdr] at e2
    unfold forF at e2
    split at e2
    · cases e2
    rename_i ev3 eG
    refine .inr ⟨hgo, fun σ3 H3 => (m - 1) + (i + 1) = ds.length ∧ ∃ O2 sk2 ev2 f, SR X.K F own O2 H3 σ3 sk2 ev2 ∧ Kp O H1 H3 ∧ Ow O H1 O2 ∧ forF G B (ds.drop (i + 1)) sk2 ev2 = some f ∧ Fol X.K F own ol fr O2 H3 Dn f,
      fun σ3 H3 n => ⟨m - 1, by omega, n⟩, fun x H3 y => ?_⟩
    obtain ⟨ex, dx⟩ := hy x H3 y
    have S3 := S2.ex ex
    have k3 : Kp O H1 H3 := k2.trans w2 ex.kp
    refine ⟨O2, sk2, ev2, d, ev3, S3, dx, eG, fun σ4 S4 _ => ?_⟩
    have go : ∀ s5 e5, forF G B r s5 e5 = some f2 → ∀ O5 σ5 H5, SR X.K F own O5 H5 σ5 s5 e5 → Kp O2 H3 H5 → Ow O2 H3 O5 →
        (m - 1) + (i + 1) = ds.length ∧ ∃ O2 sk2 ev2 f, SR X.K F own O2 H5 σ5 sk2 ev2 ∧ Kp O H1 H5 ∧ Ow O H1 O2 ∧ forF G B (ds.drop (i + 1)) sk2 ev2 = some f ∧ Fol X.K F own ol fr O2 H5 Dn f := fun s5 e5 eF O5 σ5 H5 S5 k5 w5 =>
      ⟨by omega, O5, s5, e5, f2, S5, k3.trans w2 k5, w2.trans k3 w5, by rw [hr]; exact eF, (q2.back ex.kp .refl).back k5 w5⟩
    split at e2
    · rename_i s5 e5 eB
      exact ⟨O2, sk2, ev3, _, S4, eB, go s5 e5 e2⟩
    · rename_i s5 e5 eB
      exact ⟨O2, sk2, ev3, _, S4, eB, go s5 e5 e2⟩
    · rename_i s5 e5 eB
      cases e2
      exact ⟨O2, sk2, ev3, _, S4, eB, fun O5 σ5 H5 S5 k5 w5 => q2 O5 σ5 H5 S5 (ex.kp.trans .refl k5) (Ow.trans ex.kp .refl w5)⟩
    · rename_i s5 d5 eB
      cases e2
      exact ⟨O2, sk2, ev3, _, S4, eB, q2⟩
    · rename_i x5 s5 e5 eB
      cases e2
      exact ⟨O2, sk2, ev3, _, S4, eB, fun O5 σ5 H5 S5 k5 w5 => q2 O5 σ5 H5 S5 (ex.kp.trans .refl k5) (Ow.trans ex.kp .refl w5)⟩
    · cases e2
theorem ds_while (hp : PassesOwn (model X.prog X.w) X.A X.env X.xe) (hc : DT X F own c Bc) (hb : DSs X F own own own fr body B) : DS X F own own ol fr (.While c body [] pos) (whS Bc B) := PS.conv (ps_while hp hc hb) fun Dn σ H ⟨O, sk, ev, f, S, e, q⟩ => by
  refine ⟨fun m σ2 H2 => ∃ O2 sk2 ev2 f, SR X.K F own O2 H2 σ2 sk2 ev2 ∧ whF Bc B m sk2 ev2 = some f ∧ Fol X.K F own ol fr O2 H2 Dn f, ⟨fuel, O, sk, ev, f, S, e, q⟩, ?_⟩
  rintro m σ2 H2 ⟨O2, sk2, ev2, f2, S2, e2, q2⟩
  cases m with
  | zero => cases e2
  | succ m =>
    unfold whF at e2
    split at e2
    · cases e2
    · rename_i s3 e3
      cases e2
      exact ⟨O2, sk2, ev2, _, s3, S2, e3, fun H3 S3 x3 => iteF (q2 O2 σ2 H3 S3 (S2.kp x3) .refl)⟩
    · rename_i s3 e3
      refine ⟨O2, sk2, ev2, _, s3, S2, e3, fun H3 S3 x3 => iteT ⟨fun σ4 H4 => ∃ O2 sk2 ev2 f, SR X.K F own O2 H4 σ4 sk2 ev2 ∧ whF Bc B m sk2 ev2 = some f ∧ Fol X.K F own ol fr O2 H4 Dn f, fun σ4 H4 n => ⟨m, Nat.lt_succ_self m, n⟩, ?_⟩⟩
      have q3 := q2.back (S2.kp x3) .refl
      have go : ∀ s5 e5, whF Bc B m s5 e5 = some f2 → ∀ O5 σ5 H5, SR X.K F own O5 H5 σ5 s5 e5 → Kp O2 H3 H5 → Ow O2 H3 O5 →
          ∃ O2 sk2 ev2 f, SR X.K F own O2 H5 σ5 sk2 ev2 ∧ whF Bc B m sk2 ev2 = some f ∧ Fol X.K F own ol fr O2 H5 Dn f := fun s5 e5 eF O5 σ5 H5 S5 k5 w5 => ⟨O5, s5, e5, f2, S5, eF, q3.back k5 w5⟩
      split at e2
      · rename_i s5 e5 eB
        exact ⟨O2, s3, ev2, _, S3, eB, go s5 e5 e2⟩
      · rename_i s5 e5 eB
        exact ⟨O2, s3, ev2, _, S3, eB, go s5 e5 e2⟩
      · rename_i s5 e5 eB
        cases e2
        exact ⟨O2, s3, ev2, _, S3, eB, q3⟩
      · rename_i s5 d5 eB
        cases e2
        exact ⟨O2, s3, ev2, _, S3, eB, q3⟩
      · rename_i x5 s5 d5 eB
        cases e2
        exact ⟨O2, s3, ev2, _, S3, eB, q3⟩
      · cases e2
/-! ### lists of owned names changed -/
theorem SR.ownAt {K : PySem.W.Frag} {O : Addr → Prop} {H : Hp} {σ : L2.St} {sk : D} {ev : VE} (S : SR K F own O H σ sk ev) {i : Nat} {ds : List D} (hi : own.contains i = true) (he : ev[i]? = some (some (.lst ds))) :
    i ∈ own ∧ ∃ a xs, σ[i]? = some (some (.ref a)) ∧ H a = some (.lst xs) ∧ O a ∧ F.H0 a = none ∧ F.io ≠ some a ∧ DFs K H O ds xs := by
  have h := List.contains_iff_mem.mp hi
  obtain ⟨a, xs, ds', h1, h2, h3, h4, h5, h6⟩ := S.ownd i _ he h
  cases h1
  refine ⟨h, a, xs, h2, h3, h4, h5, fun z => ?_, h6⟩
  obtain ⟨_, q⟩ := S.ol0 a (S.sack a z).1
  rw [h5] at q; cases q
/-- name.append(e) -/
theorem ds_app {i : Nat} (h : PS X st (tDrop (tBM X.K "list" rAppend (tVar i) (tCons (tD X.K F own false E) tNil)))) (hi : own.contains i = true := by rfl) : DS X F own own ol fr st (appS i E) := PS.conv h fun Dn σ H ⟨O, sk, ev, f, S, e, q⟩ => by
  unfold appS at e
  split at e
  · cases e
  rename_i d s1 e1
  split at e
  · rename_i ds he
    split at e <;> cases e
    rename_i hz
    obtain ⟨hm, a, xs, hs, ha, ho, h0, hio, hd⟩ := S.ownAt hi he
    refine ⟨.ref a, hs, .inl ⟨rfl, xs, .inl (.inl ha)⟩, O, sk, ev, d, s1, S, e1, fun v H1 S1 x1 dv => ?_⟩
    have ha1 := x1 a _ hio ha
    have hd1 : DFs X.K H1 O ds xs := DFs.mono S.ol (S.kp x1) .refl _ _ hd
    refine ⟨a, xs, v, rfl, rfl, ha1, by rw [← hd.length]; exact sz_lt hz, ?_⟩
    have S2 := S1.setO hm he hs (hd1.append (DFs.one dv.clean))
    exact q O σ _ S2 ((S.kp x1).trans .refl fun b o nb hb => by rw [upd_ne (fun z => nb (by rw [z]; exact ho))]; exact hb) .refl
  · cases e
/-- name[i] = e -/
theorem ds_set {i : Nat} (h : PS X st (tAsg (tD X.K F own false E) (gSub (tVar i) (tD X.K F own true E1) rSetL))) (hi : own.contains i = true := by rfl) : DS X F own own ol fr st (setS i E1 E) := PS.conv h fun Dn σ H ⟨O, sk, ev, f, S, e, q⟩ => by
  unfold setS at e
  split at e
  · cases e
  rename_i d s1 e1
  split at e
  · rename_i k s2 e2
    split at e
    · rename_i ds he
      split at e <;> cases e
      rename_i j hj
      obtain ⟨hm, a, xs, hs, ha, ho, h0, hio, hd⟩ := S.ownAt hi he
      refine ⟨O, sk, ev, d, s1, S, e1, fun v H1 S1 x1 dv => ⟨.ref a, hs, O, s1, ev, _, s2, S1, e2, fun v2 H2 S2 x2 dv2 => ?_⟩⟩
      have x12 := x1.trans x2
      have ha2 := x12 a _ hio ha
      have hd2 : DFs X.K H2 O ds xs := DFs.mono S.ol (S.kp x12) .refl _ _ hd
      have dv' : DF X.K H2 O d v := DF.mono S1.ol (S1.kp x2) .refl _ _ dv.clean
      refine ⟨a, xs, k, j, rfl, dv2.int, ha2, by rw [← hd.length]; exact hj, ?_⟩
      exact q O σ _ (S2.setO hm he hs (hd2.set j dv')) ((S.kp x12).trans .refl fun b o nb hb => by rw [upd_ne (fun z => nb (by rw [z]; exact ho))]; exact hb) .refl
    · cases e
  · cases e
/-- target = name.pop() -/
theorem ds_pop {i : Nat} {g : TG} (h : PS X st (tAsg (tBM0 X.K "list" rPop (tVar i)) g)) (hg : ∀ v σ H Q, tGd X.K F own ts G v σ H Q → g v σ H Q) (hi : own.contains i = true := by rfl) : DS X F own own ol fr st (popS i G) := PS.conv h fun Dn σ H ⟨O, sk, ev, f, S, e, q⟩ => by
  unfold popS at e
  split at e
  · rename_i ds he
    split at e
    · rename_i d hl
      split at e <;> cases e
      rename_i ev1 eG
      obtain ⟨hm, a, xs, hs, ha, ho, h0, hio, hd⟩ := S.ownAt hi he
      obtain ⟨x, hx, dx⟩ := hd.get hl
      rw [hd.length] at hx
      refine ⟨.ref a, hs, .inl ⟨rfl, xs, .inl (.inl ha)⟩, a, xs, x, rfl, rfl, ha, hx, ?_⟩
      have k : Kp O H (upd H a (.lst xs.dropLast)) := fun b o nb hb => by rw [upd_ne (fun z => nb (by rw [z]; exact ho))]; exact hb
      exact hg x σ _ _ ⟨O, sk, _, d, ev1, S.setO hm he hs hd.dropLast, DF.mono S.ol k .refl _ _ dx, eG, fun σ' S' _ => q O σ' _ S' k .refl⟩
    · cases e
  · cases e
/-- name.pop() alone -/
theorem ds_popD {i : Nat} (h : PS X st (tDrop (tBM0 X.K "list" rPop (tVar i)))) (hi : own.contains i = true := by rfl) : DS X F own own ol fr st (popS i fun _ ev => some ev) := PS.conv h fun Dn σ H ⟨O, sk, ev, f, S, e, q⟩ => by
  unfold popS at e
  split at e
  · rename_i ds he
    split at e
    · rename_i d hl
      cases e
      obtain ⟨hm, a, xs, hs, ha, ho, h0, hio, hd⟩ := S.ownAt hi he
      obtain ⟨x, hx, dx⟩ := hd.get hl
      rw [hd.length] at hx
      refine ⟨.ref a, hs, .inl ⟨rfl, xs, .inl (.inl ha)⟩, a, xs, x, rfl, rfl, ha, hx, ?_⟩
      have k : Kp O H (upd H a (.lst xs.dropLast)) := fun b o nb hb => by rw [upd_ne (fun z => nb (by rw [z]; exact ho))]; exact hb
      exact q O σ _ (S.setO hm he hs hd.dropLast) k .refl
    · cases e
  · cases e
theorem ds_popAt {i : Nat} {g : TG} (h : PS X st (tAsg (tBM X.K "list" rPopAt (tVar i) (tCons (tD X.K F own true E) tNil)) g)) (hg : ∀ v σ H Q, tGd X.K F own ts G v σ H Q → g v σ H Q) (hi : own.contains i = true := by rfl) : DS X F own own ol fr st (popAtS i E G) := PS.conv h fun Dn σ H ⟨O, sk, ev, f, S, e, q⟩ => by
  unfold popAtS at e
  split at e
  · rename_i k s1 e1
    split at e
    · rename_i ds he
      split at e
      · rename_i j hj
        split at e
        · rename_i d hl
          split at e <;> cases e
          rename_i ev1 eG
          obtain ⟨hm, a, xs, hs, ha, ho, h0, hio, hd⟩ := S.ownAt hi he
          refine ⟨.ref a, hs, .inl ⟨rfl, xs, .inl (.inl ha)⟩, O, sk, ev, _, s1, S, e1, fun v H1 S1 x1 dv => ?_⟩
          split at hj
          case isFalse => cases hj
          rename_i hz
          simp only [Bool.and_eq_true, decide_eq_true_eq] at hz
          obtain ⟨j1, j2, j3, j4⟩ := ixN_seq hj
          have hlen := hd.length
          have ha1 := x1 a _ hio ha
          have hd1 : DFs X.K H1 O ds xs := DFs.mono S.ol (S.kp x1) .refl _ _ hd
          obtain ⟨x, hx, dx⟩ := hd1.get hl
          refine ⟨a, xs, k, j, x, rfl, by rw [dv.int], ha1, by omega, by omega, by rw [← hlen]; exact j1, hx, ?_⟩
          have kp : Kp O H1 (upd H1 a (.lst (xs.eraseIdx j))) := fun b o nb hb => by rw [upd_ne (fun z => nb (by rw [z]; exact ho))]; exact hb
          exact hg x σ _ _ ⟨O, s1, _, d, ev1, S1.setO hm he hs (hd1.eraseIdx j), DF.mono S1.ol kp .refl _ _ dx, eG, fun σ' S' _ => q O σ' _ S' ((S.kp x1).trans .refl kp) .refl⟩
        · cases e
      · cases e
    · cases e
  · cases e
end
end Dn
namespace Dn
open PySem PySem.Spec PyProof.Rows L2
/-! ### defs -/
def noW : Str → L2.St → Hp → Prop := fun _ _ _ => False
def env0 (n : Nat) (ds : List D) : VE := ds.map some ++ List.replicate (n - ds.length) none
def funV (n : Nat) (S : SF) : List D → Option D := fun ds => match S .non (env0 n ds) with
  | some (.rt _ d) => some d
  | some (.nx _ _) => some .non
  | _ => none
def funN (n : Nat) (S : SF) : List D → Option D := fun ds => match S .non (env0 n ds) with
  | some (.rt _ d) => some d
  | _ => none
def envS (n : Nat) (ds : List D) : VE := none :: (ds.map some ++ List.replicate (n - (ds.length + 1)) none)
def funS (n : Nat) (S : SF) : D → List D → Option (D × D) := fun sk ds => match S sk (envS n ds) with
  | some (.rt s1 d) => some (d, s1)
  | some (.nx s1 _) => some (.non, s1)
  | _ => none
def funSN (n : Nat) (S : SF) : D → List D → Option (D × D) := fun sk ds => match S sk (envS n ds) with
  | some (.rt s1 d) => some (d, s1)
  | _ => none
theorem get_env {ds : List D} {m i : Nat} {d : D} (h : (ds.map some ++ List.replicate m none)[i]? = some (some d)) : ds[i]? = some d := by
  by_cases hi : i < ds.length
  · rw [List.getElem?_append_left (by simpa using hi), List.getElem?_map] at h
    cases e : ds[i]? with
    | none => rw [e] at h; cases h
    | some a => rw [e] at h; cases h; rfl
  · rw [List.getElem?_append_right (by simpa using hi), List.getElem?_replicate] at h
    split at h <;> cases h
theorem get_st {vs : List V} {m i : Nat} {v : V} (h : vs[i]? = some v) : (vs.map some ++ List.replicate m none)[i]? = some (some v) := by
  have hi : i < vs.length := (List.getElem?_eq_some_iff.mp h).1
  rw [List.getElem?_append_left (by simpa using hi), List.getElem?_map, h]
  rfl
section
variable {K : PySem.W.Frag} {O : Addr → Prop} {H : Hp} {W : Str → L2.St → Hp → Prop}
theorem SR.init {N : List Str} {ds : List D} {vs : List V} (ol : OL O H) (hd : DFs K H O ds vs) : SR K ⟨none, H, O, W⟩ [] O H (L2.start N vs) .non (env0 N.length ds) := by
  refine ⟨?_, fun i d h _ => ?_, fun i d _ hi => (nomatch hi), fun i j d e a hi => (nomatch hi), ol, fun b o e _ => e, fun _ h => h, fun b h => .inl h, ol, fun a ha => (nomatch ha)⟩
  · unfold L2.start env0
    simp [hd.length]
  · obtain ⟨v, hv, dv⟩ := hd.get (get_env h)
    exact ⟨v, get_st hv, dv⟩
theorem SR.initS {N : List Str} {ds ks : List D} {vs xs : List V} {a : Addr} (ol : OL O H) (hd : DFs K H O ds vs) (ho : O a) (ha : H a = some (.lst xs)) (hk : DFs K H O ks xs) :
    SR K ⟨some a, H, O, W⟩ [] O H (L2.start N (.ref a :: vs)) (.lst ks) (envS N.length ds) := by
  refine ⟨?_, fun i d h _ => ?_, fun i d _ hi => (nomatch hi), fun i j d e a hi => (nomatch hi), ol, fun b o e _ => e, fun _ h => h, fun b h => .inl h, ol, fun b hb => ?_⟩
  · unfold L2.start envS
    simp [hd.length]
  · cases i with
    | zero => cases h
    | succ i =>
      have h' : (ds.map some ++ List.replicate (N.length - (ds.length + 1)) none)[i]? = some (some d) := h
      obtain ⟨v, hv, dv⟩ := hd.get (get_env h')
      exact ⟨v, get_st (vs := .ref a :: vs) (i := i + 1) hv, dv⟩
  · cases hb
    exact ⟨ho, rfl, xs, ks, rfl, ha, hk⟩
end
section
variable {P : Program} {w : World} {K : PySem.W.Frag} {mg : Str → Option Value} {base : Heap} {x qual : Str} {st : Stmt} {f : Addr} {fd : FuncData} {N ps : List Str} {k : Nat} {own' ol : List Nat} {Sd : SF}
theorem fn_V (F : Fun K x qual st f fd) (S : FnScope N ps (defScope st))
    (hb : ∀ (cdv : Value) (A : Around) (outer : List PySem.Env) (s : Shared) (H : Hp) (E : XK) (H1 : Hp) (O : Addr → Prop), Room k (A.deeper (envOfC qual (defScope st) s.heap.objs.size f cdv)) →
      DSs (cxOf CX0 P w K mg base N qual (defScope st) f cdv A outer s H E).nox ⟨none, H1, O, noW⟩ [] own' ol false (defBody st) Sd) : FnOk P w K mg base CX0 (k + 1) f fd ps (spV K ps.length (funV N.length Sd)) := by
  refine F.ok S (fun vs H Q E h => ?_) (fun cdv A outer s H vs Q E hr h => ?_)
  · obtain ⟨O, ds, d, _, hd, hl, _⟩ := h
    exact hd.length.symm.trans hl
  · obtain ⟨O, ds, d, ol, hd, hl, hf, q⟩ := h
    refine ⟨_, hb cdv A outer s H E H O hr, ?_⟩
    unfold funV at hf
    split at hf
    · rename_i s1 d1 e1
      cases hf
      refine ⟨O, .non, _, _, SR.init ol hd, e1, fun v H' r => q v H' (fun b o e => r.1 b o e (fun z => nomatch z)) ?_⟩
      have r2 := r.2
      rw [if_neg Bool.false_ne_true] at r2
      exact r2.1
    · rename_i s1 d1 e1
      cases hf
      exact ⟨O, .non, _, _, SR.init ol hd, e1, fun O' σ' H' S' k o => q .non H' (fun b u e => S'.pres b u e (fun z => nomatch z)) rfl⟩
    · cases hf
theorem fn_N (F : Fun K x qual st f fd) (S : FnScope N ps (defScope st))
    (hb : ∀ (cdv : Value) (A : Around) (outer : List PySem.Env) (s : Shared) (H : Hp) (E : XK) (H1 : Hp) (O : Addr → Prop), Room k (A.deeper (envOfC qual (defScope st) s.heap.objs.size f cdv)) →
      DSs (cxOf CX0 P w K mg base N qual (defScope st) f cdv A outer s H E).nox ⟨none, H1, O, noW⟩ [] own' ol true (defBody st) Sd) : FnOk P w K mg base CX0 (k + 1) f fd ps (spN K ps.length (funN N.length Sd)) := by
  refine F.ok S (fun vs H Q E h => ?_) (fun cdv A outer s H vs Q E hr h => ?_)
  · obtain ⟨O, ds, d, _, hd, hl, _⟩ := h
    exact hd.length.symm.trans hl
  · obtain ⟨O, ds, d, ol, hd, hl, hf, q⟩ := h
    refine ⟨_, hb cdv A outer s H E H O hr, ?_⟩
    unfold funN at hf
    split at hf
    · rename_i s1 d1 e1
      cases hf
      refine ⟨O, .non, _, _, SR.init ol hd, e1, fun v H' r => ?_⟩
      have r2 := r.2
      rw [if_pos rfl] at r2
      obtain ⟨a, xs, es, h1, h2, h3, h4, h5, _⟩ := r2
      rw [h2]
      exact q a xs es H' h1 (fun b o e => r.1 b o e (fun z => nomatch z)) h3 h4 h5
    · cases hf
theorem fn_S (F : Fun K x qual st f fd) (S : FnScope N ps (defScope st)) (hps : ps ≠ [])
    (hb : ∀ (cdv : Value) (A : Around) (outer : List PySem.Env) (s : Shared) (H : Hp) (E : XK) (a : Addr) (H1 : Hp) (O : Addr → Prop), Room k (A.deeper (envOfC qual (defScope st) s.heap.objs.size f cdv)) →
      DSs (cxOf CX0 P w K mg base N qual (defScope st) f cdv A outer s H E).nox ⟨some a, H1, O, noW⟩ [] own' ol false (defBody st) Sd) : FnOk P w K mg base CX0 (k + 1) f fd ps (spS K (ps.length - 1) (funS N.length Sd)) := by
  refine F.ok S (fun vs H Q E h => ?_) (fun cdv A outer s H vs Q E hr h => ?_)
  · obtain ⟨O, a, xs, ws, ks, ds, d, sk', rfl, _, _, _, _, hd, hl, _⟩ := h
    have h1 := hd.length
    have h2 : 0 < ps.length := List.length_pos_iff.mpr hps
    rw [List.length_cons]; omega
  · obtain ⟨O, a, xs, ws, ks, ds, d, sk', rfl, ol, ho, ha, hk, hd, hl, hf, q⟩ := h
    refine ⟨_, hb cdv A outer s H E a H O hr, ?_⟩
    unfold funS at hf
    split at hf
    · rename_i s1 d1 e1
      cases hf
      refine ⟨O, .lst ks, _, _, SR.initS ol hd ho ha hk, e1, fun v H' r => ?_⟩
      have r2 := r.2
      rw [if_neg Bool.false_ne_true] at r2
      obtain ⟨dv, sk⟩ := r2
      obtain ⟨xs', ks', h1, h2, h3⟩ := sk a rfl
      exact q v H' xs' ks' (fun b o nb e => r.1 b o e (fun z => nb (Option.some.inj z).symm)) h1 h2 h3 dv
    · rename_i s1 d1 e1
      cases hf
      refine ⟨O, .lst ks, _, _, SR.initS ol hd ho ha hk, e1, fun O' σ' H' S' k o => ?_⟩
      obtain ⟨_, _, xs', ks', h1, h2, h3⟩ := S'.sack a rfl
      exact q .non H' xs' ks' (fun b u nb e => S'.pres b u e (fun z => nb (Option.some.inj z).symm)) h1 h2 (DFs.mono S'.ol .refl (fun b h => .inl (S'.o0 b h)) _ _ h3) rfl
    · cases hf
theorem fn_SN (F : Fun K x qual st f fd) (S : FnScope N ps (defScope st)) (hps : ps ≠ [])
    (hb : ∀ (cdv : Value) (A : Around) (outer : List PySem.Env) (s : Shared) (H : Hp) (E : XK) (a : Addr) (H1 : Hp) (O : Addr → Prop), Room k (A.deeper (envOfC qual (defScope st) s.heap.objs.size f cdv)) →
      DSs (cxOf CX0 P w K mg base N qual (defScope st) f cdv A outer s H E).nox ⟨some a, H1, O, noW⟩ [] own' ol true (defBody st) Sd) : FnOk P w K mg base CX0 (k + 1) f fd ps (spSN K (ps.length - 1) (funSN N.length Sd)) := by
  refine F.ok S (fun vs H Q E h => ?_) (fun cdv A outer s H vs Q E hr h => ?_)
  · obtain ⟨O, a, xs, ws, ks, ds, d, sk', rfl, _, _, _, _, hd, hl, _⟩ := h
    have h1 := hd.length
    have h2 : 0 < ps.length := List.length_pos_iff.mpr hps
    rw [List.length_cons]; omega
  · obtain ⟨O, a, xs, ws, ks, ds, d, sk', rfl, ol, ho, ha, hk, hd, hl, hf, q⟩ := h
    refine ⟨_, hb cdv A outer s H E a H O hr, ?_⟩
    unfold funSN at hf
    split at hf
    · rename_i s1 d1 e1
      cases hf
      refine ⟨O, .lst ks, _, _, SR.initS ol hd ho ha hk, e1, fun v H' r => ?_⟩
      have r2 := r.2
      rw [if_pos rfl] at r2
      obtain ⟨p, ys, es, h1, h2, h3, h4, h5, sk⟩ := r2
      obtain ⟨xs', ks', h6, h7, h8⟩ := sk a rfl
      rw [h2]
      exact q p ys es H' xs' ks' h1 (fun b o nb e => r.1 b o e (fun z => nb (Option.some.inj z).symm)) h6 h7 h8 h3 h4 h5
    · cases hf
end
end Dn
namespace Dn
open PySem PySem.Spec PyProof.Rows L2
structure Blt (mg : Str → Option Value) : Prop where
  len : mg "len" = none
  range : mg "range" = none
  zip : mg "zip" = none
  enumerate : mg "enumerate" = none
  reversed : mg "reversed" = none
  list : mg "list" = none
  tuple : mg "tuple" = none
  abs : mg "abs" = none
  max : mg "max" = none
  min : mg "min" = none
  int : mg "int" = none
  bool : mg "bool" = none
  str : mg "str" = none
  isinstance : mg "isinstance" = none
  all : mg "all" = none
  any : mg "any" = none
  sum : mg "sum" = none
  repr : mg "repr" = none
  divmod : mg "divmod" = none
  gcd : mg "gcd" = some (.builtin "math.gcd")
/-- a constant of the module -/
def GlD (K : PySem.W.Frag) (mg : Str → Option Value) (x : Str) (d : D) : Prop := ∃ u v, mg x = some u ∧ RelV v u ∧ ∀ (H : Hp) (O : Addr → Prop), DF K H O d v
/-- a def of the program, kept as promised -/
def DefOk (P : Program) (w : World) (K : PySem.W.Frag) (mg : Str → Option Value) (base : Heap) (k : Nat) (x : Str) (st : Stmt) (ps : List Str) (sp : Sp) : Prop :=
  ∃ f fd, Fun K x x st f fd ∧ FnOk P w K mg base CX0 k f fd ps sp ∧ mg x = some (.ref f) ∧ Binds K fd ps []
def permA (pm : List Nat) (as : AF) : AF := fun sk ev => match as sk ev with
  | none => none
  | some (ds, s1) => some (pm.map fun i => ds.getD i .non, s1)
def appA (as bs : AF) : AF := fun sk ev => match as sk ev with
  | none => none
  | some (ds, s1) => match bs s1 ev with
    | none => none
    | some (es, s2) => some (ds ++ es, s2)
theorem chk_perm {pm : List Nat} {as : AF} : chk pm.length (permA pm as) := fun sk ev ds s1 e => by
  unfold permA at e
  split at e <;> cases e
  rw [List.length_map]
section
variable {K : PySem.W.Frag} {x qual : Str} {st : Stmt} {f : Addr} {fd : FuncData} {ps : List Str}
theorem getD_rel : ∀ {vs : List V} {us : List Value} (i : Nat), Vals vs us → RelV (vs.getD i .non) (us.getD i .none)
  | _, _, _, .nil => rfl
  | _, _, 0, .cons r _ => by simpa using r
  | _, _, i + 1, .cons _ t => by simpa using getD_rel i t
theorem map_rel {vs : List V} {us : List Value} (h : Vals vs us) : ∀ pm : List Nat, Vals (pm.map fun i => vs.getD i .non) (pm.map fun i => us.getD i .none)
  | [] => .nil
  | i :: pm => .cons (getD_rel i h) (map_rel h pm)
theorem kbn_of (F : Fun K x qual st f fd) (n : Nat) (ks : List Str) (pm : List Nat)
    (h : ∀ (kV doc pm' : Value) (an : Option Addr) (cdv ct : Value) (us ws : List Value), us.length = n → ws.length = ks.length → bindArgs (PySem.W.fnOf x qual (defArgs st) (defBody st) (defScope st) .none kV doc pm' an cdv ct) ⟨us, ks.zip ws⟩ = pure (ps.zip (pm.map fun i => (us ++ ws).getD i .none))) :
    KBn K fd ps n ks (fun us ws => pm.map fun i => (us ++ ws).getD i .none) (fun vs zs => pm.map fun i => (vs ++ zs).getD i .non) := by
  obtain ⟨oc, od, kV, doc, pm', an, cdv, ct, osl, rfl, lk, hcd⟩ := F.ex
  exact ⟨fun s us ws _ h1 h2 => .of_eq (h kV doc pm' an cdv ct us ws h1 h2), fun r1 r2 => map_rel (r1.append r2) pm⟩
theorem DFs.getD {H : Hp} {O : Addr → Prop} : ∀ {ds : List D} {vs : List V} (i : Nat), DFs K H O ds vs → DF K H O (ds.getD i .non) (vs.getD i .non)
  | [], _, _, h => by rw [show _ = [] from h]; simp [DF]
  | d :: ds, _, 0, h => by obtain ⟨x, r, rfl, q, _⟩ := h; simpa using q
  | d :: ds, _, i + 1, h => by obtain ⟨x, r, rfl, _, s⟩ := h; simpa using DFs.getD i s
theorem DFs.perm {H : Hp} {O : Addr → Prop} {ds : List D} {vs : List V} (h : DFs K H O ds vs) : ∀ pm : List Nat, DFs K H O (pm.map fun i => ds.getD i .non) (pm.map fun i => vs.getD i .non)
  | [] => rfl
  | i :: pm => ⟨_, _, rfl, h.getD i, DFs.perm h pm⟩
end
section
variable {X : Cx} {F : Fm} {own : List Nat} {x : Str} {p pos : Pos} {e : Expr} {es : List Expr} {As Ks : AF} {n k : Nat} {f : List D → Option D} {g : D → List D → Option (D × D)} {st : Stmt} {ps ks : List Str} {d : D} {kws : List Keyword}
theorem de_gl (G : GlD X.K X.mg x d) (hg : Gl X x := by rfl) (hd : (x == ("__debug__" : Str)) = false := by decide) : DE X F own false (.Name x pos) (cE d) := by
  obtain ⟨u, v, h1, h2, h3⟩ := G
  exact de_c (pe_glob hg h1 h2 hd) h3
theorem de_callD (D : DefOk X.prog X.w X.K X.mg X.base k x st ps (spV X.K n f)) (hr : Room k X.A) (ha : DA X F own (e :: es) As) (hn : chk n As) (hg : Gl X x := by rfl) (hdb : (x == ("__debug__" : Str)) = false := by decide)
    (he : starEach (e :: es) X.env = (false, eval e X.env) :: starEach es X.env := by rfl) (hpl : (backTo pos (starEach es X.env)).any (·.1) = false := by rfl) : DE X F own false (.Call (.Name x p) (e :: es) [] pos) (callE f As) := by
  obtain ⟨fa, fd, hF, G, hm, hb⟩ := D
  exact de_call hn (pe_call G hr hg hm hF.kp hb .nil pass0 ha hdb he hpl)
theorem dn_callD (D : DefOk X.prog X.w X.K X.mg X.base k x st ps (spN X.K n f)) (hr : Room k X.A) (ha : DA X F own (e :: es) As) (hn : chk n As) (hg : Gl X x := by rfl) (hdb : (x == ("__debug__" : Str)) = false := by decide)
    (he : starEach (e :: es) X.env = (false, eval e X.env) :: starEach es X.env := by rfl) (hpl : (backTo pos (starEach es X.env)).any (·.1) = false := by rfl) : DN X F own (.Call (.Name x p) (e :: es) [] pos) (callE f As) := by
  obtain ⟨fa, fd, hF, G, hm, hb⟩ := D
  exact dn_call hn (pe_call G hr hg hm hF.kp hb .nil pass0 ha hdb he hpl)
theorem nil_tA {K : PySem.W.Frag} : ∀ σ H Q, tA K F own nilA σ H Q → tNil σ H Q := fun σ H Q ⟨O, sk, ev, d, sk', S, e, q⟩ => by
  cases e
  exact q [] H S .refl rfl
theorem de_callD0 (D : DefOk X.prog X.w X.K X.mg X.base k x st ps (spV X.K 0 f)) (hr : Room k X.A) (hg : Gl X x := by rfl) (hdb : (x == ("__debug__" : Str)) = false := by decide) : DE X F own false (.Call (.Name x p) [] [] pos) (callE f nilA) := by
  obtain ⟨fa, fd, hF, G, hm, hb⟩ := D
  exact de_call chk_nil (PE.conv (pe_call0 G hr hg hm hF.kp hb .nil pass0 hdb) fun σ H Q h => nil_tA σ H _ h)
theorem dn_callD0 (D : DefOk X.prog X.w X.K X.mg X.base k x st ps (spN X.K 0 f)) (hr : Room k X.A) (hg : Gl X x := by rfl) (hdb : (x == ("__debug__" : Str)) = false := by decide) : DN X F own (.Call (.Name x p) [] [] pos) (callE f nilA) := by
  obtain ⟨fa, fd, hF, G, hm, hb⟩ := D
  exact dn_call chk_nil (PE.conv (pe_call0 G hr hg hm hF.kp hb .nil pass0 hdb) fun σ H Q h => nil_tA σ H _ h)
theorem ds_callD (D : DefOk X.prog X.w X.K X.mg X.base k x st ps (spS X.K n g)) (hr : Room k X.A) (hs : PE X e (tVar 0)) (ha : DA X F own es As) (hn : chk n As) (hio : F.io.isSome = true := by rfl) (hg : Gl X x := by rfl) (hdb : (x == ("__debug__" : Str)) = false := by decide)
    (he : starEach (e :: es) X.env = (false, eval e X.env) :: starEach es X.env := by rfl) (hpl : (backTo pos (starEach es X.env)).any (·.1) = false := by rfl) : DE X F own false (.Call (.Name x p) (e :: es) [] pos) (callS g As) := by
  obtain ⟨fa, fd, hF, G, hm, hb⟩ := D
  exact ds_call hn (pe_call G hr hg hm hF.kp hb .nil pass0 (pa_cons hs ha he) hdb he hpl) hio
theorem dsn_callD (D : DefOk X.prog X.w X.K X.mg X.base k x st ps (spSN X.K n g)) (hr : Room k X.A) (hs : PE X e (tVar 0)) (ha : DA X F own es As) (hn : chk n As) (hio : F.io.isSome = true := by rfl) (hg : Gl X x := by rfl) (hdb : (x == ("__debug__" : Str)) = false := by decide)
    (he : starEach (e :: es) X.env = (false, eval e X.env) :: starEach es X.env := by rfl) (hpl : (backTo pos (starEach es X.env)).any (·.1) = false := by rfl) : DN X F own (.Call (.Name x p) (e :: es) [] pos) (callS g As) := by
  obtain ⟨fa, fd, hF, G, hm, hb⟩ := D
  exact dsn_call hn (pe_call G hr hg hm hF.kp hb .nil pass0 (pa_cons hs ha he) hdb he hpl) hio
/-! ### calls with keywords -/
theorem PK.conv {t t' : TA} (h : PK X kws t) (c : ∀ σ H Q, t' σ H Q → t σ H Q) : PK X kws t' := by
  obtain ⟨r⟩ := h
  constructor
  intros
  exact r _ _ _ _ _ _ (by assumption) (c _ _ _ (by assumption))
theorem dkw_nil : PK X [] (tA X.K F own nilA) := PK.conv pk_nil nil_tA
theorem dkw_cons {nm : Option Str} {kpos : Pos} {Ee : EF} (he : DE X F own false e Ee) (hr : PK X kws (tA X.K F own Ks)) : PK X (⟨nm, e, kpos⟩ :: kws) (tA X.K F own (consA Ee Ks)) := PK.conv (pk_cons he hr) fun σ H Q ⟨O, sk, ev, d, sk', S, e, q⟩ => by
  unfold consA at e
  split at e
  · cases e
  rename_i x s1 e1
  split at e <;> cases e
  rename_i xs e2
  refine ⟨O, sk, ev, x, s1, S, e1, fun v H1 S1 x1 d1 => ⟨O, s1, ev, xs, _, S1, e2, fun vs H2 S2 x2 d2 => ?_⟩⟩
  exact q _ H2 S2 (x1.trans x2) ⟨v, vs, rfl, DF.mono S1.ol (S1.kp x2) .refl _ _ d1.clean, d2⟩
theorem callK_conv {pm : List Nat} {m : Nat} {E' : XK} (hA : chk n As) (hK : chk m Ks) : ∀ σ H Q, tD X.K F own false (callE f (permA pm (appA As Ks))) σ H Q →
    tCallN n m (spV X.K pm.length f) (fun vs zs => pm.map fun i => (vs ++ zs).getD i .non) E' (tA X.K F own As) (tA X.K F own Ks) σ H Q := fun σ H Q ⟨O, sk, ev, d, sk', S, e, q⟩ => by
  unfold callE permA appA at e
  split at e
  · cases e
  rename_i ds s1 e1
  split at e1
  · cases e1
  rename_i es s2 e2
  split at e2
  · cases e2
  rename_i as s3 e3
  split at e2
  · cases e2
  rename_i bs s4 e4
  cases e2
  cases e1
  split at e <;> cases e
  rename_i e5
  refine ⟨O, sk, ev, as, s3, S, e3, fun vs H1 S1 x1 d1 => ⟨O, s3, ev, bs, _, S1, e4, fun zs H2 S2 x2 d2 => ⟨d1.length.symm.trans (hA _ _ _ _ e3), d2.length.symm.trans (hK _ _ _ _ e4), ?_⟩⟩⟩
  have d1' := DFs.mono S1.ol (S1.kp x2) .refl _ _ d1
  exact ⟨O, _, d, S2.ol, (d1'.append d2).perm pm, by rw [List.length_map], e5, fun v H' ex dv => q v H' (S2.ex ex) ((x1.trans x2).trans ex.xt) (.of dv)⟩
theorem de_callKD {pm : List Nat} {m : Nat} (D : DefOk X.prog X.w X.K X.mg X.base k x st ps (spV X.K pm.length f)) (hr : Room k X.A) (ha : DA X F own (e :: es) As) (hkw : PK X kws (tA X.K F own Ks)) (hA : chk n As) (hK : chk ks.length Ks)
    (hb : ∀ (kV doc pm' : Value) (an : Option Addr) (cdv ct : Value) (us ws : List Value), us.length = n → ws.length = ks.length → bindArgs (PySem.W.fnOf x x (defArgs st) (defBody st) (defScope st) .none kV doc pm' an cdv ct) ⟨us, ks.zip ws⟩ = pure (ps.zip (pm.map fun i => (us ++ ws).getD i .none)))
    (hg : Gl X x := by rfl) (hall : (backToKw pos (keywordEach kws X.env)).all (·.1.isSome) = true := by rfl) (hks : (backToKw pos (keywordEach kws X.env)).filterMap (·.1) = ks := by rfl)
    (hdb : (x == ("__debug__" : Str)) = false := by decide) (he : starEach (e :: es) X.env = (false, eval e X.env) :: starEach es X.env := by rfl)
    (hpl : ((backTo pos (starEach (e :: es) X.env)).any (·.1) || (backToKw pos (keywordEach kws X.env)).any (·.1.isNone)) = false := by rfl) :
    DE X F own false (.Call (.Name x p) (e :: es) kws pos) (callE f (permA pm (appA As Ks))) := by
  obtain ⟨fa, fd, hF, G, hm, _⟩ := D
  exact PE.conv (pe_callN G hr hg hm hF.kp (kbn_of hF n ks pm hb) pass0 ha hkw hall hks hdb he hpl) (callK_conv hA hK)
/-- keywords alone -/
theorem pe_callN0 {CX : CXT} {fa : Addr} {fd : FuncData} {sp : Sp} {E : XK} {tk : TA} {g : List Value → List Value → List Value} {gV : List V → List V → List V} (G : FnOk X.prog X.w X.K X.mg X.base CX k fa fd ps sp) (hr : Room k X.A) (hg : Gl X x) (hm : X.mg x = some (.ref fa)) (hk : PySem.W.keepIn X.K (.ref fa) = true) (hb : KBn X.K fd ps 0 ks g gV) (hx : Passes CX X E)
    (hkw : PK X kws tk) (hall : (backToKw pos (keywordEach kws X.env)).all (·.1.isSome) = true := by rfl) (hks : (backToKw pos (keywordEach kws X.env)).filterMap (·.1) = ks := by rfl) (hdb : (x == ("__debug__" : Str)) = false := by decide)
    (hpl : ((backTo pos (starEach [] X.env)).any (·.1) || (backToKw pos (keywordEach kws X.env)).any (·.1.isNone)) = false := by rfl) :
    PE X (.Call (.Name x p) [] kws pos) (tCallN 0 ks.length sp gV E tNil tk) := by
  constructor
  intro pins s σ H Q I h
  refine wpAny_Call_Name_kw (ld_glob I hg hm ?_ hdb)
  refine PySem.W.callWith_KW0 (h₀ := X.base) I.ok.mod.kin hk hall ?_ hpl
  obtain ⟨run⟩ := hkw
  refine thn (run pos pins s σ H _ I h) fun ws s2 ⟨zs, H2, I2, rz, l1, l2, q2⟩ => ⟨I2.kIn, ?_⟩
  rw [hks]
  exact run_fnN (us := []) (vs := []) G hr hb hx I2 .nil rz rfl l2 q2
theorem de_callKD0 {pm : List Nat} (D : DefOk X.prog X.w X.K X.mg X.base k x st ps (spV X.K pm.length f)) (hr : Room k X.A) (hkw : PK X kws (tA X.K F own Ks)) (hK : chk ks.length Ks)
    (hb : ∀ (kV doc pm' : Value) (an : Option Addr) (cdv ct : Value) (us ws : List Value), us.length = 0 → ws.length = ks.length → bindArgs (PySem.W.fnOf x x (defArgs st) (defBody st) (defScope st) .none kV doc pm' an cdv ct) ⟨us, ks.zip ws⟩ = pure (ps.zip (pm.map fun i => (us ++ ws).getD i .none)))
    (hg : Gl X x := by rfl) (hall : (backToKw pos (keywordEach kws X.env)).all (·.1.isSome) = true := by rfl) (hks : (backToKw pos (keywordEach kws X.env)).filterMap (·.1) = ks := by rfl) (hdb : (x == ("__debug__" : Str)) = false := by decide)
    (hpl : ((backTo pos (starEach [] X.env)).any (·.1) || (backToKw pos (keywordEach kws X.env)).any (·.1.isNone)) = false := by rfl) :
    DE X F own false (.Call (.Name x p) [] kws pos) (callE f (permA pm (appA nilA Ks))) := by
  obtain ⟨fa, fd, hF, G, hm, _⟩ := D
  refine PE.conv (pe_callN0 G hr hg hm hF.kp (kbn_of hF 0 ks pm hb) pass0 hkw hall hks hdb hpl) fun σ H Q h => ?_
  obtain ⟨O, sk, ev, ds, sk', S, e, q⟩ := callK_conv (E' := E0) chk_nil hK σ H Q h
  cases e
  exact q [] H S .refl rfl
end
end Dn
namespace Dn
open PySem PySem.Spec PyProof.Rows L2
theorem dn_lc {X : Cx} {F : Fm} {own vs ts : List Nat} {top : Bool} {I : IF_} {G : GF} {T : BF} {E : EF} {e : Expr} (h : PE X e (tLc (tI X.K F own top I) (tGd X.K F own ts G) (tT X.K F own T) (tD X.K F own false E) vs)) (hs : (ts.all fun i => vs.contains i) = true) (h0 : F.io = none ∨ 0 ∉ vs) :
    DN X F own e (lcE I G T E vs) := PE.conv h (lc_conv hs h0)
def isi_int (n : String) : Bool := n == "int" || n == "bool"
def isi_bool (n : String) : Bool := n == "bool"
def isi_str (n : String) : Bool := n == "str"
def isi_tuple (n : String) : Bool := n == "tuple"
def isi_list (n : String) : Bool := n == "list"
theorem pe_gcd {X : Cx} {x : Str} {p pos : Pos} {e : Expr} {es : List Expr} {t : TA} (hg : Gl X x) (hm : X.mg x = some (.builtin "math.gcd")) (ha : PA X (e :: es) t) (hdb : (x == ("__debug__" : Str)) = false := by decide)
    (he : starEach (e :: es) X.env = (false, eval e X.env) :: starEach es X.env := by rfl) (hpl : (backTo pos (starEach es X.env)).any (·.1) = false := by rfl) : PE X (.Call (.Name x p) (e :: es) [] pos) (tCB rGcd t) :=
  pe_callBfun cr_gcd hg hm ha hdb he hpl
def divmodQ : D → D → Option D
  | .int i, .int j => if decide (0 < j) && divOk i j then some (.tup [.int (i / j), .int (i % j)]) else none
  | _, _ => none
theorem c2_divmod {K : PySem.W.Frag} : C2S K divmodQ (fun xs H Q => ∃ i j, xs = [.int i, .int j] ∧ CDivP i j ∧ ∀ p, H p = none → Q (.ref p) (upd H p (.tup [.int (i / j), .int (i % j)]))) := fun F O H x y dx dy d Q ol hx hy e q => by
  cases dx <;> cases dy <;> try (cases e)
  rename_i i0 j0
  simp only [divmodQ] at e
  by_cases hz : (decide (0 < j0) && divOk i0 j0) = true
  case neg => rw [if_neg hz] at e; cases e
  rw [if_pos hz] at e
  cases e
  simp only [divOk, Bool.and_eq_true, Bool.not_eq_true', decide_eq_true_eq] at hz
  exact ⟨_, _, by rw [hx.int, hy.int], ⟨hz.1, hz.2.2⟩, fun p hp => q _ _ (Ex.new hp) ⟨p, _, rfl, .inl (.inl upd_same), _, _, rfl, rfl, _, _, rfl, rfl, rfl⟩⟩
/-! ### enumerate -/
def enumL : Nat → List D → List D
  | _, [] => []
  | i, d :: ds => .tup [.int (i : Nat), d] :: enumL (i + 1) ds
theorem enumL_length : ∀ (ds : List D) (i : Nat), (enumL i ds).length = ds.length
  | [], _ => rfl
  | d :: ds, i => by unfold enumL; rw [List.length_cons, List.length_cons, enumL_length ds]
theorem enumL_get : ∀ (ds : List D) (k i : Nat) (d : D), (enumL k ds)[i]? = some d → ∃ a, ds[i]? = some a ∧ d = .tup [.int ((k + i : Nat) : Int), a]
  | [], _, _, _, h => by simp [enumL] at h
  | a :: as, k, 0, d, h => by simp [enumL] at h; exact ⟨a, rfl, by rw [← h]; rfl⟩
  | a :: as, k, i + 1, d, h => by
    obtain ⟨b, h1, h2⟩ := enumL_get as (k + 1) i d (by simpa [enumL] using h)
    refine ⟨b, by simpa using h1, ?_⟩
    rw [h2, show k + 1 + i = k + (i + 1) by omega]
def enumI (a : EF) : IF_ := fun sk ev => match a sk ev with
  | some (.lst ds, s1) => some (enumL 0 ds, s1)
  | _ => none
section
variable {X : Cx} {F : Fm} {own : List Nat} {top : Bool} {a tg e : Expr} {Ea E E1 : EF}
theorem pair_new {K : PySem.W.Frag} {O2 : Addr → Prop} {H2 H3 : Hp} {T : Addr} {x y : V} {da db : D} (ol : OL O2 H2) (hT : H2 T = none) (e3 : H3 = upd H2 T (.tup [x, y])) (dx : DF K H2 O2 da x) (dy : DF K H2 O2 db y) : Ex H2 H3 ∧ DF K H3 O2 (.tup [da, db]) (.ref T) := by
  subst e3
  exact ⟨Ex.new hT, T, [x, y], rfl, .inl (.inl upd_same), x, [y], rfl, dx.ex ol (Ex.new hT), y, [], rfl, dy.ex ol (Ex.new hT), rfl⟩
theorem di_enum {t : TE} (ht : t = tD X.K F own top Ea) (h : PI X tg a (iEnum X.K (tCons t tNil))) : PI X tg a (tI X.K F own top (enumI Ea)) := PI.conv h fun σ H Q ⟨O, sk, ev, ds, sk', S, e, q⟩ => by
  subst ht
  unfold enumI at e
  split at e
  · rename_i e1
    cases e
    refine ⟨O, sk, ev, _, _, S, e1, fun v1 H1 S1 x1 d1 => ?_⟩
    obtain ⟨p1, xs, rfl, hp1, sp1, st1⟩ := d1.stays S1.ol
    refine ⟨p1, xs, rfl, .inl (.inl hp1), q _ H1 S1 x1 fun O3 H3 z => ?_⟩
    obtain ⟨hq1, sq1⟩ := st1 O3 H3 z
    have W := walk_enum (K := X.K) (a := p1) (xs := xs)
    have G : SqL X.K H3 p1 xs := .inl (.inl hq1)
    refine ⟨fun i d hd => ?_, ?_⟩
    · obtain ⟨da, ha, rfl⟩ := enumL_get _ 0 i d hd
      have h1 := sq1.lt ha
      refine ⟨W.goes i H3 (by omega) G, fun x H4 y => ?_⟩
      obtain ⟨T, x0, y0, rfl, hT, e4, hx, hy⟩ := W.yields i H3 x H4 (by omega) G y
      obtain ⟨x', hx', dx⟩ := sq1.get ha
      have hy2 : xs[i]? = some y0 := hy
      rw [hy2] at hx'; cases hx'
      have hx2 : some (V.int (i : Nat)) = some x0 := hx
      cases hx2
      exact pair_new z.2.2.2 hT e4 (by rw [Nat.zero_add]; rfl) dx
    · rw [enumL_length, sq1.length]; exact W.stops H3 G
  · cases e
theorem upTo_rev_get {n i : Nat} {d : D} (h : (upTo 0 n).reverse[i]? = some d) : i < n ∧ d = .int ((n : Int) - 1 - i) := by
  have hl := (List.getElem?_eq_some_iff.mp h).1
  rw [List.length_reverse, upTo_length] at hl
  rw [List.getElem?_reverse (by rw [upTo_length]; exact hl), upTo_length] at h
  obtain ⟨_, h2⟩ := upTo_get n 0 _ d h
  refine ⟨hl, ?_⟩
  rw [h2]; congr 1; omega
theorem di_revR {t : TE} (ht : t = tD X.K F own true Ea) (h : PI X tg a (iRevR (tRg1 t))) : PI X tg a (tI X.K F own top (revRI Ea)) := PI.conv h fun σ H Q ⟨O, sk, ev, ds, sk', S, e, q⟩ => by
  subst ht
  unfold revRI at e
  split at e
  · rename_i n s1 e1
    split at e <;> cases e
    rename_i hz
    simp only [Bool.and_eq_true, decide_eq_true_eq] at hz
    refine ⟨O, sk, ev, _, _, S, e1, fun v1 H1 S1 x1 d1 => ⟨n, d1.int, by omega, by omega, by omega, by omega, q _ H1 S1 x1 fun O3 H3 z => ⟨fun i d hd => ?_, ?_⟩⟩⟩
    · obtain ⟨h1, rfl⟩ := upTo_rev_get hd
      refine ⟨by show i < (n - 0).toNat; omega, fun x H4 y => ?_⟩
      obtain ⟨rfl, rfl⟩ : H4 = H3 ∧ x = .int (0 + ((((n - 0).toNat : Nat) : Int)) - 1 + (i : Nat) * (-1)) := ⟨y.1, y.2⟩
      exact ⟨fun _ _ h => h, by show V.int _ = V.int _; congr 1; omega⟩
    · rw [List.length_reverse, upTo_length]
      show (n - 0).toNat ≤ n.toNat
      omega
  · cases e
end
/-! ### the sack: its cells -/
def skixE (E : EF) : EF := fun sk ev => match E sk ev with
  | none => none
  | some (i, s1) => match ixQ s1 i with
    | none => none
    | some d => some (d, s1)
section
variable {X : Cx} {F : Fm} {own own' ol : List Nat} {fr : Bool} {st : Stmt} {a b : Expr} {Eb E E1 : EF} {pos : Pos}
theorem de_skix (hb : DE X F own true b Eb) (ha : PE X a (tVar 0)) (hio : F.io.isSome = true := by rfl) (hs : PlainIx b := by intro _ _; rfl) : DE X F own false (.Subscript a b pos) (skixE Eb) := PE.conv (pe_ix ix_list ha hb hs) fun σ H Q ⟨O, sk, ev, d, sk', S, e, q⟩ => by
  unfold skixE at e
  split at e
  · cases e
  rename_i i s1 e1
  split at e <;> cases e
  rename_i e2
  obtain ⟨a, ha⟩ := Option.isSome_iff_exists.mp hio
  obtain ⟨ho, hs, _⟩ := S.sack a ha
  refine ⟨.ref a, hs, O, sk, ev, i, _, S, e1, fun v H1 S1 x1 dv => ?_⟩
  obtain ⟨_, _, xs, ks, rfl, h2, h3⟩ := S1.sack a ha
  cases i <;> try (cases e2)
  obtain ⟨x, hx, dx⟩ := h3.atI (show L2.atI ks _ = some d from e2)
  exact ⟨a, xs, _, x, rfl, dv.int, .inl (.inl h2), hx, q x H1 S1 x1 (.of dx)⟩
theorem SR.setK {K : PySem.W.Frag} {O : Addr → Prop} {H : Hp} {σ : L2.St} {ks : List D} {ev : VE} (S : SR K F own O H σ (.lst ks) ev) {a : Addr} {es : List D} {ys : List V} (ha : F.io = some a) (hd : DFs K H O es ys) :
    SR K F own O (upd H a (.lst ys)) σ (.lst es) ev := by
  have ho := S.io_O ha
  have k : Kp O H (upd H a (.lst ys)) := fun b o nb hb => by rw [upd_ne (fun z => nb (by rw [z]; exact ho))]; exact hb
  refine S.step (fun b o nb hb => by rw [upd_ne (fun z => nb (by rw [z]; exact ha))]; exact hb) (fun _ h => h) (fun _ h => .inl h) fun b hb => ?_
  rw [ha] at hb; cases hb
  exact ⟨ys, es, rfl, upd_same, DFs.mono S.ol k .refl _ _ hd⟩
def setKS (Ei Ev : EF) : SF := fun sk ev => match Ev sk ev with
  | none => none
  | some (d, s1) => match Ei s1 ev with
    | some (.int k, .lst ks) => (match ixN ks.length k with
      | some j => some (.nx (.lst (ks.set j d)) ev)
      | none => none)
    | _ => none
/-- sack[i] = e -/
theorem ds_setK (h : PS X st (tAsg (tD X.K F own false E) (gSub (tVar 0) (tD X.K F own true E1) rSetL))) (hio : F.io.isSome = true := by rfl) : DS X F own own ol fr st (setKS E1 E) := PS.conv h fun Dn σ H ⟨O, sk, ev, f, S, e, q⟩ => by
  unfold setKS at e
  split at e
  · cases e
  rename_i d s1 e1
  split at e
  · rename_i k ks e2
    split at e <;> cases e
    rename_i j hj
    obtain ⟨a, ha⟩ := Option.isSome_iff_exists.mp hio
    obtain ⟨ho, hs, _⟩ := S.sack a ha
    refine ⟨O, sk, ev, d, s1, S, e1, fun v H1 S1 x1 dv => ⟨.ref a, hs, O, s1, ev, _, _, S1, e2, fun v2 H2 S2 x2 dv2 => ?_⟩⟩
    obtain ⟨_, _, xs, ks', hk, h2, h3⟩ := S2.sack a ha
    cases hk
    have dv' : DF X.K H2 O d v := DF.mono S1.ol (S1.kp x2) .refl _ _ dv.clean
    refine ⟨a, xs, k, j, rfl, dv2.int, h2, by rw [← h3.length]; exact hj, ?_⟩
    exact q O σ _ (S2.setK ha (h3.set j dv')) ((S.kp (x1.trans x2)).trans .refl fun b o nb hb => by rw [upd_ne (fun z => nb (by rw [z]; exact S2.io_O ha))]; exact hb) .refl
  · cases e
/-! ### targets that change lists -/
abbrev XF := D → D → VE → Option (D × VE)
abbrev XFs := List D → D → VE → Option (D × VE)
def tGx (K : PySem.W.Frag) (F : Fm) (own : List Nat) (G : XF) : TG := fun v σ H Q => ∃ O sk ev d sk' ev', SR K F own O H σ sk ev ∧ DF K H O d v ∧ G d sk ev = some (sk', ev') ∧ ∀ σ' H', SR K F own O H' σ' sk' ev' → Kp O H H' → Q σ' H'
def tGxs (K : PySem.W.Frag) (F : Fm) (own : List Nat) (G : XFs) : TGs := fun v σ H Q => ∃ O sk ev d sk' ev', SR K F own O H σ sk ev ∧ DFs K H O d v ∧ G d sk ev = some (sk', ev') ∧ ∀ σ' H', SR K F own O H' σ' sk' ev' → Kp O H H' → Q σ' H'
def nameX (i : Nat) : XF := fun d sk ev => some (sk, ev.set i (some d))
def subX (i : Nat) (Ei : EF) : XF := fun d sk ev => match Ei sk ev with
  | some (.int k, s2) => (match ev[i]? with
    | some (some (.lst ds)) => (match ixN ds.length k with
      | some j => some (s2, ev.set i (some (.lst (ds.set j d))))
      | none => none)
    | _ => none)
  | _ => none
def subKX (Ei : EF) : XF := fun d sk ev => match Ei sk ev with
  | some (.int k, .lst ks) => (match ixN ks.length k with
    | some j => some (.lst (ks.set j d), ev)
    | none => none)
  | _ => none
def nilX : XFs := fun ds sk ev => match ds with
  | [] => some (sk, ev)
  | _ => none
def consX (g : XF) (gs : XFs) : XFs := fun ds sk ev => match ds with
  | d :: r => (match g d sk ev with
    | some (s1, e1) => gs r s1 e1
    | none => none)
  | _ => none
def tupX (n : Nat) (g : XFs) : XF := fun d sk ev => match d with
  | .tup ds => if ds.length = n then g ds sk ev else none
  | _ => none
def asgXS (E : EF) (G : XF) : SF := fun sk ev => match E sk ev with
  | none => none
  | some (d, s1) => match G d s1 ev with
    | some (s2, e2) => some (.nx s2 e2)
    | none => none
theorem dx_name {i : Nat} {e : Expr} (h : PG X e (gName i)) (hi : own.contains i = false) (h0 : F.io = none ∨ i ≠ 0) : PG X e (tGx X.K F own (nameX i)) := PG.conv h fun v σ H Q ⟨O, sk, ev, d, sk', ev', S, hd, e, q⟩ => by
  cases e
  exact q _ H (S.put hi h0 hd) .refl
theorem dx_sub {i : Nat} {e : Expr} (h : PG X e (gSub (tVar i) (tD X.K F own true E1) rSetL)) (hi : own.contains i = true) : PG X e (tGx X.K F own (subX i E1)) := PG.conv h fun v σ H Q ⟨O, sk, ev, d, sk', ev', S, dv, e, q⟩ => by
  unfold subX at e
  split at e
  · rename_i k s2 e2
    split at e
    · rename_i ds he
      split at e <;> cases e
      rename_i j hj
      obtain ⟨hm, a, xs, hs, ha, ho, h0, hio, hd⟩ := S.ownAt hi he
      refine ⟨.ref a, hs, O, sk, ev, _, _, S, e2, fun v2 H2 S2 x2 dv2 => ?_⟩
      have ha2 := x2 a _ hio ha
      have hd2 : DFs X.K H2 O ds xs := DFs.mono S.ol (S.kp x2) .refl _ _ hd
      have dv' : DF X.K H2 O d v := DF.mono S.ol (S.kp x2) .refl _ _ dv
      refine ⟨a, xs, k, j, rfl, dv2.int, ha2, by rw [← hd.length]; exact hj, ?_⟩
      exact q σ _ (S2.setO hm he hs (hd2.set j dv')) ((S.kp x2).trans .refl fun b o nb hb => by rw [upd_ne (fun z => nb (by rw [z]; exact ho))]; exact hb)
    · cases e
  · cases e
theorem dx_subK {e : Expr} (h : PG X e (gSub (tVar 0) (tD X.K F own true E1) rSetL)) (hio : F.io.isSome = true := by rfl) : PG X e (tGx X.K F own (subKX E1)) := PG.conv h fun v σ H Q ⟨O, sk, ev, d, sk', ev', S, dv, e, q⟩ => by
  unfold subKX at e
  split at e
  · rename_i k ks e2
    split at e <;> cases e
    rename_i j hj
    obtain ⟨a, ha⟩ := Option.isSome_iff_exists.mp hio
    obtain ⟨ho, hs, _⟩ := S.sack a ha
    refine ⟨.ref a, hs, O, sk, ev, _, _, S, e2, fun v2 H2 S2 x2 dv2 => ?_⟩
    obtain ⟨_, _, xs, ks', hk, h2, h3⟩ := S2.sack a ha
    cases hk
    have dv' : DF X.K H2 O d v := DF.mono S.ol (S.kp x2) .refl _ _ dv
    refine ⟨a, xs, k, j, rfl, dv2.int, h2, by rw [← h3.length]; exact hj, ?_⟩
    exact q σ _ (S2.setK ha (h3.set j dv')) ((S.kp x2).trans .refl fun b o nb hb => by rw [upd_ne (fun z => nb (by rw [z]; exact S2.io_O ha))]; exact hb)
  · cases e
theorem dxs_nil : PGs X [] (tGxs X.K F own nilX) := PGs.conv pgs_nil fun v σ H Q ⟨O, sk, ev, d, sk', ev', S, dv, e, q⟩ => by
  cases d <;> cases e
  exact ⟨dv, q σ H S .refl⟩
theorem dxs_cons {g : XF} {gs : XFs} {e : Expr} {es : List Expr} (h : PG X e (tGx X.K F own g)) (hr : PGs X es (tGxs X.K F own gs)) (hs : (assignEach (e :: es) X.env).map (·.2) = assign e X.env :: (assignEach es X.env).map (·.2) := by rfl) : PGs X (e :: es) (tGxs X.K F own (consX g gs)) := PGs.conv (pgs_cons h hr hs) fun v σ H Q ⟨O, sk, ev, d, sk', ev', S, dv, e, q⟩ => by
  cases d with
  | nil => cases e
  | cons d ds =>
  unfold consX at e
  simp only at e
  split at e
  case h_2 => cases e
  rename_i s1 e1 h2
  obtain ⟨x, r, rfl, dx, dr⟩ := dv
  exact ⟨x, r, rfl, O, sk, ev, d, s1, e1, S, dx, h2, fun σ1 H1 S1 k1 => ⟨O, s1, e1, ds, sk', ev', S1, DFs.mono S.ol k1 .refl _ _ dr, e, fun σ2 H2 S2 k2 => q σ2 H2 S2 (k1.trans .refl k2)⟩⟩
theorem dx_tup {gs : XFs} {es : List Expr} {k n : Nat} {pos : Pos} (hc : X.calm = true) (h : PGs X es (tGxs X.K F own gs)) (hn : (assignEach es X.env).length = n := by rfl) (hst : (assignEach es X.env).findIdx? (·.1) = none := by rfl) : PG X (.Tuple es k pos) (tGx X.K F own (tupX n gs)) := PG.conv (pg_tup hc h hn hst) fun v σ H Q ⟨O, sk, ev, d, sk', ev', S, dv, e, q⟩ => by
  unfold tupX at e
  split at e
  · rename_i ds
    split at e <;> try (cases e)
    rename_i hl
    obtain ⟨a, xs, rfl, hq, ds'⟩ := dv
    exact ⟨a, xs, rfl, hq, ds'.length.symm.trans hl, O, sk, ev, ds, sk', ev', S, ds', e, q⟩
  · cases e
theorem asgX_of {G : XF} (h : PS X st (tAsg (tD X.K F own false E) (tGx X.K F own G))) : DS X F own own ol fr st (asgXS E G) := PS.conv h fun Dn σ H ⟨O, sk, ev, f, S, e, q⟩ => by
  unfold asgXS at e
  split at e
  · cases e
  rename_i d s1 e1
  split at e <;> cases e
  rename_i s2 e2 hG
  exact ⟨O, sk, ev, d, s1, S, e1, fun v H1 S1 x1 dv => ⟨O, s1, ev, d, _, _, S1, dv.clean, hG, fun σ2 H2 S2 k2 => q O σ2 H2 S2 ((S.kp x1).trans .refl k2) .refl⟩⟩
/-! ### name += e, name[i] += e -/
def addI : D → D → Option D
  | .int i, .int j => some (.int (i + j))
  | _, _ => none
def subI : D → D → Option D
  | .int i, .int j => some (.int (i - j))
  | _, _ => none
def augE (f : Int → Int → Int) (i : Nat) (E : EF) : EF := fun sk ev => match ev[i]? with
  | some (some (.int a)) => (match E sk ev with
    | some (.int b, s1) => some (.int (f a b), s1)
    | _ => none)
  | _ => none
theorem ds_aug {f : Int → Int → Int} {i : Nat} (h : PS X st (tAug i (tD X.K F own false E) (ipI f))) (hi : own.contains i = false) (h0 : F.io = none ∨ i ≠ 0) : DS X F own own ol fr st (asgS (augE f i E) (nameG i)) := PS.conv h fun Dn σ H ⟨O, sk, ev, fl, S, e, q⟩ => by
  unfold asgS augE at e
  split at e
  case h_2 => cases e
  rename_i d s1 e1
  split at e1
  case h_2 => cases e1
  rename_i a ha
  split at e1
  case h_2 => cases e1
  rename_i b s2 e2
  cases e1
  cases e
  obtain ⟨v, hv, dv⟩ := S.val i _ ha (fun z => by simp at hi; exact hi z)
  cases (show v = .int a from dv)
  exact ⟨_, hv, O, sk, ev, _, _, S, e2, fun v2 H1 S1 x1 dv2 => ⟨a, b, rfl, dv2.int, q O _ H1 (S1.put hi h0 (show DF X.K H1 O (.int _) _ from rfl)) (S.kp x1) .refl⟩⟩
theorem get_ix : PGet X (rIxL X.K) := by
  intro pins s σ H o i ov iv Q I ro ri h
  obtain ⟨p, xs, k, z, rfl, rfl, hq, he, q⟩ := h
  cases ro
  obtain ⟨t, rfl⟩ := ri
  obtain ⟨its, r, pl, _⟩ := I.list hq
  obtain ⟨j, h1, h2, h3, h4, h5⟩ := atI_get he
  obtain ⟨w, ew, rw'⟩ := r.get h2
  have hl := r.length
  have hn := line63
  rcases Int.lt_or_le k 0 with h0 | h0
  · have hj : (k + (its.toArray.size : Int)).toNat = j := by
      rw [seqIndex_neg (by omega) h4] at h1
      have := Option.some.inj h1
      rw [List.size_toArray, ← hl]; exact this
    exact wpAny_getItem_list_neg pl.isList h0 (by rw [List.size_toArray]; omega) (by omega) (x := w) (by rw [hj]; simpa using ew) ⟨z, H, I, rw', q⟩
  · have hj : k.toNat = j := by
      rw [seqIndex_of h0 h5] at h1
      exact Option.some.inj h1
    exact wpAny_getItem_list pl.isList h0 (by omega) (x := w) (by rw [hj]; simpa using ew) ⟨z, H, I, rw', q⟩
def augsetS (i : Nat) (Ei Ev : EF) : SF := fun sk ev => match Ei sk ev with
  | some (.int k, s1) => (match ev[i]? with
    | some (some (.lst ds)) => (match ixN ds.length k with
      | some j => (match ds[j]? with
        | some (.int a) => (match Ev s1 ev with
          | some (.int b, s2) => some (.nx s2 (ev.set i (some (.lst (ds.set j (.int (a + b)))))))
          | _ => none)
        | _ => none)
      | none => none)
    | _ => none)
  | _ => none
theorem ds_augset {i : Nat} {Ei : EF} (h : PS X st (tAugS (tVar i) (tD X.K F own true Ei) (tD X.K F own false E) (rIxL X.K) (ipI fun a b => a + b) rSetL)) (hi : own.contains i = true := by rfl) : DS X F own own ol fr st (augsetS i Ei E) := PS.conv h fun Dn σ H ⟨O, sk, ev, fl, S, e, q⟩ => by
  unfold augsetS at e
  split at e
  case h_2 => cases e
  rename_i k s1 e1
  split at e
  case h_2 => cases e
  rename_i ds he
  split at e
  case h_2 => cases e
  rename_i j hj
  split at e
  case h_2 => cases e
  rename_i a0 hja
  split at e
  case h_2 => cases e
  rename_i b0 s2 e2
  cases e
  obtain ⟨hm, a, xs, hs, ha, ho, h0, hio, hd⟩ := S.ownAt hi he
  refine ⟨.ref a, hs, O, sk, ev, _, _, S, e1, fun v1 H1 S1 x1 dv1 => ?_⟩
  have hd1 : DFs X.K H1 O ds xs := DFs.mono S.ol (S.kp x1) .refl _ _ hd
  obtain ⟨x0, hx0, dx0⟩ := hd1.get hja
  cases (show x0 = .int a0 from dx0)
  have hjx : ixN xs.length k = some j := by rw [← hd.length]; exact hj
  refine ⟨a, xs, k, _, rfl, dv1.int, .inl (.inl (x1 a _ hio ha)), by unfold L2.atI; rw [hjx]; exact hx0, O, _, ev, _, _, S1, e2, fun v2 H2 S2 x2 dv2 => ⟨a0, b0, rfl, dv2.int, ?_⟩⟩
  have hd2 : DFs X.K H2 O ds xs := DFs.mono S1.ol (S1.kp x2) .refl _ _ hd1
  refine ⟨a, xs, k, j, rfl, dv1.int, (x1.trans x2) a _ hio ha, hjx, ?_⟩
  exact q O σ _ (S2.setO hm he hs (hd2.set j (show DF X.K H2 O (.int _) _ from rfl))) ((S.kp (x1.trans x2)).trans .refl fun b o nb hb => by rw [upd_ne (fun z => nb (by rw [z]; exact ho))]; exact hb) .refl
end
end Dn
namespace Dn
open PySem PySem.Spec PyProof.Rows L2
/-! ### zip(xs, ys) as a value of a name, walked once afterwards -/
def dropF (fp : List Addr) (H : Hp) : Hp := fun c => if c ∈ fp then none else H c
/-- the zip object z over the lists at a, b has just been made: H is H1 and its five objects -/
def ZV (X : Cx) (H1 H : Hp) (v : V) (a b : Addr) : Prop := ∃ z TI TO i1 i2, v = .ref z ∧ ZipApart z TI TO i1 i2 a b ∧ H1 = dropF [z, TI, TO, i1, i2] H ∧ (∀ c, c ∈ [z, TI, TO, i1, i2] → X.s_0.heap.objs.size ≤ c ∧ c ∉ X.fs) ∧
  H z = some (.ext fun h => IsZip h z TI TO .none) ∧ H TI = some (.ext fun h => IsPair h TI (.ref i1) (.ref i2)) ∧ H TO = some (.ext fun h => ∃ x y, IsPair h TO x y) ∧ H i1 = some (.ext fun h => h.IsListIter i1 a (0 : Nat)) ∧ H i2 = some (.ext fun h => h.IsListIter i2 b (0 : Nat))
def tZipV (X : Cx) (ta : TA) : TE := fun σ H Q => ta σ H fun vs H1 => ∃ a b xs ys, vs = [.ref a, .ref b] ∧ SqL X.K H1 a xs ∧ SqL X.K H1 b ys ∧ ∀ z H2, ZV X H1 H2 z a b → Q z H2
def iZipV (X : Cx) (i : Nat) : TI := fun σ H R => ∃ H1 v a b xs ys, σ[i]? = some (some v) ∧ ZV X H1 H v a b ∧ SqL X.K H1 a xs ∧ SqL X.K H1 b ys ∧ R (Itz X.K a b) H1
section
variable {X : Cx} {pins : List (Addr × Obj)} {σ : L2.St} {H H1 : Hp} {s : Shared}
/-- tracked things of the def's own are tracked no more -/
theorem Inv.drops (I : Inv X pins σ H s) {fp : List Addr} (hx : ∀ c, c ∈ fp → ∃ φ, H c = some (.ext φ)) : Inv X pins σ (dropF fp H) s := by
  have out : ∀ b, b ∉ fp → dropF fp H b = H b := fun b hb => by unfold dropF; rw [if_neg hb]
  have kept : ∀ b o, (∀ φ, o ≠ .ext φ) → H b = some o → dropF fp H b = some o := fun b o ne e => by
    rw [out b fun hb => ?_]
    · exact e
    · obtain ⟨φ, q⟩ := hx b hb
      rw [e] at q; cases q; exact ne _ rfl
  have none_ : ∀ b, H b = none → dropF fp H b = none := fun b e => by
    unfold dropF; split
    · rfl
    · exact e
  refine I.step (g' := s.gens) (t' := s.toks) (d' := s.drawn) (ch := []) (fun b hb => absurd hb (by simp)) (fun b o _ _ _ e _ => e) (fun b o _ _ _ e _ => ⟨o.slots, e⟩)
    (fun b o _ _ n => none_ b n) (fun b o _ e => ⟨o, e⟩) (fun b xs e => kept b _ (fun _ z => by cases z) e) (fun b o u e => kept b _ (fun _ z => by cases z) e) (fun b ps e => ⟨#[], by rw [kept b _ (fun _ z => by cases z) e]; simp⟩) (fun m hm => hm) (fun b u e => ?_) I.bare
  have e' : H b = some u := by
    unfold dropF at e
    split at e
    · cases e
    · exact e
  exact (I.hok b u e').stay (fun c v _ q => q) (fun c q => kept c _ (fun _ z => by cases z) q) fun c xs q => kept c _ (fun _ z => by cases z) q
def zipN (H : Nat → Option HO) (n a b c : Nat) : Option HO := if c = n + 4 then some (.ext fun h => IsZip h (n + 4) (n + 2) (n + 3) .none) else if c = n + 3 then some (.ext fun h => ∃ x y, IsPair h (n + 3) x y) else
  if c = n + 2 then some (.ext fun h => IsPair h (n + 2) (.ref n) (.ref (n + 1))) else if c = n + 1 then some (.ext fun h => h.IsListIter (n + 1) b (0 : Nat)) else if c = n then some (.ext fun h => h.IsListIter n a (0 : Nat)) else H c
def zipH (H : Hp) (n a b : Nat) : Hp := fun c => zipN H n a b c
theorem zipH_lt {n a b c : Nat} (h : c < n) : zipH H n a b c = H c := by
  show zipN H n a b c = _
  unfold zipN
  rw [if_neg (by omega), if_neg (by omega), if_neg (by omega), if_neg (by omega), if_neg (by omega)]
theorem zipH_ge {n a b c : Nat} (h : n + 4 < c) : zipH H n a b c = H c := by
  show zipN H n a b c = _
  unfold zipN
  rw [if_neg (by omega), if_neg (by omega), if_neg (by omega), if_neg (by omega), if_neg (by omega)]
theorem five {n c : Nat} (h1 : n ≤ c) (h2 : c ≤ n + 4) : c = n + 4 ∨ c = n + 2 ∨ c = n + 3 ∨ c = n ∨ c = n + 1 := by omega
theorem five_ge {n c : Nat} (h : c = n + 4 ∨ c = n + 2 ∨ c = n + 3 ∨ c = n ∨ c = n + 1) : n ≤ c ∧ c ≤ n + 4 := by omega
theorem five_no {n c : Nat} (h : ¬ (c = n + 4 ∨ c = n + 2 ∨ c = n + 3 ∨ c = n ∨ c = n + 1)) : c < n ∨ n + 4 < c := by omega
theorem zipH_4 {n a b : Nat} : zipH H n a b (n + 4) = some (.ext fun h => IsZip h (n + 4) (n + 2) (n + 3) .none) := by show zipN H n a b _ = _; unfold zipN; rw [if_pos rfl]
theorem zipH_3 {n a b : Nat} : zipH H n a b (n + 3) = some (.ext fun h => ∃ x y, IsPair h (n + 3) x y) := by show zipN H n a b _ = _; unfold zipN; rw [if_neg (by omega), if_pos rfl]
theorem zipH_2 {n a b : Nat} : zipH H n a b (n + 2) = some (.ext fun h => IsPair h (n + 2) (.ref n) (.ref (n + 1))) := by show zipN H n a b _ = _; unfold zipN; rw [if_neg (by omega), if_neg (by omega), if_pos rfl]
theorem zipH_1 {n a b : Nat} : zipH H n a b (n + 1) = some (.ext fun h => h.IsListIter (n + 1) b (0 : Nat)) := by show zipN H n a b _ = _; unfold zipN; rw [if_neg (by omega), if_neg (by omega), if_neg (by omega), if_pos rfl]
theorem zipH_0 {n a b : Nat} : zipH H n a b n = some (.ext fun h => h.IsListIter n a (0 : Nat)) := by show zipN H n a b _ = _; unfold zipN; rw [if_neg (by omega), if_neg (by omega), if_neg (by omega), if_neg (by omega), if_pos rfl]
theorem pe_zipV {e e2 : Expr} {ta : TA} {p pos : Pos} (hg : Gl X "zip") (hm : X.mg "zip" = none) (ha : PA X [e, e2] ta)
    (hs : starEach [e, e2] X.env = (false, eval e X.env) :: starEach [e2] X.env := by rfl) (hpl : (backTo pos (starEach [e2] X.env)).any (·.1) = false := by rfl) :
    PE X (.Call (.Name "zip" p) [e, e2] [] pos) (tZipV X ta) := by
  refine ⟨fun pins s σ H Q I h => ?_⟩
  refine Call_ (ld_blt I hg hm PyProof.Rows.boot_zip (PyProof.Rows.callWith_type1 (thn (ha.run pos pins s σ H _ I h) fun us s1 ⟨vs, H1, I1, r1, q1⟩ => ?_) hs hpl))
  obtain ⟨a, b, xs, ys, ex, hqx, hqy, q⟩ := q1
  subst ex
  cases r1 with
  | cons r rr =>
    cases rr with
    | cons r' rr =>
      cases rr
      cases r
      cases r'
      obtain ⟨its, rv, p1, _⟩ := I1.list hqx
      obtain ⟨its2, rv2, p2, _⟩ := I1.list hqy
      refine call_zip_2 p1.isList p2.isList fun h' hz hTI hTO h1 h2 hsz hk => ?_
      have ap := PySem.W.ktu_apart s1.heap.objs.size a b p1.lt p2.lt
      have fr : ∀ c, s1.heap.objs.size ≤ c → H1 c = none := fun c hc => I1.hok.fresh hc
      generalize hn : s1.heap.objs.size = n at *
      have I2 : Inv X pins σ H1 { s1 with heap := h' } := I1.kept (t' := s1.toks) hk
      have hob : ∀ {c : Addr} {φ : Heap → Prop}, φ h' → (∃ o, h'.get? c = some o) → (∀ h1 h2 : Heap, φ h1 → (∀ o, h1.get? c = some o → h2.get? c = some o) → φ h2) → ∀ H', ObjOk X.prog X.w H' h' c (.ext φ) := fun h1 h2 h3 H' => ⟨h1, h2, h3⟩
      have keep : ∀ b' o, H1 b' = some o → zipH H1 n a b b' = some o := fun b' o e => by
        rcases Nat.lt_or_ge b' n with k | k
        · rw [zipH_lt k]; exact e
        · rw [fr b' k] at e; cases e
      have J : HOk X.prog X.w (zipH H1 n a b) h' := by
        intro c o hc
        by_cases h5 : c = n + 4 ∨ c = n + 2 ∨ c = n + 3 ∨ c = n ∨ c = n + 1
        · rcases h5 with k | k | k | k | k <;> subst k
          · rw [zipH_4] at hc; cases hc
            exact hob hz ⟨_, hz⟩ (fun h1 h2 q k => k _ q) _
          · rw [zipH_2] at hc; cases hc
            exact hob hTI ⟨_, hTI⟩ (fun h1 h2 q k => k _ q) _
          · rw [zipH_3] at hc; cases hc
            exact hob ⟨_, _, hTO⟩ ⟨_, hTO⟩ (fun h1 h2 ⟨x, y, q⟩ k => ⟨x, y, k _ q⟩) _
          · rw [zipH_0] at hc; cases hc
            exact hob h1 (let ⟨o, e, _⟩ := h1; ⟨o, e⟩) (fun h1 h2 q k => q.at k) _
          · rw [zipH_1] at hc; cases hc
            exact hob h2 (let ⟨o, e, _⟩ := h2; ⟨o, e⟩) (fun h1 h2 q k => q.at k) _
        · have hc' : H1 c = some o := by
            rcases five_no h5 with k | k
            · rw [zipH_lt k] at hc; exact hc
            · rw [zipH_ge k] at hc; exact hc
          exact (I2.hok c o hc').stay (fun c v _ q => q) (fun c q => keep c _ q) fun c xs q => keep c _ q
      have IE : Inv X pins σ (zipH H1 n a b) { s1 with heap := h' } := by
        refine I1.step (g' := s1.gens) (t' := s1.toks) (d' := s1.drawn) (ch := []) (fun b hb => absurd hb (by simp)) (fun b o _ _ _ e _ => hk b o e) (fun b o _ _ _ e _ => ⟨o.slots, hk b o e⟩)
          (fun b' o _ e hb => ?_) (fun b o _ e => ⟨o, hk b o e⟩) (fun b xs e => keep b _ e) (fun b o u e => keep b _ e) (fun b ps e => ⟨#[], by rw [keep b _ e]; simp⟩) (fun m hm => ?_) J I1.bare
        · have hlt : b' < n := by rw [← hn]; exact Heap.lt_size e
          rw [zipH_lt hlt]; exact hb
        · obtain ⟨o, es, ep, ho, r⟩ := hm
          exact ⟨o, es, ep, hk _ o ho, r⟩
      refine ⟨.ref (n + 4), zipH H1 n a b, IE, rfl, q _ (zipH H1 n a b) ⟨n + 4, n + 2, n + 3, n, n + 1, rfl, ap, ?_, fun c hc => ?_, zipH_4, zipH_2, zipH_3, zipH_0, zipH_1⟩⟩
      · funext c
        unfold dropF
        split
        · rename_i hc
          exact fr c (five_ge (by simpa using hc)).1
        · rename_i hc
          rcases five_no (by simpa using hc) with k | k
          · rw [zipH_lt k]
          · rw [zipH_ge k]
      · have h1 := (five_ge (show c = n + 4 ∨ c = n + 2 ∨ c = n + 3 ∨ c = n ∨ c = n + 1 by simpa using hc)).1
        rw [← hn] at h1
        exact ⟨Nat.le_trans I1.sz h1, I1.nofs h1⟩
theorem pi_zipV {i : Nat} {e : Expr} {elts : List Expr} {kk : Nat} {tpos : Pos} (he : PE X e (tVar i)) : PI X (.Tuple elts kk tpos) e (iZipV X i) := by
  refine ⟨fun pins s σ H R I h => ?_⟩
  obtain ⟨H1, v, a, b, xs, ys, hv, zv, hqx, hqy, q⟩ := h
  refine thn (he.run pins s σ H (fun w H' => w = v ∧ H' = H) I ⟨v, hv, rfl, rfl⟩) fun u s1 ⟨w, H', I1, r1, ew, eH⟩ => ?_
  subst ew eH
  obtain ⟨z, TI, TO, i1, i2, rfl, ap, rfl, hn, gz, gTI, gTO, g1, g2⟩ := zv
  cases r1
  have ex : ∀ c, c ∈ [z, TI, TO, i1, i2] → ∃ φ, H' c = some (.ext φ) := fun c hc => by
    have e' : c = z ∨ c = TI ∨ c = TO ∨ c = i1 ∨ c = i2 := by simpa using hc
    rcases e' with k | k | k | k | k <;> subst k
    · exact ⟨_, gz⟩
    · exact ⟨_, gTI⟩
    · exact ⟨_, gTO⟩
    · exact ⟨_, g1⟩
    · exact ⟨_, g2⟩
  have ID := Inv.drops I1 ex
  have oz := (I1.hok _ _ gz).1
  have oTI := (I1.hok _ _ gTI).1
  have oTO := (I1.hok _ _ gTO).1
  have o1 := (I1.hok _ _ g1).1
  have o2 := (I1.hok _ _ g2).1
  refine wpAny_pyIter_zip oz ?_
  refine ⟨z, [z, TI, TO, i1, i2], _, _, _, rfl, ID, turn_zip ap, ⟨oz, oTI, oTO, o1, o2⟩, fun c hc => ?_, q⟩
  obtain ⟨φ, hφ⟩ := ex c hc
  refine ⟨by unfold dropF; rw [if_pos hc], fun k => ?_, (hn c hc).2, .inr (hn c hc).1, fun x c' e k => ?_, fun p hp k => ?_⟩
  · rw [k, I1.free] at hφ; cases hφ
  · rw [← k, I1.freeC x c' e] at hφ; cases hφ
  · rw [← k, (I1.pin p hp).2.1] at hφ; cases hφ
end
theorem it_zip {K : PySem.W.Frag} {F : Fm} {top : Bool} {O : Addr → Prop} {H : Hp} {as bs : List D} {v1 v2 : V} (ol : OL O H) (h1 : DV top K F H O (.lst as) v1) (h2 : DV top K F H O (.lst bs) v2) :
    ∃ a b xs ys, v1 = .ref a ∧ v2 = .ref b ∧ SqL K H a xs ∧ SqL K H b ys ∧ ItOk K F top O H (zipL as bs) (Itz K a b) := by
  obtain ⟨p1, xs, rfl, hp1, sp1, st1⟩ := h1.stays ol
  obtain ⟨p2, ys, rfl, hp2, sp2, st2⟩ := h2.stays ol
  refine ⟨p1, p2, xs, ys, rfl, rfl, .inl (.inl hp1), .inl (.inl hp2), fun O3 H3 z => ?_⟩
  obtain ⟨hq1, sq1⟩ := st1 O3 H3 z
  obtain ⟨hq2, sq2⟩ := st2 O3 H3 z
  have W := walk_zip (K := K) (a := p1) (b := p2) (xs := xs) (ys := ys) rfl
  have G : SqL K H3 p1 xs ∧ SqL K H3 p2 ys := ⟨.inl (.inl hq1), .inl (.inl hq2)⟩
  refine ⟨fun i d hd => ?_, ?_⟩
  · obtain ⟨da, db, ha, hb, rfl⟩ := zipL_get _ _ i d hd
    have h1 := sq1.lt ha
    have h2 := sq2.lt hb
    refine ⟨W.goes i H3 (by omega) G, fun x H4 y => ?_⟩
    obtain ⟨T, x0, y0, rfl, hT, e4, hx, hy⟩ := W.yields i H3 x H4 (by omega) G y
    obtain ⟨x', hx', dx⟩ := sq1.get ha
    obtain ⟨y', hy', dy⟩ := sq2.get hb
    have hx2 : xs[i]? = some x0 := hx
    have hy2 : ys[i]? = some y0 := hy
    rw [hx2] at hx'; cases hx'
    rw [hy2] at hy'; cases hy'
    exact pair_new z.2.2.2 hT e4 dx dy
  · rw [zipL_length, sq1.length, sq2.length]; exact W.stops H3 G
theorem SR.blank {K : PySem.W.Frag} {F : Fm} {own : List Nat} {O : Addr → Prop} {H : Hp} {σ : L2.St} {sk : D} {ev : VE} (S : SR K F own O H σ sk ev) {i : Nat} {v : V} (h0 : F.io = none ∨ i ≠ 0) : SR K F own O H (σ.set i (some v)) sk (ev.set i none) := by
  have ne : ∀ {j : Nat} {d : D}, (ev.set i none)[j]? = some (some d) → i ≠ j ∧ ev[j]? = some (some d) := fun {j d} h => by
    by_cases hj : i = j
    · subst hj
      by_cases hl : i < ev.length
      · rw [List.getElem?_set_self hl] at h; cases h
      · rw [List.getElem?_eq_none (by rw [List.length_set]; omega)] at h; cases h
    · rw [List.getElem?_set_ne hj] at h
      exact ⟨hj, h⟩
  refine ⟨by rw [List.length_set, List.length_set]; exact S.len, fun j d hd nj => ?_, fun j d hd hj => ?_, fun j k d e a hj hk h1 h2 h3 h4 => ?_, S.ol, S.pres, S.o0, S.ow, S.ol0, fun a ha => ?_⟩
  · obtain ⟨n, h⟩ := ne hd
    rw [List.getElem?_set_ne n]
    exact S.val j d h nj
  · obtain ⟨n, h⟩ := ne hd
    rw [List.getElem?_set_ne n]
    exact S.ownd j d h hj
  · obtain ⟨n1, k1⟩ := ne h1
    obtain ⟨n2, k2⟩ := ne h2
    rw [List.getElem?_set_ne n1] at h3
    rw [List.getElem?_set_ne n2] at h4
    exact S.inj j k d e a hj hk k1 k2 h3 h4
  · obtain ⟨h1, h2, h3⟩ := S.sack a ha
    refine ⟨h1, ?_, h3⟩
    rw [List.getElem?_set_ne fun z => ?_]
    · exact h2
    · rcases h0 with q | q
      · rw [ha] at q; cases q
      · exact q z
/-- the names' walked pairs, then what is made of them -/
def zipS (i : Nat) (Ea Eb : EF) (M : List D → EF) : SF := fun sk ev => match Ea sk ev with
  | some (.lst as, s1) => (match Eb s1 ev with
    | some (.lst bs, s2) => if i < ev.length then retS (M (zipL as bs)) s2 (ev.set i none) else none
    | _ => none)
  | _ => none
def overE (G : GF) (E : EF) (vs : List Nat) (ds : List D) : EF := lcE (fun s _ => some (ds, s)) G yesB E vs
def notAnyE (G : GF) (E : EF) (vs : List Nat) (ds : List D) : EF := unE notQ (unE anyQ (overE G E vs ds))
section
variable {X : Cx} {F : Fm} {own own' ol vs ts : List Nat} {s1 s2 : Stmt} {i : Nat} {Ea Eb E : EF} {G : GF}
theorem dss_zipNotAny (h : PSs X [s1, s2] (tSeq (tAsg (tZipV X (tCons (tD X.K F own false Ea) (tCons (tD X.K F own false Eb) tNil))) (gName i))
    (tRet (tNotV (tCB (rAny X.K) (tCons (tLc (iZipV X i) (tGd X.K F own ts G) (tT X.K F own yesB) (tD X.K F own false E) vs) tNil))))))
    (hs : (ts.all fun i => vs.contains i) = true) (h0 : F.io = none ∨ i ≠ 0) (h1 : F.io = none ∨ 0 ∉ vs) : DSs X F own own' ol false [s1, s2] (zipS i Ea Eb (notAnyE G E vs)) := PSs.conv h fun Dn σ H ⟨O, sk, ev, f, S, e, q⟩ => by
  unfold zipS at e
  split at e
  case h_2 => cases e
  rename_i as sk1 e1
  split at e
  case h_2 => cases e
  rename_i bs sk2 e2
  split at e
  case isFalse => cases e
  rename_i hi
  rw [S.len] at hi
  unfold retS at e
  split at e <;> cases e
  rename_i d sk3 eM
  unfold notAnyE unE at eM
  split at eM
  · cases eM
  rename_i d2 s4 e4
  split at e4
  · cases e4
  rename_i d5 s5 e5
  unfold overE lcE at e5
  simp only at e5
  split at e5
  · cases e5
  rename_i xs s6 e6
  split at e5 <;> cases e5
  rename_i hz
  split at e4 <;> cases e4
  rename_i e7
  split at eM <;> cases eM
  rename_i e8
  refine ⟨O, sk, ev, _, _, S, e1, fun v1 H1 S1 x1 d1 => ⟨O, _, ev, _, _, S1, e2, fun v2 H2 S2 x2 d2 => ?_⟩⟩
  obtain ⟨a, b, as', bs', rfl, rfl, hqa, hqb, it⟩ := it_zip S2.ol (d1.xt S1.ol (S1.kp x2) x2) d2
  refine ⟨a, b, as', bs', rfl, hqa, hqb, fun z Hz zv => ?_⟩
  have S3 := S2.blank (i := i) (v := z) h0
  refine ⟨H2, z, a, b, as', bs', List.getElem?_set_self hi, zv, hqa, hqb, ?_⟩
  refine lc_body (Q := fun x H1 => rAny X.K [x] H1 fun y H2 => ∃ c, y = .bl c ∧ Dn.rt (.bl (!c)) H2) hs h1 e6 hz S3 Xt.refl it (fun p ys H' S' x hn hn2 hp hd => ?_) fun c hc => hc
  simp only [anyQ] at e7
  split at e7
  case h_2 => cases e7
  rename_i cs hb
  cases e7
  cases toBls_eq hb
  cases hd.bls
  refine ⟨p, cs, rfl, .inl (.inl hp), _, rfl, ?_⟩
  cases e8
  have S'' := S'.less S3 hn2 x
  exact q _ H' (S''.rt (show DF X.K H' O (.bl _) _ from rfl))
/-- name = zip(..); return [..] -/
theorem dss_zipLc (h : PSs X [s1, s2] (tSeq (tAsg (tZipV X (tCons (tD X.K F own false Ea) (tCons (tD X.K F own false Eb) tNil))) (gName i))
    (tRet (tLc (iZipV X i) (tGd X.K F own ts G) (tT X.K F own yesB) (tD X.K F own false E) vs))))
    (hs : (ts.all fun i => vs.contains i) = true) (h0 : F.io = none ∨ i ≠ 0) (h1 : F.io = none ∨ 0 ∉ vs) : DSs X F own own' ol true [s1, s2] (zipS i Ea Eb (overE G E vs)) := PSs.conv h fun Dn σ H ⟨O, sk, ev, f, S, e, q⟩ => by
  unfold zipS at e
  split at e
  case h_2 => cases e
  rename_i as sk1 e1
  split at e
  case h_2 => cases e
  rename_i bs sk2 e2
  split at e
  case isFalse => cases e
  rename_i hi
  rw [S.len] at hi
  unfold retS at e
  split at e <;> cases e
  rename_i d sk3 eM
  unfold overE lcE at eM
  simp only at eM
  split at eM
  · cases eM
  rename_i xs s6 e6
  split at eM <;> cases eM
  rename_i hz
  refine ⟨O, sk, ev, _, _, S, e1, fun v1 H1 S1 x1 d1 => ⟨O, _, ev, _, _, S1, e2, fun v2 H2 S2 x2 d2 => ?_⟩⟩
  obtain ⟨a, b, as', bs', rfl, rfl, hqa, hqb, it⟩ := it_zip S2.ol (d1.xt S1.ol (S1.kp x2) x2) d2
  refine ⟨a, b, as', bs', rfl, hqa, hqb, fun z Hz zv => ?_⟩
  have S3 := S2.blank (i := i) (v := z) h0
  refine ⟨H2, z, a, b, as', bs', List.getElem?_set_self hi, zv, hqa, hqb, ?_⟩
  refine lc_body (Q := fun x H1 => Dn.rt x H1) hs h1 e6 hz S3 Xt.refl it (fun p ys H' S' x hn hn2 hp hd => ?_) fun c hc => hc
  exact q _ H' (S'.rtN (.inr rfl) (S3.fresh0 hn) hp hd)
end
end Dn
namespace Dn
open PySem PySem.Spec PyProof.Rows L2
/-! ### repr: where no object is being shown -/
def isSq : D → Bool
  | .lst _ => true
  | .tup _ => true
  | _ => false
def okS (d : D) : Bool := isSq d && (toP d).showable && !(toP d).hasDict && decide ((toP d).depth ≤ 30) && decide ((toP d).shown.length ≤ SZ)
def reprS : D → Option D
  | .str x => if (reprText x).length ≤ SZ then some (.str (reprText x)) else none
  | _ => none
def reprQ (d : D) : Option D := if okS d then some (.str (toP d).shown) else reprS d
def rShow (K : PySem.W.Frag) : List V → Hp → VK → Prop := fun vs H Q => (∃ (a : Addr) (d : PyData), vs = [.ref a] ∧ Dp K H (.ref a) d ∧ d.showable = true ∧ d.hasDict = false ∧ d.depth ≤ 30 ∧ d.shown.length ≤ sizeLine ∧ Q (.str d.shown) H) ∨ ∃ x : Str, vs = [.str x] ∧ (reprText x).length ≤ sizeLine ∧ Q (.str (reprText x)) H
theorem call_show {X : Cx} (hg : X.A.guards = some []) (hu : X.A.units + 64 < cLine) : CallR X (.builtin "repr") (rShow X.K) := by
  intro pins s σ H vs us Q I r h
  rcases h with ⟨a, d, rfl, hd, h1, h2, h3, h4, q⟩ | ⟨x, rfl, hz, q⟩
  case inr =>
    obtain ⟨u, rfl, t, rfl⟩ := vals1 r
    exact PySem.P.repr_of_str ⟨.str _, H, I.tok _, ⟨_, rfl⟩, q⟩ hz
  cases r with
  | cons r0 rr =>
    cases rr
    obtain ⟨as, rd⟩ := Dp.reads I d _ _ hd r0
    cases r0
    refine repr_of_reads' rd h1 (fun z => ?_) hg (by omega) (fun _ _ e => e) (fun h' u tk k => ?_) h4
    · rw [h2] at z; cases z
    · exact ⟨.str d.shown, H, I.kept (t' := tk) k, ⟨_, rfl⟩, q⟩
theorem c1_repr {K : PySem.W.Frag} : C1S K reprQ (rShow K) := fun F O H x dx d Q ol hx e q => by
  unfold reprQ at e
  split at e
  case isFalse =>
    unfold reprS at e
    split at e
    · split at e <;> cases e
      rename_i hk
      exact .inr ⟨_, by rw [hx.str], sz_le hk, q _ H (fun _ _ h => h) rfl⟩
    · cases e
  rename_i hk
  cases e
  simp only [okS, Bool.and_eq_true, Bool.not_eq_true', decide_eq_true_eq] at hk
  obtain ⟨⟨⟨⟨k1, k2⟩, k3⟩, k4⟩, k5⟩ := hk
  have hdp := hx.dp
  have ha : ∃ a, x = .ref a := by
    cases dx <;> try (cases k1)
    · obtain ⟨a, xs, rfl, _⟩ := hx.lst
      exact ⟨a, rfl⟩
    · obtain ⟨a, xs, rfl, _⟩ := hx.tup
      exact ⟨a, rfl⟩
  obtain ⟨a, rfl⟩ := ha
  exact .inl ⟨a, _, rfl, hdp k3, k2, k3, k4, sz_le k5, q _ H (fun _ _ h => h) rfl⟩
def neS : D → D → Option D
  | .str x, .str y => some (.bl (!(x == y)))
  | _, _ => none
def eqS : D → D → Option D
  | .str x, .str y => some (.bl (x == y))
  | _, _ => none
/-! ### defs that are called where no object is being shown -/
structure FnG (P : Program) (w : World) (K : PySem.W.Frag) (mg : Str → Option Value) (base : Heap) (k : Nat) (f : Addr) (fd : FuncData) (ps : List Str) (sp : Sp) : Prop where
  len : ∀ vs H Q E, sp vs H Q E → vs.length = ps.length
  run : ∀ (A : Around) (outer : List PySem.Env) (s : Shared) (H : Hp) (args : Args) (us : List Value) (vs : List V) (Q : VK) (E : XK), A.guards = some [] → Room k A → Env0 P w K mg base A outer s H →
    BindsTo s fd args (ps.zip us) → Vals vs us → sp vs H Q E → codeAny (model P w) A (.call (.ref f) args) (CR CX0 outer P w H s Q E) s
section
variable {P : Program} {w : World} {K : PySem.W.Frag} {mg : Str → Option Value} {base : Heap} {x qual : Str} {st : Stmt} {f : Addr} {fd : FuncData} {N ps : List Str} {k : Nat} {sp : Sp}
theorem fn_G (F : Fun K x qual st f fd) (S : FnScope N ps (defScope st)) (len : ∀ vs H Q E, sp vs H Q E → vs.length = ps.length)
    (hb : ∀ (cv : Value) (A : Around) (o : List PySem.Env) (s : Shared) (H : Hp) (vs : List V) (Q : VK) (E : XK), A.guards = some [] → Room k (A.deeper (envOfC qual (defScope st) s.heap.objs.size f cv)) → sp vs H Q E →
      ∃ t, PSs (cxOf CX0 P w K mg base N qual (defScope st) f cv A o s H E).nox (defBody st) t ∧ t { nx := fun _ H' => Q .non H', rt := Q } (L2.start N vs) H) : FnG P w K mg base (k + 1) f fd ps sp := by
  obtain ⟨oc, od, kV, doc, pm, an, cv, ct, osl, rfl, lk, hcd⟩ := F.ex
  refine ⟨len, fun A o s H args us vs Q E hg hr e0 hbd r hs => ?_⟩
  -- for this one place the promise is kept as a promise of its own, by the rule for defs
  have kin : K.In s.heap := e0.mod.kin.keeps fun b u e => (e0.bs b u e).1
  have two : ∀ y ∈ ps.zip us, (defScope st).names.lookup y.1 = some .local ∨ ((defScope st).names.lookup y.1 = some .cell ∧ ((cellsFrom (s.heap.objs.size + 1) (defScope st).names []).lookup y.1).isSome = true) := by
    rintro ⟨n, v⟩ hy
    rcases S.par n (List.of_mem_zip hy).1 with z | z
    · exact .inl z
    · exact .inr ⟨z, PySem.W.cellsFrom_some _ _ _ (.inl z)⟩
  refine codeAny_call_function hr.depth (kin _ _ lk) rfl S.co S.gen rfl (PySem.W.codeRec_of kin hcd) (hbd _ _ _ _ (wpAny_newFunctionEnv_cells S.kind two fun env he s1 ic => ?_))
  subst he
  have nl : s1.heap.NoLimit := (e0.mod.nolimit.keeps fun b u e => (e0.bs b u e).1).keeps ic.toInCall.keep
  refine ⟨nl, codeAny_func ?_⟩
  obtain ⟨t, ht, hq⟩ := hb cv A o s H vs Q E hg (hr.deeper _) hs
  have I0 : Inv (cxOf CX0 P w K mg base N qual (defScope st) f cv A o s H E) [] (L2.start N vs) H s1 := inv_start S hr.hd e0 (len _ _ _ _ hs) r ic
  refine wpAny_mono (ht.nox.run [] s1 (L2.start N vs) H _ I0 hq) (fun fl s2 hf => ?_) fun _ _ z => z
  cases fl with
  | ret u => exact let ⟨v, σ2, H2, J, rv, qv⟩ := hf; ⟨v, H2, J.os, J.bare, J.base, J.hok, rv, qv⟩
  | next => exact let ⟨σ2, H2, J, qv⟩ := hf; ⟨.non, H2, J.os, J.bare, J.base, J.hok, rfl, qv⟩
  | brk => exact (let ⟨_, _, _, z⟩ := hf; z : False).elim
  | cont => exact (let ⟨_, _, _, z⟩ := hf; z : False).elim
end
/-- a def of the program that shows things -/
def DefG (P : Program) (w : World) (K : PySem.W.Frag) (mg : Str → Option Value) (base : Heap) (k : Nat) (x : Str) (st : Stmt) (ps : List Str) (sp : Sp) : Prop :=
  ∃ f fd, Fun K x x st f fd ∧ FnG P w K mg base k f fd ps sp ∧ mg x = some (.ref f) ∧ Binds K fd ps []
section
variable {X : Cx} {x : Str} {p pos : Pos} {e : Expr} {es : List Expr} {k : Nat} {ps : List Str} {sp : Sp} {f : Addr} {fd : FuncData} {t : TA}
theorem pe_callG (F : FnG X.prog X.w X.K X.mg X.base k f fd ps sp) (hgd : X.A.guards = some []) (hr : Room k X.A) (hg : Gl X x) (hm : X.mg x = some (.ref f)) (hk : PySem.W.keepIn X.K (.ref f) = true) (hb : Binds X.K fd ps [])
    (ha : PA X (e :: es) t) (hdb : (x == ("__debug__" : Str)) = false := by decide) (he : starEach (e :: es) X.env = (false, eval e X.env) :: starEach es X.env := by rfl) (hpl : (backTo pos (starEach es X.env)).any (·.1) = false := by rfl) :
    PE X (.Call (.Name x p) (e :: es) [] pos) (tCall sp [] E0 t) := by
  refine ⟨fun pins s σ H Q I h => wpAny_Call_Name_kw (ld_glob I hg hm ?_ hdb)⟩
  refine PySem.W.callWith_K (h₀ := X.base) I.ok.mod.kin hk (thn (ha.run pos pins s σ H _ I h) fun us s1 ⟨vs, H1, I1, r, q⟩ => ⟨I1.kIn, ?_⟩) he hpl
  have q' : sp vs H1 Q E0 := by rw [← List.append_nil vs]; exact q
  have hl : (us ++ []).length = ps.length := by rw [List.append_nil, ← r.length]; exact F.len _ _ _ _ q'
  have bd := hb s1 us I1.kIn hl
  rw [List.append_nil] at bd
  refine wpAny_call (codeAny_mono (F.run X.A X.stack s1 H1 ⟨us, []⟩ us vs Q E0 hgd hr I1.env0 bd r q') fun r s' hq => ?_)
  cases r with
  | error e => exact pass0 pins σ H1 s1 e s' I1 hq
  | ok fl =>
    cases fl with
    | ret u => exact I1.after hq
    | _ => exact False.elim hq
end
/-! ### the law's own call -/
theorem ints_DFs {K : PySem.W.Frag} {H : Hp} {O : Addr → Prop} : ∀ ns : List Int, DFs K H O (ns.map .int) (ns.map V.int)
  | [] => rfl
  | n :: ns => ⟨_, _, rfl, rfl, ints_DFs ns⟩
section
variable {P : Program} {w : World} {K : PySem.W.Frag} {mg mb : Str → Option Value} {k : Nat} {fa a : Addr} {fd : FuncData} {x : Str} {s₁ : Shared} {vs : List Value} {ns : List Int} {f : List D → Option D}
/-- the script a thing of its own in the abstract heap H, and no more there -/
theorem call_from (H : Hp) (only : ∀ b, b ≠ a → H b = none) (hS : ScL K H a (ns.map V.int)) (hok : HOk P w H s₁.heap) (hfz : ∀ u, H a = some u → ∃ o xs, u = .frz o (.lst xs)) (hK : H a ≠ none → K.lookup a = none)
    (KX : K.In s₁.heap) (gN : s₁.heap.Ns mainGlobals mg) (bN : s₁.heap.Ns builtinsNs mb) (bB : ∀ x : Str, x ≠ "__name__" → mb x = bootBuiltins x) (nl : s₁.heap.NoLimit) (gE : s₁.gens = #[])
    (ha : s₁.heap.get? a = some { cls := .type "list", data := .seq vs.toArray }) (hr : Room k callerA)
    (F : ∀ base : Heap, K.In base → base.Ns mainGlobals mg → FnG P w K mg base k fa fd [x] (spV K 1 f)) (bd : ∀ (s : Shared) (u : Value), BindsTo s fd ⟨[u], []⟩ [(x, u)]) (hf : f [.scr (ns.map .int)] = some (.bl true)) :
    codeAny (model P w) callerA (.call (.ref fa) ⟨[.ref a], []⟩) (fun r s' => r = .ok (.ret (.bool true)) ∧ OldK s₁.heap s'.heap ∧ s'.os = s₁.os ∧ AllBare s'.gens) s₁ := by
  have far : ∀ {b : Addr} {o : Obj}, s₁.heap.get? b = some o → (∀ its n, o.data ≠ .seq its n) → H b = none := by
    intro b o e nd
    refine only b fun z => ?_
    rw [z, ha] at e
    cases e
    exact nd _ _ rfl
  have shown : ∀ {b : Addr} {o : Obj}, s₁.heap.get? b = some o → H b = none → (hidT s₁.heap H).get? b = some o := fun e z => hidT_get e z
  have names : ∀ {b : Addr} {m : Str → Option Value}, s₁.heap.Ns b m → (hidT s₁.heap H).Ns b m := by
    rintro b m ⟨o, es, ep, e, dd, r⟩
    exact ⟨o, es, ep, shown e (far e fun its n z => by rw [dd] at z; cases z), dd, r⟩
  have kin : K.In (hidT s₁.heap H) := by
    intro b o e
    refine shown (KX b o e) ?_
    by_cases z : b = a
    · subst z
      by_cases hn : H b = none
      · exact hn
      · rw [hK hn] at e; cases e
    · exact only b z
  have md : Mod K mg (hidT s₁.heap H) := ⟨kin, names gN, ⟨mb, names bN, bB⟩, nl.elim fun mc z => ⟨mc, names z.1, z.2⟩⟩
  have nofs : ∀ b, b ∉ ([] : List Addr) := fun b => List.not_mem_nil
  have e0 : Env0 P w K mg (hidT s₁.heap H) callerA [] s₁ H := ⟨rfl, md, fun b o e => of_hidT e, Nat.le_of_eq (hidT_size _ _), trivial, fun b hb => (nofs b hb).elim, hok, .of_eq gE⟩
  have start : spV K 1 f [.ref a] H (fun v _ => v = .bl true) (fun _ _ _ => False) :=
    ⟨fun _ => False, [.scr (ns.map .int)], .bl true, fun _ z => z.elim, ⟨_, _, rfl, ⟨a, _, rfl, hS, ints_DFs ns⟩, rfl⟩, rfl, hf, fun v H' _ dv => dv⟩
  refine codeAny_mono ((F _ kin (names gN)).run callerA [] s₁ H ⟨[.ref a], []⟩ [.ref a] [.ref a] _ _ rfl hr e0 (bd s₁ (.ref a)) (.cons rfl .nil) start) fun r s' hq => ?_
  cases r with
  | error e => exact False.elim hq
  | ok fl =>
    cases fl with
    | ret u =>
      obtain ⟨v, H', os, bare, un, hok', ru, ev⟩ := hq
      cases (show v = .bl true from ev)
      cases (show u = Value.bool true from ru)
      refine ⟨rfl, OldK.of_keep fun b o e => ?_, os, bare⟩
      cases eb : H b with
      | none => exact un.keep b o e eb (nofs b) (nofs b)
      | some u =>
        have hb : b = a := Classical.byContradiction fun z => by rw [only b z] at eb; cases eb
        subst hb
        obtain ⟨ob, xs, rfl⟩ := hfz u eb
        have k1 := (hok b _ eb).1
        rw [e] at k1
        cases k1
        exact (hok' b _ (un.frzs b _ _ eb)).1
    | _ => exact False.elim hq
theorem law_callG (KX : K.In s₁.heap) (gN : s₁.heap.Ns mainGlobals mg) (bN : s₁.heap.Ns builtinsNs mb) (bB : ∀ x : Str, x ≠ "__name__" → mb x = bootBuiltins x) (nl : s₁.heap.NoLimit) (gE : s₁.gens = #[])
    (ha : s₁.heap.get? a = some { cls := .type "list", data := .seq vs.toArray }) (hi : IntsAre vs ns) (hl : ns.length ≤ sizeLine) (hr : Room k callerA)
    (F : ∀ base : Heap, K.In base → base.Ns mainGlobals mg → FnG P w K mg base k fa fd [x] (spV K 1 f)) (bd : ∀ (s : Shared) (u : Value), BindsTo s fd ⟨[u], []⟩ [(x, u)]) (hf : f [.scr (ns.map .int)] = some (.bl true)) :
    codeAny (model P w) callerA (.call (.ref fa) ⟨[.ref a], []⟩) (fun r s' => r = .ok (.ret (.bool true)) ∧ OldK s₁.heap s'.heap ∧ s'.os = s₁.os ∧ AllBare s'.gens) s₁ := by
  have rv := vals_ints hi
  cases hk : K.lookup a with
  | some o =>
    have e := KX a o hk
    rw [ha] at e
    cases e
    refine call_from (fun _ => none) (fun _ _ => rfl) (.inr ⟨_, vs.toArray, _, hk, rfl, rfl, rfl, ?_, by simpa using rv⟩) (fun b u z => by cases z) (fun u z => by cases z) (fun z => (z rfl).elim) KX gN bN bB nl gE ha hr F bd hf
    rw [List.size_toArray, hi.length]; exact hl
  | none =>
    have hit : ∀ b, b ≠ a → (if b = a then some (HO.frz { cls := .type "list", data := .seq vs.toArray } (.lst (ns.map V.int))) else none) = none := fun b hb => if_neg hb
    refine call_from (fun b => if b = a then some (.frz { cls := .type "list", data := .seq vs.toArray } (.lst (ns.map V.int))) else none) hit (.inl ⟨_, if_pos rfl⟩) (fun b u z => ?_) (fun u z => ?_) (fun _ => hk) KX gN bN bB nl gE ha hr F bd hf
    · by_cases hb : b = a
      · subst hb
        cases (if_pos rfl).symm.trans z
        exact ⟨ha, by rw [List.length_map]; exact hl, vs, _, rv, ha⟩
      · exact nomatch (hit b hb).symm.trans z
    · cases (if_pos rfl).symm.trans z
      exact ⟨_, _, rfl⟩
end
theorem walk_G {l : PySem.W.OpenLaw} {n k : Nat} {q : Program} {loose : List Str} {XP : (Str → Option Value) → Heap → Prop} {YP : World → Heap → Prop} {d : DefRec} {K : Params → PySem.W.Frag} {x : Str} {f : List D → Option D}
    (hn : l.most = some n) (hn2 : n ≤ sizeLine) (hdf : d.params.defaults = []) (hr : Room k callerA) (hY : ∀ (w : World) (h : Heap), YP w h → (K w.params).In h)
    (F : ∀ (w : World) (mg : Str → Option Value) (fa : Addr) (h : Heap), (K w.params).In h → h.Ns mainGlobals mg → mg d.name = some (.ref fa) →
      ∃ fd : FuncData, (∀ (s : Shared) (u : Value), BindsTo s fd ⟨[u], []⟩ [(x, u)]) ∧ ∀ base : Heap, (K w.params).In base → base.Ns mainGlobals mg → FnG l.prog w (K w.params) mg base k fa fd [x] (spV (K w.params) 1 f))
    (hf : ∀ ns : List Int, ns.length ≤ n → (∀ z ∈ ns, Builtin.Int.intBits z ≤ 1048576) → f [.scr (ns.map .int)] = some (.bl true)) :
    PySem.W.WalkO q loose XP YP l.row.toRowW d [] (fun f vs => PySem.call f vs) := by
  refine Att.attach_callB hn hdf fun w s0 s1 mg mb fa o pm cd doc a vs ns G Y ho hd hcd hmg hobj hints hlen hbits hg => ?_
  have KX := hY w _ Y
  obtain ⟨fd, hb, hF⟩ := F w mg fa _ KX G.T.g hmg
  exact law_callG KX G.T.g G.T.b G.T.builtins G.T.nolimit hg hobj hints (Nat.le_trans hlen hn2) hr hF hb (hf ns hlen hbits)
end Dn
namespace Dn
open PySem PySem.Spec PyProof.Rows L2
section
variable {P : Program} {w : World} {K : PySem.W.Frag} {mg : Str → Option Value} {base : Heap} {x qual : Str} {st : Stmt} {f : Addr} {fd : FuncData} {N ps : List Str} {k : Nat} {own' ol : List Nat} {Sd : SF}
theorem fn_VG (F : Fun K x qual st f fd) (S : FnScope N ps (defScope st))
    (hb : ∀ (cdv : Value) (A : Around) (outer : List PySem.Env) (s : Shared) (H : Hp) (E : XK) (H1 : Hp) (O : Addr → Prop), A.guards = some [] → Room k (A.deeper (envOfC qual (defScope st) s.heap.objs.size f cdv)) →
      DSs (cxOf CX0 P w K mg base N qual (defScope st) f cdv A outer s H E).nox ⟨none, H1, O, noW⟩ [] own' ol false (defBody st) Sd) : FnG P w K mg base (k + 1) f fd ps (spV K ps.length (funV N.length Sd)) := by
  refine fn_G F S (fun vs H Q E h => ?_) (fun cdv A outer s H vs Q E hg hr h => ?_)
  · obtain ⟨O, ds, d, _, hd, hl, _⟩ := h
    exact hd.length.symm.trans hl
  · obtain ⟨O, ds, d, ol, hd, hl, hf, q⟩ := h
    refine ⟨_, hb cdv A outer s H E H O hg hr, ?_⟩
    unfold funV at hf
    split at hf
    · rename_i s1 d1 e1
      cases hf
      refine ⟨O, .non, _, _, SR.init ol hd, e1, fun v H' r => q v H' (fun b o e => r.1 b o e (fun z => nomatch z)) ?_⟩
      have r2 := r.2
      rw [if_neg Bool.false_ne_true] at r2
      exact r2.1
    · rename_i s1 d1 e1
      cases hf
      exact ⟨O, .non, _, _, SR.init ol hd, e1, fun O' σ' H' S' k o => q .non H' (fun b u e => S'.pres b u e (fun z => nomatch z)) rfl⟩
    · cases hf
theorem fn_SG (F : Fun K x qual st f fd) (S : FnScope N ps (defScope st)) (hps : ps ≠ [])
    (hb : ∀ (cdv : Value) (A : Around) (outer : List PySem.Env) (s : Shared) (H : Hp) (E : XK) (a : Addr) (H1 : Hp) (O : Addr → Prop), A.guards = some [] → Room k (A.deeper (envOfC qual (defScope st) s.heap.objs.size f cdv)) →
      DSs (cxOf CX0 P w K mg base N qual (defScope st) f cdv A outer s H E).nox ⟨some a, H1, O, noW⟩ [] own' ol false (defBody st) Sd) : FnG P w K mg base (k + 1) f fd ps (spS K (ps.length - 1) (funS N.length Sd)) := by
  refine fn_G F S (fun vs H Q E h => ?_) (fun cdv A outer s H vs Q E hg hr h => ?_)
  · obtain ⟨O, a, xs, ws, ks, ds, d, sk', rfl, _, _, _, _, hd, hl, _⟩ := h
    have h1 := hd.length
    have h2 : 0 < ps.length := List.length_pos_iff.mpr hps
    rw [List.length_cons]; omega
  · obtain ⟨O, a, xs, ws, ks, ds, d, sk', rfl, ol, ho, ha, hk, hd, hl, hf, q⟩ := h
    refine ⟨_, hb cdv A outer s H E a H O hg hr, ?_⟩
    unfold funS at hf
    split at hf
    · rename_i s1 d1 e1
      cases hf
      refine ⟨O, .lst ks, _, _, SR.initS ol hd ho ha hk, e1, fun v H' r => ?_⟩
      have r2 := r.2
      rw [if_neg Bool.false_ne_true] at r2
      obtain ⟨dv, sk⟩ := r2
      obtain ⟨xs', ks', h1, h2, h3⟩ := sk a rfl
      exact q v H' xs' ks' (fun b o nb e => r.1 b o e (fun z => nb (Option.some.inj z).symm)) h1 h2 h3 dv
    · rename_i s1 d1 e1
      cases hf
      refine ⟨O, .lst ks, _, _, SR.initS ol hd ho ha hk, e1, fun O' σ' H' S' k o => ?_⟩
      obtain ⟨_, _, xs', ks', h1, h2, h3⟩ := S'.sack a rfl
      exact q .non H' xs' ks' (fun b u nb e => S'.pres b u e (fun z => nb (Option.some.inj z).symm)) h1 h2 (DFs.mono S'.ol .refl (fun b h => .inl (S'.o0 b h)) _ _ h3) rfl
    · cases hf
end
/-- f(a new list), f changes that list -/
def callX (g : D → List D → Option (D × D)) (Ea : EF) : EF := fun sk ev => match Ea sk ev with
  | some (.lst ks, s1) => (match g (.lst ks) [] with
    | some (d, _) => some (d, s1)
    | none => none)
  | _ => none
section
variable {X : Cx} {F : Fm} {own : List Nat} {x : Str} {p pos : Pos} {e : Expr} {es : List Expr} {As : AF} {Ea : EF} {n k : Nat} {g : D → List D → Option (D × D)} {f : List D → Option D} {st : Stmt} {ps : List Str}
theorem callX_conv {E0' : XK} : ∀ σ H Q, tD X.K F own false (callX g Ea) σ H Q → tCall (spS X.K 0 g) [] E0' (tCons (tN X.K F own Ea) tNil) σ H Q := fun σ H Q ⟨O, sk, ev, d, sk', S, e, q⟩ => by
  unfold callX at e
  split at e
  case h_2 => cases e
  rename_i ks s1 e1
  split at e <;> cases e
  rename_i s2 e2
  refine ⟨O, sk, ev, _, _, S, e1, fun a xs ds H1 hd S1 x1 hn ha dv => ?_⟩
  cases hd
  refine ⟨fun b => O b ∨ b = a, a, xs, [], ks, [], d, s2, rfl, S1.ol, .inr rfl, ha, dv, rfl, rfl, e2, fun v H' xs' ks' bx _ _ _ dv' => ?_⟩
  have xt : Xt F H H' := fun b o nb hb => bx b o (fun z => by rw [z, hn] at hb; cases hb) (x1 b o nb hb)
  have S' : SR X.K F own O H' σ sk' ev := by
    refine S.step xt (fun _ h => h) (fun _ h => .inl h) fun b hb => ?_
    obtain ⟨_, _, ys, es, h1, h2, h3⟩ := S1.sack b hb
    have hne : b ≠ a := fun z => S.ol.not_none hn (by rw [← z]; exact S.io_O hb)
    refine ⟨ys, es, h1, bx b _ hne h2, DFs.mono S1.ol (fun c o nc hc => bx c o (fun z => nc (.inr z)) hc) (fun c h => .inl (.inl h)) _ _ h3⟩
  have olp : OL (fun b => O b ∨ b = a) H' := fun b hb => by
    rcases hb with hb | hb
    · exact S'.ol b hb
    · subst hb
      exact ⟨_, by assumption⟩
  exact q v H' S' xt (.of (DF.mono olp .refl (fun b h => .inl (.inl h)) _ _ dv'))
theorem de_callGX (D : DefG X.prog X.w X.K X.mg X.base k x st ps (spS X.K 0 g)) (hgd : X.A.guards = some []) (hr : Room k X.A) (ha : DN X F own e Ea) (hg : Gl X x := by rfl) (hdb : (x == ("__debug__" : Str)) = false := by decide)
    (he : starEach [e] X.env = (false, eval e X.env) :: starEach [] X.env := by rfl) (hpl : (backTo pos (starEach [] X.env)).any (·.1) = false := by rfl) : DE X F own false (.Call (.Name x p) [e] [] pos) (callX g Ea) := by
  obtain ⟨fa, fd, hF, G, hm, hb⟩ := D
  exact PE.conv (pe_callG G hgd hr hg hm hF.kp hb (pa_cons ha pa_nil he) hdb he hpl) callX_conv
theorem ds_callG (D : DefG X.prog X.w X.K X.mg X.base k x st ps (spS X.K n g)) (hgd : X.A.guards = some []) (hr : Room k X.A) (hs : PE X e (tVar 0)) (ha : DA X F own es As) (hn : chk n As) (hio : F.io.isSome = true := by rfl) (hg : Gl X x := by rfl) (hdb : (x == ("__debug__" : Str)) = false := by decide)
    (he : starEach (e :: es) X.env = (false, eval e X.env) :: starEach es X.env := by rfl) (hpl : (backTo pos (starEach es X.env)).any (·.1) = false := by rfl) : DE X F own false (.Call (.Name x p) (e :: es) [] pos) (callS g As) := by
  obtain ⟨fa, fd, hF, G, hm, hb⟩ := D
  exact ds_call hn (pe_callG G hgd hr hg hm hF.kp hb (pa_cons hs ha he) hdb he hpl) hio
theorem de_callG (D : DefG X.prog X.w X.K X.mg X.base k x st ps (spV X.K n f)) (hgd : X.A.guards = some []) (hr : Room k X.A) (ha : DA X F own (e :: es) As) (hn : chk n As) (hg : Gl X x := by rfl) (hdb : (x == ("__debug__" : Str)) = false := by decide)
    (he : starEach (e :: es) X.env = (false, eval e X.env) :: starEach es X.env := by rfl) (hpl : (backTo pos (starEach es X.env)).any (·.1) = false := by rfl) : DE X F own false (.Call (.Name x p) (e :: es) [] pos) (callE f As) := by
  obtain ⟨fa, fd, hF, G, hm, hb⟩ := D
  exact de_call hn (pe_callG G hgd hr hg hm hF.kp hb ha hdb he hpl)
end
/-- repr(a) != repr(b), texts -/
theorem opS_neS {K : PySem.W.Frag} : OpS K neS rNe := by
  intro F O H x y dx dy d Q ol hx hy e q
  cases dx <;> cases dy <;> try (cases e)
  rw [hx.str, hy.str]
  refine ⟨rfl, ?_⟩
  rw [dec_str]
  exact q _ H (fun _ _ h => h) rfl
theorem opS_eqS {K : PySem.W.Frag} : OpS K eqS rEq := by
  intro F O H x y dx dy d Q ol hx hy e q
  cases dx <;> cases dy <;> try (cases e)
  rw [hx.str, hy.str]
  refine ⟨rfl, ?_⟩
  rw [dec_str]
  exact q _ H (fun _ _ h => h) rfl
section
variable {X : Cx} {F : Fm} {own : List Nat} {a b : Expr} {Ea Eb : EF} {pos : Pos}
theorem dt_neS (ha : DE X F own true a Ea) (hb : DE X F own true b Eb) : DT X F own (.Compare a [.NotEq] [b] pos) (tstB (binE neS Ea Eb)) := dt_cmpR op_ne opS_neS ha hb (nomark _)
theorem de_neS (ha : DE X F own true a Ea) (hb : DE X F own true b Eb) : DE X F own false (.Compare a [.NotEq] [b] pos) (binE neS Ea Eb) := de_cmpR op_ne opS_neS ha hb (nomark _)
theorem dt_eqS (ha : DE X F own true a Ea) (hb : DE X F own true b Eb) : DT X F own (.Compare a [.Eq] [b] pos) (tstB (binE eqS Ea Eb)) := dt_cmpR op_eq opS_eqS ha hb (nomark _)
theorem de_eqS (ha : DE X F own true a Ea) (hb : DE X F own true b Eb) : DE X F own false (.Compare a [.Eq] [b] pos) (binE eqS Ea Eb) := de_cmpR op_eq opS_eqS ha hb (nomark _)
end
/-! ### facts of the program's top -/
theorem GlD.int {K : PySem.W.Frag} {mg : Str → Option Value} {x : Str} {i : Int} {t : Tok} (h : mg x = some (.int i t)) : GlD K mg x (.int i) := ⟨_, .int i, h, ⟨_, rfl⟩, fun _ _ => rfl⟩
theorem kvals : ∀ {K : PySem.W.Frag} {H : Hp} {O : Addr → Prop} (is : List Int) (vs : List Value), (vs.map fun v => match v with | .int i _ => some i | _ => none) = is.map some → Vals (is.map V.int) vs
  | _, _, _, [], [], _ => .nil
  | _, _, _, [], _ :: _, h => by simp at h
  | _, _, _, _ :: _, [], h => by simp at h
  | K, H, O, i :: is, v :: vs, h => by
    simp only [List.map_cons, List.cons.injEq] at h
    refine .cons ?_ (kvals (K := K) (H := H) (O := O) is vs h.2)
    cases v <;> simp at h
    rename_i j t
    exact ⟨t, by rw [h.1]⟩
/-- a constant tuple of ints -/
theorem GlD.tup {K : PySem.W.Frag} {mg : Str → Option Value} {x : Str} {a : Addr} {o : Obj} {its : Array Value} {n : Nat} {is : List Int} (h : mg x = some (.ref a)) (l : K.lookup a = some o) (c : o.cls = .type "tuple") (dt : o.data = .seq its n) (hz : its.size ≤ 1000)
    (hv : (its.toList.map fun v => match v with | .int i _ => some i | _ => none) = is.map some) : GlD K mg x (.tup (is.map .int)) :=
  ⟨.ref a, .ref a, h, rfl, fun H O => ⟨a, is.map V.int, rfl, .inr ⟨o, its, n, l, c, dt, Nat.le_trans hz (by rw [sizeLine_eq]; decide), kvals (K := K) (H := H) (O := O) is _ hv⟩, ints_DFs is⟩⟩
theorem DefOk.mk {P : Program} {w : World} {K : PySem.W.Frag} {mg : Str → Option Value} {base : Heap} {k : Nat} {x : Str} {st : Stmt} {ps : List Str} {sp : Sp} (h : DefOk P w K mg base k x st ps sp) : DefOk P w K mg base k x st ps sp := h
end Dn
namespace Dn
open PySem PySem.Spec PyProof.Rows L2
/-! ### constants of the module that hold constants -/
def VD (K : PySem.W.Frag) (d : D) (u : Value) : Prop := ∃ v, RelV v u ∧ ∀ (H : Hp) (O : Addr → Prop), DF K H O d v
def VDs (K : PySem.W.Frag) : List D → List Value → Prop
  | [], [] => True
  | d :: ds, u :: us => VD K d u ∧ VDs K ds us
  | _, _ => False
theorem VDs.vals {K : PySem.W.Frag} : ∀ {ds : List D} {us : List Value}, VDs K ds us → ∃ vs, Vals vs us ∧ ∀ (H : Hp) (O : Addr → Prop), DFs K H O ds vs
  | [], [], _ => ⟨[], .nil, fun _ _ => rfl⟩
  | [], _ :: _, h => h.elim
  | _ :: _, [], h => h.elim
  | d :: ds, u :: us, h => by
    obtain ⟨⟨v, r, dv⟩, h2⟩ := h
    obtain ⟨vs, rs, dvs⟩ := VDs.vals h2
    exact ⟨v :: vs, .cons r rs, fun H O => ⟨v, vs, rfl, dv H O, dvs H O⟩⟩
theorem VD.int {K : PySem.W.Frag} {i : Int} {t : Tok} : VD K (.int i) (.int i t) := ⟨.int i, ⟨_, rfl⟩, fun _ _ => rfl⟩
theorem VD.tup {K : PySem.W.Frag} {a : Addr} {o : Obj} {its : Array Value} {n : Nat} {ds : List D} (l : K.lookup a = some o) (c : o.cls = .type "tuple") (dt : o.data = .seq its n) (hz : its.size ≤ 1000) (h : VDs K ds its.toList) : VD K (.tup ds) (.ref a) := by
  obtain ⟨vs, rs, dvs⟩ := h.vals
  exact ⟨.ref a, rfl, fun H O => ⟨a, vs, rfl, .inr ⟨o, its, n, l, c, dt, Nat.le_trans hz (by rw [sizeLine_eq]; decide), rs⟩, dvs H O⟩⟩
theorem GlD.of {K : PySem.W.Frag} {mg : Str → Option Value} {x : Str} {u : Value} {d : D} (h : mg x = some u) (v : VD K d u) : GlD K mg x d := let ⟨w, r, dv⟩ := v; ⟨u, w, h, r, dv⟩
theorem VD.ints {K : PySem.W.Frag} : ∀ (is : List Int) (vs : List Value), (vs.map fun v => match v with | .int i _ => some i | _ => none) = is.map some → VDs K (is.map .int) vs
  | [], [], _ => trivial
  | [], _ :: _, h => by simp at h
  | _ :: _, [], h => by simp at h
  | i :: is, v :: vs, h => by
    simp only [List.map_cons, List.cons.injEq] at h
    refine ⟨?_, VD.ints is vs h.2⟩
    cases v <;> simp at h
    rename_i j t
    rw [← h.1]
    exact VD.int
end Dn
namespace Dn
open PySem PySem.Spec PyProof.Rows L2
/-! ### what a denotation brings about -/
@[irreducible] def EW (E : EF) (sk : D) (ev : VE) (Q : D → D → Prop) : Prop := match E sk ev with
  | some r => Q r.1 r.2
  | none => False
@[irreducible] def BW (E : BF) (sk : D) (ev : VE) (Q : Bool → D → Prop) : Prop := match E sk ev with
  | some r => Q r.1 r.2
  | none => False
@[irreducible] def AW (E : AF) (sk : D) (ev : VE) (Q : List D → D → Prop) : Prop := match E sk ev with
  | some r => Q r.1 r.2
  | none => False
@[irreducible] def PWp (E : PF) (sk : D) (ev : VE) (Q : Option Int → D → Prop) : Prop := match E sk ev with
  | some r => Q r.1 r.2
  | none => False
/-- f x = some d, and Q d -/
def OW {α : Type} (o : Option α) (Q : α → Prop) : Prop := match o with
  | some d => Q d
  | none => False
/-- a statement: Q of what it ends with -/
@[irreducible] def SW (S : SF) (sk : D) (ev : VE) (Q : Fl → Prop) : Prop := match S sk ev with
  | some f => Q f
  | none => False
theorem OW.val {α : Type} {d : α} {Q : α → Prop} : OW (Option.some d) Q ↔ Q d := by simp [OW]
theorem OW.no {α : Type} {Q : α → Prop} : OW Option.none Q ↔ False := by simp [OW]
theorem OW.ite {α : Type} {c : Prop} [Decidable c] {d : α} {Q : α → Prop} : OW (if c then Option.some d else Option.none) Q ↔ c ∧ Q d := by
  by_cases h : c <;> simp [OW, h]
theorem OW.mk {α : Type} {o : Option α} {d : α} {Q : α → Prop} (e : o = Option.some d) (q : Q d) : OW o Q := by rw [e]; exact OW.val.mpr q
theorem OW.mono {α : Type} {o : Option α} {Q Q' : α → Prop} (h : OW o Q) (k : ∀ d, Q d → Q' d) : OW o Q' := by
  cases o with
  | none => exact (OW.no.mp h).elim
  | some d => exact OW.val.mpr (k d (OW.val.mp h))
theorem OW.get {α : Type} {o : Option α} {Q : α → Prop} (h : OW o Q) : ∃ d, o = Option.some d ∧ Q d := by
  cases o with
  | none => exact (OW.no.mp h).elim
  | some d => exact ⟨d, rfl, OW.val.mp h⟩
section
variable {sk : D} {ev : VE} {Q : D → D → Prop} {QB : Bool → D → Prop} {QA : List D → D → Prop} {QF : Fl → Prop} {QP : Option Int → D → Prop} {E E1 E2 Ea Eb Ec : EF} {B B1 B2 : BF} {As Bs : AF} {f f2 : D → D → Option D} {g : D → Option D} {S S1 S2 : SF}
theorem EW.mono {Q' : D → D → Prop} (h : EW E sk ev Q) (k : ∀ d s, Q d s → Q' d s) : EW E sk ev Q' := by
  unfold EW at *
  cases h0 : E sk ev with
  | none => rw [h0] at h; exact h
  | some r => rw [h0] at h; exact k _ _ h
theorem SW.mono {Q' : Fl → Prop} (h : SW S sk ev QF) (k : ∀ f, QF f → Q' f) : SW S sk ev Q' := by
  unfold SW at *
  cases h0 : S sk ev with
  | none => rw [h0] at h; exact h
  | some r => rw [h0] at h; exact k _ h
theorem ew_var {i : Nat} {d : D} (h : ev[i]? = some (some d)) : EW (varE i) sk ev Q ↔ Q d sk := by
  simp [EW, varE, h]
@[simp] theorem ew_c {d : D} : EW (cE d) sk ev Q ↔ Q d sk := by simp [EW, cE]
@[simp] theorem aw_nil : AW nilA sk ev QA ↔ QA [] sk := by simp [AW, nilA]
@[simp] theorem pw_no : PWp noP sk ev QP ↔ QP none sk := by simp [PWp, noP]
@[simp] theorem ew_bin : EW (binE f Ea Eb) sk ev Q ↔ EW Ea sk ev fun x s1 => EW Eb s1 ev fun y s2 => OW (f x y) fun d => Q d s2 := by
  unfold EW OW binE
  cases h0 : Ea sk ev with
  | none => simp [h0]
  | some r0 =>
    obtain ⟨x, s1⟩ := r0
    cases h1 : Eb s1 ev with
    | none => simp [h0, h1]
    | some r1 =>
      obtain ⟨y, s2⟩ := r1
      cases h2 : f x y with
      | none => simp [h0, h1, h2]
      | some r2 =>
        simp [h0, h1, h2]
@[simp] theorem ew_un : EW (unE g Ea) sk ev Q ↔ EW Ea sk ev fun x s1 => OW (g x) fun d => Q d s1 := by
  unfold EW OW unE
  cases h0 : Ea sk ev with
  | none => simp [h0]
  | some r0 =>
    obtain ⟨x, s1⟩ := r0
    cases h1 : g x with
    | none => simp [h0, h1]
    | some r1 =>
      simp [h0, h1]
@[simp] theorem ew_if : EW (ifE B Ea Eb) sk ev Q ↔ BW B sk ev fun b s1 => if b = true then EW Ea s1 ev Q else EW Eb s1 ev Q := by
  unfold EW BW ifE
  cases h0 : B sk ev with
  | none => simp [h0]
  | some r0 =>
    obtain ⟨b, s1⟩ := r0
    cases b <;> simp [h0]
@[simp] theorem bw_tst : BW (tstB Ea) sk ev QB ↔ EW Ea sk ev fun d s1 => ∃ b, d = .bl b ∧ QB b s1 := by
  unfold EW BW tstB
  cases h0 : Ea sk ev with
  | none => simp [h0]
  | some r0 =>
    obtain ⟨d, s1⟩ := r0
    cases d <;> simp [h0]
@[simp] theorem bw_not : BW (notB B) sk ev QB ↔ BW B sk ev fun b s1 => QB (!b) s1 := by
  unfold BW notB
  cases h0 : B sk ev with
  | none => simp [h0]
  | some r0 =>
    obtain ⟨b, s1⟩ := r0
    simp [h0]
@[simp] theorem bw_and : BW (andB B1 B2) sk ev QB ↔ BW B1 sk ev fun b s1 => if b = true then BW B2 s1 ev QB else QB false s1 := by
  unfold BW andB
  cases h0 : B1 sk ev with
  | none => simp [h0]
  | some r0 =>
    obtain ⟨b, s1⟩ := r0
    cases b <;> simp [h0]
@[simp] theorem bw_or : BW (orB B1 B2) sk ev QB ↔ BW B1 sk ev fun b s1 => if b = true then QB true s1 else BW B2 s1 ev QB := by
  unfold BW orB
  cases h0 : B1 sk ev with
  | none => simp [h0]
  | some r0 =>
    obtain ⟨b, s1⟩ := r0
    cases b <;> simp [h0]
@[simp] theorem ew_and : EW (andE Ea Eb) sk ev Q ↔ EW Ea sk ev fun d s1 => ∃ b, d = .bl b ∧ if b = true then EW Eb s1 ev Q else Q (.bl false) s1 := by
  unfold EW andE
  cases h0 : Ea sk ev with
  | none => simp [h0]
  | some r0 =>
    obtain ⟨d, s1⟩ := r0
    cases d <;> simp [h0]
    rename_i b
    cases b <;> simp
@[simp] theorem ew_or : EW (orE Ea Eb) sk ev Q ↔ EW Ea sk ev fun d s1 => ∃ b, d = .bl b ∧ if b = true then Q (.bl true) s1 else EW Eb s1 ev Q := by
  unfold EW orE
  cases h0 : Ea sk ev with
  | none => simp [h0]
  | some r0 =>
    obtain ⟨d, s1⟩ := r0
    cases d <;> simp [h0]
    rename_i b
    cases b <;> simp
@[simp] theorem aw_cons : AW (consA Ea As) sk ev QA ↔ EW Ea sk ev fun d s1 => AW As s1 ev fun ds s2 => QA (d :: ds) s2 := by
  unfold EW AW consA
  cases h0 : Ea sk ev with
  | none => simp [h0]
  | some r0 =>
    obtain ⟨x, s1⟩ := r0
    cases h1 : As s1 ev with
    | none => simp [h0, h1]
    | some r1 =>
      obtain ⟨y, s2⟩ := r1
      simp [h0, h1]
@[simp] theorem aw_app : AW (appA As Bs) sk ev QA ↔ AW As sk ev fun ds s1 => AW Bs s1 ev fun es s2 => QA (ds ++ es) s2 := by
  unfold AW appA
  cases h0 : As sk ev with
  | none => simp [h0]
  | some r0 =>
    obtain ⟨x, s1⟩ := r0
    cases h1 : Bs s1 ev with
    | none => simp [h0, h1]
    | some r1 =>
      obtain ⟨y, s2⟩ := r1
      simp [h0, h1]
@[simp] theorem aw_perm {pm : List Nat} : AW (permA pm As) sk ev QA ↔ AW As sk ev fun ds s1 => QA (pm.map fun i => ds.getD i .non) s1 := by
  unfold AW permA
  cases h0 : As sk ev with
  | none => simp [h0]
  | some r0 =>
    obtain ⟨x, s1⟩ := r0
    simp [h0]
@[simp] theorem ew_tup : EW (tupE As) sk ev Q ↔ AW As sk ev fun ds s1 => ds.length ≤ SZ ∧ Q (.tup ds) s1 := by
  unfold EW AW tupE
  cases h0 : As sk ev with
  | none => simp [h0]
  | some r0 =>
    obtain ⟨x, s1⟩ := r0
    by_cases hz : x.length ≤ SZ <;> simp [h0, hz]
@[simp] theorem ew_lst : EW (lstE As) sk ev Q ↔ AW As sk ev fun ds s1 => ds.length ≤ SZ ∧ Q (.lst ds) s1 := by
  unfold EW AW lstE
  cases h0 : As sk ev with
  | none => simp [h0]
  | some r0 =>
    obtain ⟨x, s1⟩ := r0
    by_cases hz : x.length ≤ SZ <;> simp [h0, hz]
@[simp] theorem ew_call {h : List D → Option D} : EW (callE h As) sk ev Q ↔ AW As sk ev fun ds s1 => OW (h ds) fun d => Q d s1 := by
  unfold EW AW OW callE
  cases h0 : As sk ev with
  | none => simp [h0]
  | some r0 =>
    obtain ⟨x, s1⟩ := r0
    cases h1 : h x with
    | none => simp [h0, h1]
    | some r1 =>
      simp [h0, h1]
@[simp] theorem ew_callS {h : D → List D → Option (D × D)} : EW (callS h As) sk ev Q ↔ AW As sk ev fun ds s1 => OW (h s1 ds) fun r => Q r.1 r.2 := by
  unfold EW AW OW callS
  cases h0 : As sk ev with
  | none => simp [h0]
  | some r0 =>
    obtain ⟨x, s1⟩ := r0
    cases h1 : h s1 x with
    | none => simp [h0, h1]
    | some r1 =>
      obtain ⟨y, s2⟩ := r1
      simp [h0, h1]
@[simp] theorem ew_callX {h : D → List D → Option (D × D)} : EW (callX h Ea) sk ev Q ↔ EW Ea sk ev fun d s1 => ∃ ks, d = .lst ks ∧ OW (h (.lst ks) []) fun r => Q r.1 s1 := by
  unfold EW OW callX
  cases h0 : Ea sk ev with
  | none => simp [h0]
  | some r0 =>
    obtain ⟨d, s1⟩ := r0
    cases d <;> simp [h0]
    rename_i ks
    cases h1 : h (.lst ks) [] with
    | none => simp [h1]
    | some r1 => obtain ⟨y, s2⟩ := r1; simp [h1]
@[simp] theorem ew_sl {hh : Option Int → Option Int → D → Option D} {lo hi : PF} : EW (slE hh Ea lo hi) sk ev Q ↔ EW Ea sk ev fun x s1 => PWp lo s1 ev fun l s2 => PWp hi s2 ev fun h s3 => OW (hh l h x) fun d => Q d s3 := by
  unfold EW PWp OW slE
  cases h0 : Ea sk ev with
  | none => simp [h0]
  | some r0 =>
    obtain ⟨x, s1⟩ := r0
    cases h1 : lo s1 ev with
    | none => simp [h0, h1]
    | some r1 =>
      obtain ⟨l, s2⟩ := r1
      cases h2 : hi s2 ev with
      | none => simp [h0, h1, h2]
      | some r2 =>
        obtain ⟨u, s3⟩ := r2
        cases h3 : hh l u x with
        | none => simp [h0, h1, h2, h3]
        | some r3 =>
          simp [h0, h1, h2, h3]
@[simp] theorem pw_some : PWp (someP Ea) sk ev QP ↔ EW Ea sk ev fun d s1 => ∃ i, d = .int i ∧ QP (some i) s1 := by
  unfold EW PWp someP
  cases h0 : Ea sk ev with
  | none => simp [h0]
  | some r0 =>
    obtain ⟨d, s1⟩ := r0
    cases d <;> simp [h0]
@[simp] theorem ew_skix : EW (skixE Ea) sk ev Q ↔ EW Ea sk ev fun i s1 => OW (ixQ s1 i) fun d => Q d s1 := by
  unfold EW OW skixE
  cases h0 : Ea sk ev with
  | none => simp [h0]
  | some r0 =>
    obtain ⟨d, s1⟩ := r0
    cases h1 : ixQ s1 d <;> simp [h0, h1]
@[simp] theorem ew_ch : EW (chE f f2 Ea Eb Ec) sk ev Q ↔ EW Ea sk ev fun x s1 => EW Eb s1 ev fun y s2 => OW (f x y) fun d => ∃ b, d = .bl b ∧ if b = true then EW Ec s2 ev fun z s3 => OW (f2 y z) fun d => Q d s3 else Q (.bl false) s2 := by
  unfold EW OW chE
  cases h0 : Ea sk ev with
  | none => simp [h0]
  | some r0 =>
    obtain ⟨x, s1⟩ := r0
    cases h1 : Eb s1 ev with
    | none => simp [h0, h1]
    | some r1 =>
      obtain ⟨y, s2⟩ := r1
      cases h2 : f x y with
      | none => simp [h0, h1, h2]
      | some d =>
        cases d <;> simp [h0, h1, h2]
        rename_i b
        cases b <;> simp
        cases h3 : Ec s2 ev with
        | none => simp
        | some r3 =>
          obtain ⟨z, s3⟩ := r3
          cases h4 : f2 y z <;> simp [h4]
@[simp] theorem sw_nx : SW nxS sk ev QF ↔ QF (.nx sk ev) := by simp [SW, nxS]
@[simp] theorem sw_never : SW neverS sk ev QF ↔ False := by simp [SW, neverS]
@[simp] theorem sw_seq : SW (seqS S1 S2) sk ev QF ↔ SW S1 sk ev fun f => match f with
    | .nx s1 e1 => SW S2 s1 e1 QF
    | f => QF f := by
  unfold SW seqS
  cases h0 : S1 sk ev with
  | none => simp [h0]
  | some f => cases f <;> simp [h0]
@[simp] theorem sw_if : SW (ifS B S1 S2) sk ev QF ↔ BW B sk ev fun b s1 => if b = true then SW S1 s1 ev QF else SW S2 s1 ev QF := by
  unfold SW BW ifS
  cases h0 : B sk ev with
  | none => simp [h0]
  | some r =>
    obtain ⟨b, s1⟩ := r
    cases b <;> simp [h0]
@[simp] theorem sw_ret : SW (retS E) sk ev QF ↔ EW E sk ev fun d s1 => QF (.rt s1 d) := by
  unfold SW EW retS
  cases h0 : E sk ev with
  | none => simp [h0]
  | some r => obtain ⟨d, s1⟩ := r; simp [h0]
@[simp] theorem sw_drop : SW (dropS E) sk ev QF ↔ EW E sk ev fun d s1 => QF (.nx s1 ev) := by
  unfold SW EW dropS
  cases h0 : E sk ev with
  | none => simp [h0]
  | some r => obtain ⟨d, s1⟩ := r; simp [h0]
@[simp] theorem sw_asg {G : GF} : SW (asgS E G) sk ev QF ↔ EW E sk ev fun d s1 => OW (G d ev) fun e1 => QF (.nx s1 e1) := by
  unfold SW EW OW asgS
  cases h0 : E sk ev with
  | none => simp [h0]
  | some r =>
    obtain ⟨d, s1⟩ := r
    cases h1 : G d ev <;> simp [h0, h1]
@[simp] theorem sw_asgX {G : XF} : SW (asgXS E G) sk ev QF ↔ EW E sk ev fun d s1 => OW (G d s1 ev) fun r => QF (.nx r.1 r.2) := by
  unfold SW EW OW asgXS
  cases h0 : E sk ev with
  | none => simp [h0]
  | some r =>
    obtain ⟨d, s1⟩ := r
    cases h1 : G d s1 ev with
    | none => simp [h0, h1]
    | some r1 => obtain ⟨a, b⟩ := r1; simp [h0, h1]
@[simp] theorem sw_par2 {i j : Nat} : SW (par2S i j E1 E2) sk ev QF ↔ EW E1 sk ev fun d1 s1 => EW E2 s1 ev fun d2 s2 => QF (.nx s2 ((ev.set i (some d1)).set j (some d2))) := by
  unfold SW EW par2S
  cases h0 : E1 sk ev with
  | none => simp [h0]
  | some r =>
    obtain ⟨d, s1⟩ := r
    cases h1 : E2 s1 ev with
    | none => simp [h0, h1]
    | some r1 => obtain ⟨a, b⟩ := r1; simp [h0, h1]
@[simp] theorem sw_par3 {i j l : Nat} : SW (par3S i j l E1 E2 E) sk ev QF ↔ EW E1 sk ev fun d1 s1 => EW E2 s1 ev fun d2 s2 => EW E s2 ev fun d3 s3 => QF (.nx s3 (((ev.set i (some d1)).set j (some d2)).set l (some d3))) := by
  unfold SW EW par3S
  cases h0 : E1 sk ev with
  | none => simp [h0]
  | some r =>
    obtain ⟨d, s1⟩ := r
    cases h1 : E2 s1 ev with
    | none => simp [h0, h1]
    | some r1 =>
      obtain ⟨a, b⟩ := r1
      cases h2 : E b ev with
      | none => simp [h0, h1, h2]
      | some r2 => obtain ⟨x, y⟩ := r2; simp [h0, h1, h2]
theorem sw_app {i : Nat} {ds : List D} (hi : ev[i]? = some (some (.lst ds))) : SW (appS i E) sk ev QF ↔ EW E sk ev fun d s1 => ds.length < SZ ∧ QF (.nx s1 (ev.set i (some (.lst (ds ++ [d]))))) := by
  unfold SW EW appS
  cases h0 : E sk ev with
  | none => simp [h0]
  | some r =>
    obtain ⟨d, s1⟩ := r
    by_cases hz : ds.length < SZ <;> simp [h0, hi, hz]
theorem sw_set {i : Nat} {ds : List D} (hi : ev[i]? = some (some (.lst ds))) : SW (setS i E1 E) sk ev QF ↔ EW E sk ev fun d s1 => EW E1 s1 ev fun k s2 => ∃ z j, k = .int z ∧ ixN ds.length z = some j ∧ QF (.nx s2 (ev.set i (some (.lst (ds.set j d))))) := by
  unfold SW EW setS
  cases h0 : E sk ev with
  | none => simp [h0]
  | some r =>
    obtain ⟨d, s1⟩ := r
    cases h1 : E1 s1 ev with
    | none => simp [h0, h1]
    | some r1 =>
      obtain ⟨k, s2⟩ := r1
      cases k <;> simp [h0, h1, hi]
      rename_i z
      cases h2 : ixN ds.length z <;> simp [h2]
@[simp] theorem sw_setK : SW (setKS E1 E) sk ev QF ↔ EW E sk ev fun d s1 => EW E1 s1 ev fun k s2 => ∃ z ks j, k = .int z ∧ s2 = .lst ks ∧ ixN ks.length z = some j ∧ QF (.nx (.lst (ks.set j d)) ev) := by
  unfold SW EW setKS
  cases h0 : E sk ev with
  | none => simp [h0]
  | some r =>
    obtain ⟨d, s1⟩ := r
    cases h1 : E1 s1 ev with
    | none => simp [h0, h1]
    | some r1 =>
      obtain ⟨k, s2⟩ := r1
      cases k <;> cases s2 <;> simp [h0, h1]
      rename_i z ks
      cases h2 : ixN ks.length z <;> simp [h2]
theorem sw_augset {i : Nat} {ds : List D} (hi : ev[i]? = some (some (.lst ds))) : SW (augsetS i E1 E) sk ev QF ↔ EW E1 sk ev fun k s1 => ∃ z j a, k = .int z ∧ ixN ds.length z = some j ∧ ds[j]? = some (.int a) ∧ EW E s1 ev fun d s2 => ∃ b, d = .int b ∧ QF (.nx s2 (ev.set i (some (.lst (ds.set j (.int (a + b))))))) := by
  unfold SW EW augsetS
  cases h0 : E1 sk ev with
  | none => simp [h0]
  | some r =>
    obtain ⟨k, s1⟩ := r
    cases k <;> simp [h0, hi]
    rename_i z
    cases h2 : ixN ds.length z with
    | none => simp [h2]
    | some j =>
      cases h3 : ds[j]? with
      | none => simp [h2, h3]
      | some x =>
        cases x <;> simp [h2, h3]
        cases h4 : E s1 ev with
        | none => simp [h4]
        | some r4 =>
          obtain ⟨d, s2⟩ := r4
          cases d <;> simp [h4]
/-! iterations -/
@[simp] theorem sw_for {I : IF_} {G : GF} {S : SF} : SW (forS I G S) sk ev QF ↔ AW I sk ev fun ds s1 => OW (forF G S ds s1 ev) QF := by
  unfold SW AW OW forS
  cases h0 : I sk ev with
  | none => simp [h0]
  | some r =>
    obtain ⟨d, s1⟩ := r
    cases h1 : forF G S d s1 ev <;> simp [h0, h1]
@[simp] theorem ew_lc {I : IF_} {G : GF} {T : BF} {vs : List Nat} : EW (lcE I G T E vs) sk ev Q ↔ AW I sk ev fun ds s1 => OW (lcF G T E ds s1 (wipeV ev vs)) fun r => r.1.length ≤ SZ ∧ Q (.lst r.1) r.2 := by
  unfold EW AW OW lcE
  cases h0 : I sk ev with
  | none => simp [h0]
  | some r =>
    obtain ⟨ds, s1⟩ := r
    cases h1 : lcF G T E ds s1 (wipeV ev vs) with
    | none => simp [h0, h1]
    | some r1 =>
      obtain ⟨xs, s2⟩ := r1
      by_cases hz : xs.length ≤ SZ <;> simp [h0, h1, hz]
@[simp] theorem iw_seq : AW (seqI E) sk ev QA ↔ EW E sk ev fun d s1 => ∃ ds, (d = .lst ds ∨ d = .tup ds) ∧ QA ds s1 := by
  unfold AW EW seqI
  cases h0 : E sk ev with
  | none => simp [h0]
  | some r =>
    obtain ⟨d, s1⟩ := r
    cases d <;> simp [h0]
@[simp] theorem iw_rng1 : AW (rng1I E) sk ev QA ↔ EW E sk ev fun d s1 => ∃ n, d = .int n ∧ n ≤ 1000000 ∧ -1000000 ≤ n ∧ QA (upTo 0 n.toNat) s1 := by
  unfold AW EW rng1I
  cases h0 : E sk ev with
  | none => simp [h0]
  | some r =>
    obtain ⟨d, s1⟩ := r
    cases d <;> simp [h0]
    rename_i n
    by_cases h1 : n ≤ 1000000 <;> by_cases h2 : -1000000 ≤ n <;> simp [h1, h2]
@[simp] theorem iw_enum : AW (enumI E) sk ev QA ↔ EW E sk ev fun d s1 => ∃ ds, d = .lst ds ∧ QA (enumL 0 ds) s1 := by
  unfold AW EW enumI
  cases h0 : E sk ev with
  | none => simp [h0]
  | some r =>
    obtain ⟨d, s1⟩ := r
    cases d <;> simp [h0]
@[simp] theorem iw_zip : AW (zipI Ea Eb) sk ev QA ↔ EW Ea sk ev fun d s1 => EW Eb s1 ev fun e s2 => ∃ as bs, (d = .lst as ∧ e = .lst bs ∨ d = .tup as ∧ e = .tup bs) ∧ QA (zipL as bs) s2 := by
  unfold AW EW zipI
  cases h0 : Ea sk ev with
  | none => simp [h0]
  | some r =>
    obtain ⟨d, s1⟩ := r
    cases d <;> simp [h0] <;> cases h1 : Eb s1 ev <;> simp [h1] <;> (rename_i r1; obtain ⟨e, s2⟩ := r1; cases e <;> simp [h1, and_assoc])
@[simp] theorem iw_const {ds : List D} : AW (fun s _ => some (ds, s)) sk ev QA ↔ QA ds sk := by simp [AW]
theorem sw_zip {i : Nat} {M : List D → EF} (h : EW Ea sk ev fun d s1 => EW Eb s1 ev fun e s2 => ∃ as bs, d = .lst as ∧ e = .lst bs ∧ i < ev.length ∧ EW (M (zipL as bs)) s2 (ev.set i none) fun d s3 => QF (.rt s3 d)) : SW (zipS i Ea Eb M) sk ev QF := by
  unfold EW at h
  cases h0 : Ea sk ev with
  | none => rw [h0] at h; exact h.elim
  | some r =>
    rw [h0] at h
    simp only at h
    cases h1 : Eb r.2 ev with
    | none => rw [h1] at h; exact h.elim
    | some r1 =>
      rw [h1] at h
      simp only at h
      obtain ⟨as, bs, ha, hb, hi, q⟩ := h
      obtain ⟨d, s1⟩ := r
      obtain ⟨e, s2⟩ := r1
      subst ha hb
      have := (sw_ret (E := M (zipL as bs)) (sk := s2) (ev := ev.set i none) (QF := QF)).mpr (by unfold EW; exact q)
      unfold SW at this
      simp only [SW, zipS, h0, h1, if_pos hi]
      exact this
end
end Dn
namespace Dn
open PySem PySem.Spec PyProof.Rows L2
/-! ### loops, comprehensions, defs -/
def RtV (Q : D → Prop) : Fl → Prop
  | .rt _ d => Q d
  | _ => False
def RtS (Q : D × D → Prop) : Fl → Prop
  | .rt s d => Q (d, s)
  | _ => False
@[simp] theorem rtV_rt {Q : D → Prop} {s d : D} : RtV Q (.rt s d) ↔ Q d := Iff.rfl
@[simp] theorem rtV_nx {Q : D → Prop} {s : D} {e : VE} : RtV Q (.nx s e) ↔ False := Iff.rfl
@[simp] theorem rtS_rt {Q : D × D → Prop} {s d : D} : RtS Q (.rt s d) ↔ Q (d, s) := Iff.rfl
@[simp] theorem rtS_nx {Q : D × D → Prop} {s : D} {e : VE} : RtS Q (.nx s e) ↔ False := Iff.rfl
theorem funV_of {n : Nat} {S : SF} {ds : List D} {d : D} (h : SW S .non (env0 n ds) fun f => ∃ s, f = .rt s d) : funV n S ds = some d := by
  unfold SW at h
  unfold funV
  cases e : S .non (env0 n ds) with
  | none => rw [e] at h; exact h.elim
  | some f =>
    rw [e] at h
    obtain ⟨s, rfl⟩ := h
    rfl
theorem funV_nx {n : Nat} {S : SF} {ds : List D} (h : SW S .non (env0 n ds) fun f => ∃ s e, f = .nx s e) : funV n S ds = some .non := by
  unfold SW at h
  unfold funV
  cases e : S .non (env0 n ds) with
  | none => rw [e] at h; exact h.elim
  | some f =>
    rw [e] at h
    obtain ⟨s, e1, rfl⟩ := h
    rfl
theorem funV_ow {n : Nat} {S : SF} {ds : List D} {Q : D → Prop} (h : SW S .non (env0 n ds) (RtV Q)) : OW (funV n S ds) Q := by
  unfold SW at h
  unfold funV OW
  cases e : S .non (env0 n ds) with
  | none => rw [e] at h; exact h.elim
  | some f =>
    rw [e] at h
    cases f with
    | rt s d => exact h
    | _ => exact h.elim
theorem funN_ow {n : Nat} {S : SF} {ds : List D} {Q : D → Prop} (h : SW S .non (env0 n ds) (RtV Q)) : OW (funN n S ds) Q := by
  unfold SW at h
  unfold funN OW
  cases e : S .non (env0 n ds) with
  | none => rw [e] at h; exact h.elim
  | some f =>
    rw [e] at h
    cases f with
    | rt s d => exact h
    | _ => exact h.elim
theorem funS_ow {n : Nat} {S : SF} {sk : D} {ds : List D} {Q : D × D → Prop} (h : SW S sk (envS n ds) (RtS Q)) : OW (funS n S sk ds) Q := by
  unfold SW at h
  unfold funS OW
  cases e : S sk (envS n ds) with
  | none => rw [e] at h; exact h.elim
  | some f =>
    rw [e] at h
    cases f with
    | rt s d => exact h
    | _ => exact h.elim
theorem funSN_ow {n : Nat} {S : SF} {sk : D} {ds : List D} {Q : D × D → Prop} (h : SW S sk (envS n ds) (RtS Q)) : OW (funSN n S sk ds) Q := by
  unfold SW at h
  unfold funSN OW
  cases e : S sk (envS n ds) with
  | none => rw [e] at h; exact h.elim
  | some f =>
    rw [e] at h
    cases f with
    | rt s d => exact h
    | _ => exact h.elim
/-- where a turn of a loop may end -/
def Turned (I : D → VE → Prop) (Q : Fl → Prop) : Fl → Prop
  | .nx s e => I s e
  | .ct s e => I s e
  | .bk s e => Q (.nx s e)
  | .rt s d => Q (.rt s d)
  | .xc x s e => Q (.xc x s e)
theorem for_rule {G : GF} {B : SF} {Q : Fl → Prop} : ∀ (ds : List D) (I : Nat → D → VE → Prop) (k : Nat) (sk : D) (ev : VE),
    (∀ i d sk ev, ds[i]? = some d → I (k + i) sk ev → OW (G d ev) fun e1 => SW B sk e1 (Turned (I (k + i + 1)) Q)) → I k sk ev → (∀ sk ev, I (k + ds.length) sk ev → Q (.nx sk ev)) → OW (forF G B ds sk ev) Q
  | [], I, k, sk, ev, _, h0, hq => hq sk ev h0
  | d :: ds, I, k, sk, ev, hs, h0, hq => by
    have h1 := hs 0 d sk ev rfl h0
    unfold forF
    cases e1 : G d ev with
    | none => rw [e1] at h1; exact h1.elim
    | some ev1 =>
      rw [e1] at h1
      have h2 : SW B sk ev1 (Turned (I (k + 0 + 1)) Q) := h1
      unfold SW at h2
      simp only
      cases e2 : B sk ev1 with
      | none => rw [e2] at h2; exact h2.elim
      | some f =>
        rw [e2] at h2
        have again : ∀ s e, I (k + 1) s e → OW (forF G B ds s e) Q := fun s e hi =>
          for_rule ds I (k + 1) s e (fun i d s e hd hi => by
            have := hs (i + 1) d s e (by simpa using hd) (by rw [show k + (i + 1) = k + 1 + i by omega]; exact hi)
            rwa [show k + (i + 1) + 1 = k + 1 + i + 1 by omega] at this) hi fun s e hi => hq s e (by rw [List.length_cons, show k + (ds.length + 1) = k + 1 + ds.length by omega]; exact hi)
        cases f with
        | nx s e => exact again s e h2
        | ct s e => exact again s e h2
        | bk s e => exact h2
        | rt s d => exact h2
        | xc x s e => exact h2
theorem wh_rule {c : BF} {B : SF} {Q : Fl → Prop} (I : Nat → D → VE → Prop)
    (hs : ∀ m sk ev, I m sk ev → BW c sk ev fun b s1 => if b = true then SW B s1 ev (Turned (fun s e => ∃ m', m' < m ∧ I m' s e) Q) else Q (.nx s1 ev)) : ∀ (n m : Nat) (sk : D) (ev : VE), m < n → I m sk ev → OW (whF c B n sk ev) Q
  | 0, _, _, _, h, _ => absurd h (Nat.not_lt_zero _)
  | n + 1, m, sk, ev, hm, hi => by
    have h1 := hs m sk ev hi
    unfold whF
    unfold BW at h1
    cases e1 : c sk ev with
    | none => rw [e1] at h1; exact h1.elim
    | some r =>
      obtain ⟨b, s1⟩ := r
      rw [e1] at h1
      cases b with
      | false => simpa [OW] using h1
      | true =>
        simp only [if_true] at h1
        unfold SW at h1
        simp only
        cases e2 : B s1 ev with
        | none => rw [e2] at h1; exact h1.elim
        | some f =>
          rw [e2] at h1
          cases f with
          | nx s e => obtain ⟨m', hm', hi'⟩ := h1; exact wh_rule I hs n m' s e (by omega) hi'
          | ct s e => obtain ⟨m', hm', hi'⟩ := h1; exact wh_rule I hs n m' s e (by omega) hi'
          | bk s e => exact h1
          | rt s d => exact h1
          | xc x s e => exact h1
theorem sw_while {c : BF} {B : SF} {Q : Fl → Prop} {sk : D} {ev : VE} (I : Nat → D → VE → Prop) (m : Nat) (hm : m < 1000000) (h0 : I m sk ev)
    (hs : ∀ m sk ev, I m sk ev → BW c sk ev fun b s1 => if b = true then SW B s1 ev (Turned (fun s e => ∃ m', m' < m ∧ I m' s e) Q) else Q (.nx s1 ev)) : SW (whS c B) sk ev Q := by
  have := wh_rule I hs fuel m sk ev hm h0
  unfold SW whS
  unfold OW at this
  cases e : whF c B fuel sk ev with
  | none => rw [e] at this; exact this
  | some f => rw [e] at this; exact this
theorem lc_rule {G : GF} {T : BF} {E : EF} {ev : VE} {Q : List D × D → Prop} : ∀ (ds : List D) (I : Nat → D → List D → Prop) (k : Nat) (sk : D) (acc : List D),
    (∀ i d sk acc, ds[i]? = some d → I (k + i) sk acc → OW (G d ev) fun e1 => BW T sk e1 fun b s1 => if b = true then EW E s1 e1 fun x s2 => I (k + i + 1) s2 (acc ++ [x]) else I (k + i + 1) s1 acc) →
    I k sk acc → (∀ sk xs, I (k + ds.length) sk (acc ++ xs) → Q (xs, sk)) → OW (lcF G T E ds sk ev) Q
  | [], I, k, sk, acc, _, h0, hq => hq sk [] (by rw [List.append_nil]; exact h0)
  | d :: ds, I, k, sk, acc, hs, h0, hq => by
    have h1 := hs 0 d sk acc rfl h0
    have again : ∀ s a (Q' : List D × D → Prop), I (k + 1) s a → (∀ sk xs, I (k + 1 + ds.length) sk (a ++ xs) → Q' (xs, sk)) → OW (lcF G T E ds s ev) Q' := fun s a Q' hi hq' =>
      lc_rule ds I (k + 1) s a (fun i d s e hd hi => by
        have := hs (i + 1) d s e (by simpa using hd) (by rw [show k + (i + 1) = k + 1 + i by omega]; exact hi)
        rwa [show k + (i + 1) + 1 = k + 1 + i + 1 by omega] at this) hi hq'
    have len : k + (d :: ds).length = k + 1 + ds.length := by rw [List.length_cons]; omega
    rw [len] at hq
    unfold lcF
    cases e1 : G d ev with
    | none => rw [e1] at h1; exact h1.elim
    | some ev1 =>
      rw [e1] at h1
      have h2 : BW T sk ev1 fun b s1 => if b = true then EW E s1 ev1 fun x s2 => I (k + 0 + 1) s2 (acc ++ [x]) else I (k + 0 + 1) s1 acc := h1
      unfold BW at h2
      simp only
      cases e2 : T sk ev1 with
      | none => rw [e2] at h2; exact h2.elim
      | some r =>
        obtain ⟨b, s1⟩ := r
        rw [e2] at h2
        cases b with
        | false =>
          simp only [Bool.false_eq_true, if_false] at h2
          exact again s1 acc Q h2 hq
        | true =>
          simp only [if_true] at h2
          unfold EW at h2
          simp only
          cases e3 : E s1 ev1 with
          | none => rw [e3] at h2; exact h2.elim
          | some r3 =>
            obtain ⟨x, s2⟩ := r3
            rw [e3] at h2
            have h4 := again s2 (acc ++ [x]) (fun r => Q (x :: r.1, r.2)) h2 fun sk xs hi => hq sk (x :: xs) (by rw [List.append_assoc] at hi; exact hi)
            unfold OW at h4
            simp only
            cases e4 : lcF G T E ds s2 ev with
            | none => rw [e4] at h4; exact h4.elim
            | some r4 =>
              obtain ⟨xs, s3⟩ := r4
              rw [e4] at h4
              exact h4
/-- a comprehension that maps and draws nothing -/
theorem lc_map {G : GF} {E : EF} {ev : VE} {Q : List D × D → Prop} {α : Type} (f : α → D) (g : α → D) (as : List α) (sk : D) (h : ∀ a, a ∈ as → OW (G (f a) ev) fun e1 => EW E sk e1 fun x s => x = g a ∧ s = sk) (q : Q (as.map g, sk)) : OW (lcF G yesB E (as.map f) sk ev) Q := by
  refine lc_rule (as.map f) (fun i s acc => s = sk ∧ acc = (as.take i).map g) 0 sk [] (fun i d s acc hd hi => ?_) ⟨rfl, rfl⟩ (fun s xs hi => ?_)
  · obtain ⟨rfl, rfl⟩ := hi
    rw [List.getElem?_map] at hd
    cases ha : as[i]? with
    | none => rw [ha] at hd; cases hd
    | some a =>
      rw [ha] at hd
      cases hd
      refine OW.mono (h a (List.mem_of_getElem? ha)) fun e1 he => ?_
      simp only [BW, yesB, if_true]
      refine EW.mono he fun x s2 hx => ⟨hx.2, ?_⟩
      rw [Nat.zero_add, hx.1]
      simp [List.take_add_one, ha]
  · obtain ⟨rfl, hx⟩ := hi
    rw [List.nil_append] at hx
    rw [hx, Nat.zero_add, List.length_map, List.take_length]
    exact q
end Dn
namespace Dn
open PySem PySem.Spec PyProof.Rows L2
/-! ### rational numbers as the program's pairs -/
def eR (q : Rat) : D := .tup [.int q.num, .int q.den]
def eL (qs : List Rat) : D := .lst (qs.map eR)
def eT (qs : List Rat) : D := .tup (qs.map eR)
theorem eR_inj {p q : Rat} (h : eR p = eR q) : p = q := by
  unfold eR at h
  injection h with h
  injection h with h1 h2
  injection h1 with h1
  injection h2 with h2 _
  injection h2 with h2
  exact Rat.ext h1 (by omega)
/-- at most n bits -/
def Bt (n : Nat) (i : Int) : Prop := i.natAbs < 2 ^ n
theorem Bt.mono {n m : Nat} {i : Int} (h : Bt n i) (k : n ≤ m) : Bt m i := Nat.lt_of_lt_of_le h (Nat.pow_le_pow_right (by decide) k)
theorem Bt.mul {n m : Nat} {i j : Int} (h : Bt n i) (k : Bt m j) : Bt (n + m) (i * j) := by
  unfold Bt at *
  rw [Int.natAbs_mul, Nat.pow_add]
  exact Nat.mul_lt_mul'' h k
theorem Bt.neg {n : Nat} {i : Int} (h : Bt n i) : Bt n (-i) := by unfold Bt at *; rwa [Int.natAbs_neg]
theorem Bt.add {n m : Nat} {i j : Int} (h : Bt n i) (k : Bt m j) : Bt (max n m + 1) (i + j) := by
  have h1 := h.mono (Nat.le_max_left n m)
  have h2 := k.mono (Nat.le_max_right n m)
  unfold Bt at *
  have := Int.natAbs_add_le i j
  rw [Nat.pow_succ]
  omega
theorem Bt.sub {n m : Nat} {i j : Int} (h : Bt n i) (k : Bt m j) : Bt (max n m + 1) (i - j) := by
  rw [Int.sub_eq_add_neg]
  exact h.add k.neg
theorem bitsN_le {n : Nat} {i : Int} (h : Bt n i) : bitsN i ≤ n := by
  unfold bitsN Bt at *
  by_cases hi : i = 0
  · simp [hi]
  · have : (i == 0) = false := by simpa using hi
    rw [this, if_neg (by simp)]
    have h2 : i.natAbs ≠ 0 := by omega
    have := (Nat.log2_lt h2).mpr h
    omega
theorem mul_ok {n m : Nat} {i j : Int} (h : Bt n i) (k : Bt m j) (z : n + m ≤ 100000) : mulOk i j = true := by
  have h1 := bitsN_le h
  have h2 := bitsN_le k
  unfold mulOk
  exact decide_eq_true (by omega)
theorem div_ok {n : Nat} {i j : Int} (h : Bt n j) (z : n ≤ 9000) (hj : j ≠ 0) : divOk i j = true := by
  unfold divOk
  have h1 : (j == 0) = false := by simpa using hj
  have h2 : Builtin.divisionGoesByPylong i j = false := by
    refine PyProof.noPylong_of_log2 ?_
    have : j.natAbs ≠ 0 := by omega
    have h3 := (Nat.log2_lt this).mpr h
    omega
  simp [h1, h2]
/-- numerator and denominator of at most n bits -/
def Rb (n : Nat) (q : Rat) : Prop := Bt n q.num ∧ Bt n (q.den : Int)
theorem Rb.mono {n m : Nat} {q : Rat} (h : Rb n q) (k : n ≤ m) : Rb m q := ⟨h.1.mono k, h.2.mono k⟩
theorem den_ne (q : Rat) : (q.den : Int) ≠ 0 := by have := q.den_nz; omega
theorem den_gt (q : Rat) : (0 : Int) < q.den := by have := q.den_pos; omega
/-- a / b in lowest terms -/
theorem divInt_parts (a b : Int) (hb : b ≠ 0) : (Rat.divInt a b).num = Int.fdiv (if 0 < b then a else -a) (Int.gcd a b) ∧ ((Rat.divInt a b).den : Int) = Int.fdiv (if 0 < b then b else -b) (Int.gcd a b) := by
  have hg : (0 : Int) < (Int.gcd a b : Int) := by
    have := Int.gcd_pos_of_ne_zero_right a hb
    omega
  rw [Rat.num_divInt, Rat.den_divInt, if_neg hb, Int.gcd_comm b a, Int.fdiv_eq_ediv_of_nonneg _ (by omega), Int.fdiv_eq_ediv_of_nonneg _ (by omega)]
  rcases Int.lt_or_lt_of_ne hb with h | h
  · rw [if_neg (by omega), if_neg (by omega), Int.sign_eq_neg_one_of_neg h]
    constructor
    · congr 1; omega
    · rw [Int.natCast_ediv]
      congr 1
      omega
  · rw [if_pos h, if_pos h, Int.sign_eq_one_of_pos h]
    constructor
    · congr 1; omega
    · rw [Int.natCast_ediv]
      congr 1
      omega
theorem eR_divInt (a b : Int) (hb : b ≠ 0) : eR (Rat.divInt a b) = .tup [.int (Int.fdiv (if 0 < b then a else -a) (Int.gcd a b)), .int (Int.fdiv (if 0 < b then b else -b) (Int.gcd a b))] := by
  unfold eR
  rw [(divInt_parts a b hb).1, (divInt_parts a b hb).2]
theorem Rb.divInt {n : Nat} {a b : Int} (h : Bt n a) (k : Bt n b) (hb : b ≠ 0) : Rb n (Rat.divInt a b) := by
  have hg : 0 < Int.gcd a b := Int.gcd_pos_of_ne_zero_right a hb
  unfold Rb Bt at *
  rw [Rat.num_divInt, Rat.den_divInt, if_neg hb, Int.gcd_comm b a]
  constructor
  · refine Nat.lt_of_le_of_lt ?_ h
    rw [Int.natAbs_ediv_of_dvd (by
      have := Int.gcd_dvd_left a b
      exact Int.dvd_trans this (Int.dvd_mul_left _ _))]
    refine Nat.le_trans (Nat.div_le_self _ _) ?_
    rw [Int.natAbs_mul]
    have : b.sign.natAbs ≤ 1 := by
      rcases Int.lt_or_lt_of_ne hb with h | h
      · rw [Int.sign_eq_neg_one_of_neg h]; decide
      · rw [Int.sign_eq_one_of_pos h]; decide
    calc b.sign.natAbs * a.natAbs ≤ 1 * a.natAbs := Nat.mul_le_mul_right _ this
      _ = a.natAbs := Nat.one_mul _
  · refine Nat.lt_of_le_of_lt ?_ k
    rw [Int.natAbs_natCast]
    exact Nat.div_le_self _ _
theorem add_divInt (p q : Rat) : p + q = Rat.divInt (p.num * q.den + q.num * p.den) (p.den * q.den) := by
  have h := Rat.divInt_add_divInt p.num q.num (den_ne p) (den_ne q)
  rw [Rat.num_divInt_den, Rat.num_divInt_den] at h
  exact h
theorem sub_divInt (p q : Rat) : p - q = Rat.divInt (p.num * q.den - q.num * p.den) (p.den * q.den) := by
  have h := add_divInt p (-q)
  rw [Rat.neg_num, Rat.neg_den] at h
  rw [Rat.sub_eq_add_neg, h]
  congr 1
  rw [Int.neg_mul]; omega
theorem mul_divInt (p q : Rat) : p * q = Rat.divInt (p.num * q.num) (p.den * q.den) := by
  have h := Rat.divInt_mul_divInt p.num q.num (d₁ := p.den) (d₂ := q.den)
  rw [Rat.num_divInt_den, Rat.num_divInt_den] at h
  exact h
theorem div_divInt (p q : Rat) : p / q = Rat.divInt (p.num * q.den) (p.den * q.num) := by
  have h : q⁻¹ = Rat.divInt q.den q.num := by
    have := Rat.inv_divInt q.num q.den
    rwa [Rat.num_divInt_den] at this
  rw [Rat.div_def, h]
  have h2 := Rat.divInt_mul_divInt p.num q.den (d₁ := p.den) (d₂ := q.num)
  rw [Rat.num_divInt_den] at h2
  exact h2
theorem Rb.add {n m : Nat} {p q : Rat} (h : Rb n p) (k : Rb m q) : Rb (n + m + 1) (p + q) := by
  rw [add_divInt]
  refine Rb.divInt ((Bt.add (h.1.mul k.2) (k.1.mul h.2)).mono (by omega)) ((h.2.mul k.2).mono (by omega)) (Int.mul_ne_zero (den_ne p) (den_ne q))
theorem Rb.sub {n m : Nat} {p q : Rat} (h : Rb n p) (k : Rb m q) : Rb (n + m + 1) (p - q) := by
  rw [sub_divInt]
  refine Rb.divInt ((Bt.sub (h.1.mul k.2) (k.1.mul h.2)).mono (by omega)) ((h.2.mul k.2).mono (by omega)) (Int.mul_ne_zero (den_ne p) (den_ne q))
theorem Rb.mul {n m : Nat} {p q : Rat} (h : Rb n p) (k : Rb m q) : Rb (n + m) (p * q) := by
  rw [mul_divInt]
  exact Rb.divInt (h.1.mul k.1) (h.2.mul k.2) (Int.mul_ne_zero (den_ne p) (den_ne q))
theorem num_ne {q : Rat} (h : q ≠ 0) : q.num ≠ 0 := fun z => h (Rat.num_eq_zero.mp z)
theorem Rb.div {n m : Nat} {p q : Rat} (h : Rb n p) (k : Rb m q) (hq : q ≠ 0) : Rb (n + m) (p / q) := by
  rw [div_divInt]
  exact Rb.divInt (h.1.mul k.2) (h.2.mul k.1) (Int.mul_ne_zero (den_ne p) (num_ne hq))
theorem Rb.neg {n : Nat} {p : Rat} (h : Rb n p) : Rb n (-p) := ⟨by rw [Rat.neg_num]; exact h.1.neg, by rw [Rat.neg_den]; exact h.2⟩
theorem num_lt {q : Rat} : q.num < 0 ↔ q < 0 := by
  rw [Rat.lt_iff]; simp
theorem num_pos' {q : Rat} : 0 < q.num ↔ 0 < q := by
  rw [Rat.lt_iff]; simp
theorem cross_lt {p q : Rat} : p.num * q.den < q.num * p.den ↔ p < q := (Rat.lt_iff p q).symm
end Dn
namespace Dn
open PySem PySem.Spec PyProof.Rows L2
def VW (o : Option (Option D)) (Q : D → Prop) : Prop := match o with
  | some (some d) => Q d
  | _ => False
section
variable {sk : D} {ev : VE} {Q : D → D → Prop} {QB : Bool → D → Prop} {QA : List D → D → Prop} {QF : Fl → Prop} {E E1 E2 Ea Eb Ec : EF}
@[simp] theorem vw_val {d : D} {Q : D → Prop} : VW (some (some d)) Q ↔ Q d := Iff.rfl
@[simp] theorem vw_no {Q : D → Prop} : VW (some none) Q ↔ False := Iff.rfl
@[simp] theorem vw_none {Q : D → Prop} : VW none Q ↔ False := Iff.rfl
@[simp] theorem ew_var' {i : Nat} : EW (varE i) sk ev Q ↔ VW ev[i]? fun d => Q d sk := by
  unfold EW varE VW
  cases h : ev[i]? with
  | none => simp
  | some o => cases o <;> simp
theorem ev_get {i : Nat} {P : D → Prop} : VW ev[i]? P → ∃ d, ev[i]? = some (some d) ∧ P d := fun h => by
  unfold VW at h
  split at h
  · rename_i d e
    exact ⟨d, e, h⟩
  · exact h.elim
theorem sw_set' {i : Nat} (h : EW E sk ev fun d s1 => EW E1 s1 ev fun k s2 => VW ev[i]? fun x => ∃ ds z j, x = .lst ds ∧ k = .int z ∧ ixN ds.length z = some j ∧ QF (.nx s2 (ev.set i (some (.lst (ds.set j d)))))) : SW (setS i E1 E) sk ev QF := by
  cases h0 : ev[i]? with
  | none =>
    rw [h0] at h
    unfold EW at h
    cases h1 : E sk ev with
    | none => rw [h1] at h; exact h.elim
    | some r =>
      rw [h1] at h
      simp only at h
      cases h2 : E1 r.2 ev with
      | none => rw [h2] at h; exact h.elim
      | some r2 => rw [h2] at h; exact h.elim
  | some o =>
    cases o with
    | none =>
      rw [h0] at h
      unfold EW at h
      cases h1 : E sk ev with
      | none => rw [h1] at h; exact h.elim
      | some r =>
        rw [h1] at h
        simp only at h
        cases h2 : E1 r.2 ev with
        | none => rw [h2] at h; exact h.elim
        | some r2 => rw [h2] at h; exact h.elim
    | some x =>
      rw [h0] at h
      simp only [vw_val] at h
      by_cases hx : ∃ ds, x = .lst ds
      · obtain ⟨ds, rfl⟩ := hx
        refine (sw_set h0).mpr (h.mono fun d s hd => hd.mono fun k s2 hk => ?_)
        obtain ⟨ds', z, j, e1, e2, e3, q⟩ := hk
        cases e1
        exact ⟨z, j, e2, e3, q⟩
      · unfold EW at h
        cases h1 : E sk ev with
        | none => rw [h1] at h; exact h.elim
        | some r =>
          rw [h1] at h
          simp only at h
          cases h2 : E1 r.2 ev with
          | none => rw [h2] at h; exact h.elim
          | some r2 =>
            rw [h2] at h
            obtain ⟨ds, _, _, e, _⟩ := h
            exact absurd ⟨ds, e⟩ hx
end
@[simp] theorem ow_val {α : Type} {d : α} {Q : α → Prop} : OW (some d) Q ↔ Q d := OW.val
@[simp] theorem ow_no {α : Type} {Q : α → Prop} : OW none Q ↔ False := OW.no
@[simp] theorem ow_ite {α : Type} {c : Prop} [Decidable c] {d : α} {Q : α → Prop} : OW (if c then some d else none) Q ↔ c ∧ Q d := OW.ite
theorem ow_of {α : Type} {o : Option α} {d : α} (h : OW o fun x => x = d) : o = some d := by
  obtain ⟨x, e, rfl⟩ := h.get
  exact e
theorem ow_eq {α : Type} {o : Option α} {d : α} {Q : α → Prop} (h : o = some d) : OW o Q ↔ Q d := by rw [h]; exact OW.val
section
variable {Q : D → Prop} {i j : Int} {a b : Bool}
@[simp] theorem q_add : OW (addD (.int i) (.int j)) Q ↔ Q (.int (i + j)) := OW.val
@[simp] theorem q_sub : OW (subD (.int i) (.int j)) Q ↔ Q (.int (i - j)) := OW.val
@[simp] theorem q_mul : OW (mulD (.int i) (.int j)) Q ↔ mulOk i j = true ∧ Q (.int (i * j)) := OW.ite
@[simp] theorem q_fdiv : OW (fdivD (.int i) (.int j)) Q ↔ divOk i j = true ∧ Q (.int (i.fdiv j)) := OW.ite
@[simp] theorem q_mod : OW (modD (.int i) (.int j)) Q ↔ j ≠ 0 ∧ Q (.int (i.fmod j)) := by
  unfold modD
  by_cases h : j = 0
  · simp [h]
  · have : (j == 0) = false := by simpa using h
    simp [this, h]
@[simp] theorem q_cmp {p : Int → Int → Bool} : OW (cmpQ p (.int i) (.int j)) Q ↔ Q (.bl (p i j)) := OW.val
@[simp] theorem q_neg : OW (negQ (.int i)) Q ↔ Q (.int (-i)) := OW.val
@[simp] theorem q_not : OW (notQ (.bl a)) Q ↔ Q (.bl (!a)) := OW.val
@[simp] theorem q_int : OW (intQ (.int i)) Q ↔ Q (.int i) := OW.val
@[simp] theorem q_abs : OW (absQ (.int i)) Q ↔ Q (.int (if i < 0 then -i else i)) := OW.val
@[simp] theorem q_gcd : OW (gcdQ (.int i) (.int j)) Q ↔ Q (.int ((Nat.gcd i.natAbs j.natAbs : Nat) : Int)) := OW.val
@[simp] theorem q_max : OW (maxQ (.int i) (.int j)) Q ↔ Q (.int (if j > i then j else i)) := OW.val
@[simp] theorem q_min : OW (minQ (.int i) (.int j)) Q ↔ Q (.int (if j < i then j else i)) := OW.val
@[simp] theorem q_lenL {ds : List D} : OW (lenQ (.lst ds)) Q ↔ Q (.int ds.length) := OW.val
@[simp] theorem q_lenT {ds : List D} : OW (lenQ (.tup ds)) Q ↔ Q (.int ds.length) := OW.val
@[simp] theorem q_lenS {ds : List D} : OW (lenQ (.scr ds)) Q ↔ Q (.int ds.length) := OW.val
@[simp] theorem q_ixL {ds : List D} : OW (ixQ (.lst ds) (.int i)) Q ↔ OW (L2.atI ds i) Q := Iff.rfl
@[simp] theorem q_ixT {ds : List D} : OW (ixQ (.tup ds) (.int i)) Q ↔ OW (L2.atI ds i) Q := Iff.rfl
@[simp] theorem q_ixS {ds : List D} : OW (ixQ (.scr ds) (.int i)) Q ↔ OW (L2.atI ds i) Q := Iff.rfl
@[simp] theorem q_tupL {ds : List D} : OW (tupQ (.lst ds)) Q ↔ Q (.tup ds) := OW.val
@[simp] theorem q_cat {as bs : List D} : OW (catD (.lst as) (.lst bs)) Q ↔ as.length + bs.length ≤ SZ ∧ Q (.lst (as ++ bs)) := OW.ite
theorem at_nat {ds : List D} {k : Nat} {d : D} (h : ds[k]? = some d) : L2.atI ds (k : Int) = some d := atI_nat h
@[simp] theorem at_0 {a : D} {l : List D} : OW (L2.atI (a :: l) 0) Q ↔ Q a := ow_eq (at_nat (k := 0) rfl)
@[simp] theorem at_1 {a b : D} {l : List D} : OW (L2.atI (a :: b :: l) 1) Q ↔ Q b := ow_eq (at_nat (k := 1) rfl)
@[simp] theorem at_2 {a b c : D} {l : List D} : OW (L2.atI (a :: b :: c :: l) 2) Q ↔ Q c := ow_eq (at_nat (k := 2) rfl)
theorem at_lst {l : List D} {a : D} : OW (L2.atI (l ++ [a]) (-1)) Q ↔ Q a := ow_eq (atI_last l a)
@[simp] theorem ixN_0 {n : Nat} : ixN (n + 1) 0 = some 0 := by unfold ixN; simp
@[simp] theorem ixN_neg {n : Nat} : ixN (n + 1) (-1) = some n := by
  unfold ixN
  rw [if_neg (by omega), if_pos (by omega)]
  congr 1
  omega
end
section
variable {ev : VE} {Q : VE → Prop} {d : D} {ds : List D} {g : GF} {gs : List D → VE → Option VE} {n i : Nat}
@[simp] theorem g_name : OW (nameG i d ev) Q ↔ Q (ev.set i (some d)) := OW.val
@[simp] theorem g_nil : OW (nilG [] ev) Q ↔ Q ev := OW.val
@[simp] theorem g_cons : OW (consG g gs (d :: ds) ev) Q ↔ OW (g d ev) fun e1 => OW (gs ds e1) Q := by
  unfold consG OW
  cases h : g d ev <;> simp [h]
@[simp] theorem g_tup : OW (tupG n gs (.tup ds) ev) Q ↔ ds.length = n ∧ OW (gs ds ev) Q := by
  unfold tupG OW
  by_cases h : ds.length = n <;> simp [h]
end
section
variable {ev : VE} {sk : D} {Q : D × VE → Prop} {d : D} {ds : List D} {g : XF} {gs : XFs} {n i : Nat} {E : EF}
@[simp] theorem x_name : OW (nameX i d sk ev) Q ↔ Q (sk, ev.set i (some d)) := OW.val
@[simp] theorem x_nil : OW (nilX [] sk ev) Q ↔ Q (sk, ev) := OW.val
@[simp] theorem x_cons : OW (consX g gs (d :: ds) sk ev) Q ↔ OW (g d sk ev) fun r => OW (gs ds r.1 r.2) Q := by
  unfold consX OW
  cases h : g d sk ev <;> simp [h]
@[simp] theorem x_tup : OW (tupX n gs (.tup ds) sk ev) Q ↔ ds.length = n ∧ OW (gs ds sk ev) Q := by
  unfold tupX OW
  by_cases h : ds.length = n <;> simp [h]
@[simp] theorem x_subK : OW (subKX E d sk ev) Q ↔ EW E sk ev fun k s2 => ∃ z ks j, k = .int z ∧ s2 = .lst ks ∧ ixN ks.length z = some j ∧ Q (.lst (ks.set j d), ev) := by
  unfold subKX OW EW
  cases h : E sk ev with
  | none => simp [h]
  | some r =>
    obtain ⟨k, s2⟩ := r
    cases k <;> cases s2 <;> simp [h]
    rename_i z ks
    cases h2 : ixN ks.length z <;> simp [h2]
theorem x_sub (h : EW E sk ev fun k s2 => VW ev[i]? fun x => ∃ z l j, k = .int z ∧ x = .lst l ∧ ixN l.length z = some j ∧ Q (s2, ev.set i (some (.lst (l.set j d))))) : OW (subX i E d sk ev) Q := by
  unfold EW at h
  unfold subX
  cases h0 : E sk ev with
  | none => rw [h0] at h; exact h.elim
  | some r =>
    rw [h0] at h
    obtain ⟨k, s2⟩ := r
    simp only at h
    obtain ⟨x, e, z, l, j, rfl, rfl, e2, q⟩ := ev_get h
    simp only [e, e2]
    exact q
end
section
variable {ev : VE} {sk : D} {Q : Fl → Prop} {d : D} {ds : List D} {G : GF} {B : SF}
@[simp] theorem for_nil : OW (forF G B [] sk ev) Q ↔ Q (.nx sk ev) := OW.val
@[simp] theorem for_cons : OW (forF G B (d :: ds) sk ev) Q ↔ OW (G d ev) fun e1 => SW B sk e1 fun f => match f with
    | .nx s e => OW (forF G B ds s e) Q
    | .ct s e => OW (forF G B ds s e) Q
    | .bk s e => Q (.nx s e)
    | .rt s d => Q (.rt s d)
    | .xc x s e => Q (.xc x s e) := by
  conv => lhs; unfold forF
  unfold OW SW
  cases h : G d ev with
  | none => simp [h]
  | some e1 =>
    cases h1 : B sk e1 with
    | none => simp [h, h1]
    | some f => cases f <;> simp [h, h1]
end
section
variable {ev : VE} {sk : D} {Q : List D × D → Prop} {d : D} {ds : List D} {G : GF} {T : BF} {E : EF}
@[simp] theorem lc_nil : OW (lcF G T E [] sk ev) Q ↔ Q ([], sk) := OW.val
@[simp] theorem bw_yes {QB : Bool → D → Prop} : BW yesB sk ev QB ↔ QB true sk := by unfold BW; exact Iff.rfl
end
@[simp] theorem env0_def {n : Nat} {ds : List D} : env0 n ds = ds.map some ++ List.replicate (n - ds.length) none := rfl
@[simp] theorem envS_def {n : Nat} {ds : List D} : envS n ds = none :: (ds.map some ++ List.replicate (n - (ds.length + 1)) none) := rfl
end Dn
namespace Dn
open PySem PySem.Spec PyProof.Rows L2
/-! ### enumerate: a tuple, too -/
/-- the tuple's items, in new pairs -/
def IteT (K : PySem.W.Frag) (a : Addr) : It where
  go := fun i H => ∃ (xs : List V) (x : V), SqT K H a xs ∧ xs[i]? = some x
  yld := fun i H v H' => ∃ T x, v = .ref T ∧ H T = none ∧ H' = upd H T (.tup [.int (i : Nat), x]) ∧ ∀ xs, SqT K H a xs → xs[i]? = some x
  stop := fun i H => ∃ xs : List V, SqT K H a xs ∧ xs.length ≤ i
set_option maxHeartbeats 1000000 in
theorem en_new {u : Value} {ob : Obj} {HH : Heap → Prop} (B : Begins u ob HH) :
    Meets (Builtin.«enumerate.__new__» ⟨[.type "enumerate", u], []⟩) (fun _ R z => HH z.heap ∧
      R (.ok (.ret (.ref (z.heap.push ob).objs.size))) { z with heap := (z.heap.push ob).push { cls := .type "enumerate", data := .fields #[.none, .bool false, .ref z.heap.objs.size, rawInt 0, .none, .none] } }) :=
  .of_wp fun prog w A R z h => by
    obtain ⟨hp, g, d, tk, os⟩ := z
    obtain ⟨h1, h⟩ := h
    have hsub := sub_enumerate
    have q1 : ∀ {A' : Around} {E' : Value → Shared → Prop} {Q' : Value → Shared → Prop}, Q' (.ref hp.objs.size) ⟨hp.push ob, g, d, tk, os⟩ → wpAny (model prog w) A' (pyIter u) Q' E' ⟨hp, g, d, tk, os⟩ := fun q => B.iter prog w _ _ ⟨hp, g, d, tk, os⟩ _ h1 q
    wp_walk using q1
    refine wpAny_stack_any fun st => wpAny_pure ?_
    split
    · rename_i c _ _ _ _ _
      cases (c == Value.type "enumerate") <;> (wp_walk using q1; exact ⟨_, rfl, h⟩)
    · wp_walk using q1
      exact ⟨_, rfl, h⟩
section
variable {prog : Program} {w : World} {A : Around} {E : Value → Shared → Prop} {s : Shared}
/-- enumerate(u): its two new cells -/
theorem en_begins {u : Value} {ob : Obj} {HH : Heap → Prop} {Q : Value → Shared → Prop} (B : Begins u ob HH) (h1 : HH s.heap)
    (h : ∀ h', IsEnum h' (s.heap.objs.size + 1) s.heap.objs.size 0 .none → h'.get? s.heap.objs.size = some ob → (∀ b o, s.heap.get? b = some o → h'.get? b = some o) → Q (.ref (s.heap.objs.size + 1)) { s with heap := h' }) :
    wpAny (model prog w) A (call (.type "enumerate") [u]) Q E s := by
  refine callType_new F.called_enumerate (by decide) (F.typeCall_enumerate_1 _) (F.newCall_enumerate_1 _) (fun obj => F.args_object_init_2 obj _) F.entry_enumerate_new (en_new B) ⟨h1, ?_⟩
  have hz : (s.heap.push ob).objs.size = s.heap.objs.size + 1 := Heap.size_push ..
  show _ ∧ _
  rw [hz]
  have he := Heap.get?_push_size (s.heap.push ob) (o := { cls := .type "enumerate", data := .fields #[.none, .bool false, .ref s.heap.objs.size, rawInt 0, .none, .none] }) rfl
  rw [hz] at he
  have hob : (s.heap.push ob).get? s.heap.objs.size = some ob := Heap.get?_push_size _ B.free
  exact ⟨⟨_, he, rfl⟩, h _ he (Heap.get?_push_of_some _ hob) fun b o x => Heap.get?_push_of_some _ (Heap.get?_push_of_some _ x)⟩
end
theorem turn_enT {P : Program} {w : World} {K : PySem.W.Frag} {elts : List Expr} {kk : Nat} {tpos : Pos} (a e it : Addr) (hae : e ≠ a) (hai : a ≠ it) :
    Turn P w K (.Tuple elts kk tpos) (IteT K a) [e, it] e (fun i h => (∃ old, IsEnum h e it ((i : Nat) : Int) old) ∧ h.IsTupleIter it a i ∧ e ≠ it) where
  mem := by simp
  obj := fun i h st b hb => by
    obtain ⟨⟨old, he⟩, ⟨ob, hob, hcl, hdt⟩, _⟩ := st
    rcases (show b = e ∨ b = it by simpa using hb) with z | z
    · subst z
      exact ⟨_, he, fun v q => nomatch q⟩
    · subst z
      refine ⟨ob, hob, fun v q => ?_⟩
      rw [hdt] at q
      cases q
  keep := fun i h h' st k => by
    obtain ⟨⟨old, he⟩, hi, hne⟩ := st
    exact ⟨⟨old, k e (by simp) _ he⟩, hi.at fun ob q => k it (by simp) ob q, hne⟩
  item := by
    intro X hP hw hK hc i pins s σ H E I hf st hg
    subst hP hw hK
    obtain ⟨⟨old, he⟩, hit, hne⟩ := st
    obtain ⟨xs, x, hq, hx⟩ := hg
    obtain ⟨its, rv, p, hz⟩ := I.tuple hq
    obtain ⟨u, hu, ru⟩ := rv.get hx
    have hel : e < s.heap.objs.size := Heap.lt_size he
    have hil : it < s.heap.objs.size := by
      obtain ⟨_, q, _⟩ := hit
      exact Heap.lt_size q
    have hh : X.A.handled = none := I.ok.hd hc
    have hu' : its.toArray[i]? = some u := by simpa using hu
    have hlt : i < its.toArray.size := (Array.getElem?_eq_some_iff.mp hu').1
    refine wpAny_pyNext_enum_itemD (Draws.tuple (A := X.A.in1) (show X.A.in1.handled = none from hh) it a hai its.toArray) he ⟨hit, p⟩ hlt hne (by simp [hne, hae]) fun y h' tk hP ho hs' hT hsz hk => ?_
    have hyu : y = u := by
      have : its.toArray[i]? = some y := hP
      rw [hu'] at this
      exact (Option.some.inj this).symm
    subst hyu
    refine ⟨_, rfl, wpAny_letOwnedTupleGo_enum (s := { s with heap := h', toks := tk + 1 }) ho fun h2 he2 sb => ?_⟩
    have hT2 : h2.get? s.heap.objs.size = some { cls := .type "tuple", data := .seq #[.int i tk, y] } := (sb.2 _ (Nat.ne_of_gt hel)).trans hT
    have new : ObjOk X.prog X.w (upd H s.heap.objs.size (.tup [.int (i : Nat), x])) h2 s.heap.objs.size (.tup [.int (i : Nat), x]) := by
      refine ⟨?_, [.int i tk, y], .cons ⟨_, rfl⟩ (.cons ru .nil), ⟨_, hT2, rfl, _, rfl⟩⟩
      show 2 ≤ sizeLine
      decide
    have I1 : Inv X pins σ (upd H s.heap.objs.size (.tup [.int (i : Nat), x])) { s with heap := h2, toks := tk + 1 } := by
      refine I.turnedNew (ch := [e, it]) (fun b ob hb q => ?_) hf (Nat.le_refl _) new
      have n1 : b ≠ e := fun z => hb (by simp [z])
      have n2 : b ≠ it := fun z => hb (by simp [z])
      exact (sb.2 b n1).trans (hk b ob n1 n2 q)
    refine ⟨.ref s.heap.objs.size, _, I1, rfl, ⟨_, x, rfl, I.hok.fresh (Nat.le_refl _), rfl, fun ys hy => ?_⟩, ⟨⟨y, ?_⟩, hs'.1.at fun ob q => (sb.2 it (Ne.symm hne)).trans q, hne⟩, fun b hb => ?_⟩
    · rw [I.tuple_inj hy hq]
      exact hx
    · have e1 : ((i + 1 : Nat) : Int) = (i : Int) + 1 := by omega
      rw [e1]
      exact he2
    · have hlt : b < s.heap.objs.size := by
        rcases (show b = e ∨ b = it by simpa using hb) with z | z
        · subst z; exact hel
        · subst z; exact hil
      rw [upd_ne (Nat.ne_of_lt hlt)]
      exact (hf b hb).1
  done := by
    intro X hP hw hK hc i pins s σ H E I hf st hg
    subst hP hw hK
    obtain ⟨⟨old, he⟩, hit, hne⟩ := st
    obtain ⟨xs, hq, hx⟩ := hg
    obtain ⟨its, rv, p, hz⟩ := I.tuple hq
    obtain ⟨g0, g1, g2, g3, g4, g5⟩ := hf it (by simp)
    have hl := rv.length
    have hh : X.A.handled = none := I.ok.hd hc
    have hT : s.TypeIs (.ref e) "enumerate" := ⟨_, he, rfl⟩
    unfold pyNext
    refine wpAny_bind (wpAny_attempt ?_)
    refine wpAny_callSpecial?_slot (name := Str.ofString "__next__") hT F.slot_enumerate_next ?_
    refine wpAny_call_entry F.slot_enumerate_next hT F.entry_enumerate_next ?_ (F.args_enumerate_next_1 _)
    show wpAny _ _ (field (.ref e) 2 >>= fun _ => _) _ _ _
    refine wpAny_bind (wpAny_field he rfl (x := .ref it) rfl ?_)
    refine wpAny_bind (wpAny_nextOf_tuple_end (show X.A.in1.in1.handled = none from hh) hit p (by simp; omega) fun h2 y hx2 ho2 => ?_)
    obtain ⟨ob, hob, hcl⟩ := ho2
    refine wpAny_bind (wpAny_isInstance (T := "StopIteration") (b := true) ⟨ob, hob, hcl⟩ isSubtype_stop (wpAny_pure ?_))
    exact ⟨rfl, I.turned (t' := s.toks) (fun b o hb q => hx2 b o hb q) g0 g1 g3 g4 g5⟩
  self := fun A i s Q E st h => let ⟨⟨_, he⟩, _⟩ := st; wpAny_pyIter_enum he h
def iEnumA (K : PySem.W.Frag) (ta : TA) : TI := fun σ H R => ta σ H fun vs H1 => ∃ a xs, vs = [.ref a] ∧ ((SqL K H1 a xs ∧ R (Ite K a) H1) ∨ (SqT K H1 a xs ∧ R (IteT K a) H1))
theorem pi_enumA {X : Cx} {e : Expr} {ta : TA} {p pos tpos : Pos} {elts : List Expr} {kk : Nat} (hg : Gl X "enumerate") (hm : X.mg "enumerate" = none) (ha : PA X [e] ta) (hs : starEach [e] X.env = [(false, eval e X.env)] := by rfl) :
    PI X (.Tuple elts kk tpos) (.Call (.Name "enumerate" p) [e] [] pos) (iEnumA X.K ta) := by
  refine ⟨fun pins s σ H R I h => ?_⟩
  refine Call_ (ld_blt I hg hm boot_enumerate (PyProof.Rows.callWith_type1 (thn (ha.run pos pins s σ H _ I h) fun us s1 ⟨vs, H1, I1, r1, q1⟩ => ?_) hs rfl))
  obtain ⟨a, xs, ex, hq⟩ := q1
  subst ex
  cases r1 with
  | cons r rr =>
    cases rr
    cases r
    have fresh2 : ∀ b, b ∈ [s1.heap.objs.size + 1, s1.heap.objs.size] → FpOk X pins H1 b := fun b hb => by
      have hle : s1.heap.objs.size ≤ b := by
        rcases (show b = s1.heap.objs.size + 1 ∨ b = s1.heap.objs.size by simpa using hb) with z | z
        · rw [z]; exact Nat.le_add_right _ _
        · rw [z]; exact Nat.le_refl _
      exact I1.fpOk hle (I1.hok.fresh hle)
    rcases hq with ⟨hq, q⟩ | ⟨hq, q⟩
    · obtain ⟨its, rv, p', hz⟩ := I1.list hq
      refine en_begins (begins_list a its.toArray) p'.isList fun h' he hit hk => wpAny_pyIter_enum he ?_
      have I2 : Inv X pins σ H1 { s1 with heap := h' } := I1.kept (t' := s1.toks) hk
      exact ⟨_, [s1.heap.objs.size + 1, s1.heap.objs.size], _, _, H1, rfl, I2, turn_enum a (s1.heap.objs.size + 1) s1.heap.objs.size, ⟨⟨.none, he⟩, ⟨_, hit, rfl, rfl⟩, Nat.succ_ne_self _⟩, fresh2, q⟩
    · obtain ⟨its, rv, p', hz⟩ := I1.tuple hq
      obtain ⟨ot, hot, _⟩ := id p'
      have hlt := Heap.lt_size hot
      refine en_begins (begins_tuple a its.toArray) (show s1.heap.IsTuple a its.toArray from p') fun h' he hit hk => wpAny_pyIter_enum he ?_
      have I2 : Inv X pins σ H1 { s1 with heap := h' } := I1.kept (t' := s1.toks) hk
      exact ⟨_, [s1.heap.objs.size + 1, s1.heap.objs.size], _, _, H1, rfl, I2, turn_enT a (s1.heap.objs.size + 1) s1.heap.objs.size (Nat.ne_of_gt (Nat.lt_succ_of_lt hlt)) (Nat.ne_of_lt hlt), ⟨⟨.none, he⟩, ⟨_, hit, rfl, rfl⟩, Nat.succ_ne_self _⟩, fresh2, q⟩
theorem walk_enT {K : PySem.W.Frag} {a : Addr} {xs : List V} : Walk (IteT K a) xs.length (fun H => SqT K H a xs) (YPair (fun i => some (.int (i : Nat))) (fun i => xs[i]?)) := by
  refine ⟨fun i H hi q => ⟨xs, xs[i], q, by simp [hi]⟩, fun H q => ⟨xs, q, Nat.le_refl _⟩, fun i H v H' hi q y => ?_⟩
  obtain ⟨T, x, rfl, h2, h3, h4⟩ := y
  exact ⟨T, .int (i : Nat), x, rfl, h2, h3, rfl, h4 xs q⟩
def enumA (a : EF) : IF_ := fun sk ev => match a sk ev with
  | some (.lst ds, s1) => some (enumL 0 ds, s1)
  | some (.tup ds, s1) => some (enumL 0 ds, s1)
  | _ => none
section
variable {X : Cx} {F : Fm} {own : List Nat} {top : Bool} {a tg : Expr} {Ea : EF}
theorem di_enumA {t : TE} (ht : t = tD X.K F own top Ea) (h : PI X tg a (iEnumA X.K (tCons t tNil))) : PI X tg a (tI X.K F own top (enumA Ea)) := PI.conv h fun σ H Q ⟨O, sk, ev, ds, sk', S, e, q⟩ => by
  subst ht
  unfold enumA at e
  split at e
  · rename_i e1
    cases e
    refine ⟨O, sk, ev, _, _, S, e1, fun v1 H1 S1 x1 d1 => ?_⟩
    obtain ⟨p1, xs, rfl, hp1, sp1, st1⟩ := d1.stays S1.ol
    refine ⟨p1, xs, rfl, .inl ⟨.inl (.inl hp1), q _ H1 S1 x1 fun O3 H3 z => ?_⟩⟩
    obtain ⟨hq1, sq1⟩ := st1 O3 H3 z
    have W := walk_enum (K := X.K) (a := p1) (xs := xs)
    have G : SqL X.K H3 p1 xs := .inl (.inl hq1)
    refine ⟨fun i d hd => ?_, ?_⟩
    · obtain ⟨da, ha, rfl⟩ := enumL_get _ 0 i d hd
      have h1 := sq1.lt ha
      refine ⟨W.goes i H3 (by omega) G, fun x H4 y => ?_⟩
      obtain ⟨T, x0, y0, rfl, hT, e4, hx, hy⟩ := W.yields i H3 x H4 (by omega) G y
      obtain ⟨x', hx', dx⟩ := sq1.get ha
      have hy2 : xs[i]? = some y0 := hy
      rw [hy2] at hx'; cases hx'
      have hx2 : some (V.int (i : Nat)) = some x0 := hx
      cases hx2
      exact pair_new z.2.2.2 hT e4 (by rw [Nat.zero_add]; rfl) dx
    · rw [enumL_length, sq1.length]; exact W.stops H3 G
  · rename_i e1
    cases e
    refine ⟨O, sk, ev, _, _, S, e1, fun v1 H1 S1 x1 d1 => ?_⟩
    obtain ⟨p1, xs, rfl, hp1, sp1, st1⟩ := d1.stayT S1.ol
    refine ⟨p1, xs, rfl, .inr ⟨hp1, q _ H1 S1 x1 fun O3 H3 z => ?_⟩⟩
    obtain ⟨hq1, sq1⟩ := st1 O3 H3 z
    have W := walk_enT (K := X.K) (a := p1) (xs := xs)
    refine ⟨fun i d hd => ?_, ?_⟩
    · obtain ⟨da, ha, rfl⟩ := enumL_get _ 0 i d hd
      have h1 := sq1.lt ha
      refine ⟨W.goes i H3 (by omega) hq1, fun x H4 y => ?_⟩
      obtain ⟨T, x0, y0, rfl, hT, e4, hx, hy⟩ := W.yields i H3 x H4 (by omega) hq1 y
      obtain ⟨x', hx', dx⟩ := sq1.get ha
      have hy2 : xs[i]? = some y0 := hy
      rw [hy2] at hx'; cases hx'
      have hx2 : some (V.int (i : Nat)) = some x0 := hx
      cases hx2
      exact pair_new z.2.2.2 hT e4 (by rw [Nat.zero_add]; rfl) dx
    · rw [enumL_length, sq1.length]; exact W.stops H3 hq1
  · cases e
end
end Dn
namespace Dn
open PySem PySem.Spec PyProof.Rows L2
@[simp] theorem iw_enumA {sk : D} {ev : VE} {E : EF} {QA : List D → D → Prop} : AW (enumA E) sk ev QA ↔ EW E sk ev fun d s1 => ∃ ds, (d = .lst ds ∨ d = .tup ds) ∧ QA (enumL 0 ds) s1 := by
  unfold AW EW enumA
  cases h0 : E sk ev with
  | none => simp [h0]
  | some r =>
    obtain ⟨d, s1⟩ := r
    cases d <;> simp [h0]
end Dn
namespace Dn
open PySem PySem.Spec PyProof.Rows L2
/-! ### enumerate(zip(a, b)): the zip's tuples are held by enumerate's, so each is new -/
abbrev ZCell (f0 : Value) (b : Bool) (TI TO : Addr) : Obj := { cls := .type "zip", dict := none, data := .fields #[f0, .bool b, .bool false, .ref TI, .ref TO], slots := #[] }
def ZF (f0 : Value) : Prop := f0 = .none ∨ ∃ a : Int, f0 = rawInt a
section
variable {prog : Program} {w : World} {A : Around} {E : Value → Shared → Prop} {s : Shared} {z TI TO i1 i2 : Addr} {fp1 fp2 : List Addr} {n1 n2 i : Nat} {P1 P2 : Nat → Value → Prop} {St1 St2 : Nat → Heap → Prop} {a1 a2 f0 : Value} {b : Bool}
theorem w_alive {a : Addr} {Q : Option Obj → Shared → Prop} (h : Q (s.heap.get? a) s) : wpAny (model prog w) A (loadIfAlive a) Q E s := fun _ _ _ => h
theorem own_free {Q : Bool → Shared → Prop} (hz : s.heap.get? z = some (ZCell f0 b TI TO)) (hf : ZF f0) (q1 : Q true s) (q2 : ∀ h', h'.get? z = some (ZCell f0 true TI TO) → Heap.SameBut z s.heap h' → Q false { s with heap := h' }) :
    wpAny (model prog w) A (Builtin.SmallTypes.ownedTupleIsFree (.ref z)) Q E s := by
  delta Builtin.SmallTypes.ownedTupleIsFree
  refine wpAny_bind (wpAny_field hz rfl (x := f0) rfl ?_)
  rcases hf with rfl | ⟨a, rfl⟩
  · exact wpAny_pure q1
  · refine wpAny_bind (w_alive ?_)
    cases s.heap.get? a.toNat with
    | none => exact wpAny_pure q1
    | some o =>
      show wpAny _ _ (field (.ref z) 1 >>= fun _ => _) _ _ _
      refine wpAny_bind (wpAny_field hz rfl (x := .bool b) rfl ?_)
      cases b with
      | true => exact wpAny_pure (q2 s.heap hz ⟨rfl, fun _ _ => rfl⟩)
      | false => exact wpAny_bind (wpAny_setField_rec hz (by simp) fun h' h1 h2 => wpAny_pure (q2 h' h1 h2))
theorem zn_item {Q : Value → Shared → Prop} (S : ZipSep2 z TI TO i1 i2 fp1 fp2) (D1 : Draws prog w A i1 fp1 n1 P1 St1) (D2 : Draws prog w A i2 fp2 n2 P2 St2) (hz : s.heap.get? z = some (ZCell f0 b TI TO)) (hf : ZF f0)
    (hTI : IsTupOf2 s.heap TI (.ref i1) (.ref i2)) (hTO : IsTupOf2 s.heap TO a1 a2) (st1 : St1 i s.heap) (st2 : St2 i s.heap) (l1 : i < n1) (l2 : i < n2)
    (hQ : ∀ x y h' tk, P1 i x → P2 i y → (∃ g0 c, ZF g0 ∧ h'.get? z = some (ZCell g0 c TI TO)) → (∃ u v, IsTupOf2 h' TO u v) → St1 (i + 1) h' → St2 (i + 1) h' → IsTupOf2 h' s.heap.objs.size x y → h'.objs.size = s.heap.objs.size + 1 →
      (∀ c o, c ≠ z → c ≠ TO → c ≠ i1 → c ≠ i2 → s.heap.get? c = some o → h'.get? c = some o) → Q (.ref s.heap.objs.size) { s with heap := h', toks := tk }) :
    wpAny (model prog w) A (Builtin.«zip.__next__» ⟨[.ref z], []⟩) (fun fin s' => ∃ v, fin = .done (.ret v) ∧ Q v s') E s := by
  obtain ⟨hp, gs, dr, tk0, os⟩ := s
  show wpAny _ _ (field (.ref z) 2 >>= fun _ => _) _ _ _
  refine wpAny_bind (wpAny_field hz rfl (x := .bool false) rfl ?_)
  show wpAny _ _ (field (.ref z) 3 >>= fun _ => _) _ _ _
  refine wpAny_bind (wpAny_field hz rfl (x := .ref TI) rfl (wpAny_bind (wpAny_seqItems hTI rfl ?_)))
  show wpAny _ _ (Builtin.SmallTypes.ownedTupleIsFree (.ref z) >>= fun _ => _) _ _ _
  refine wpAny_bind (own_free hz hf ?_ fun m hm sm => ?_)
  · simp only [if_true]
    refine wpAny_bind (wpAny_rule (wpAny_bind (wpAny_field hz rfl (x := .ref TO) rfl (wpAny_bind (wpAny_setField_rec hz (by simp) fun k0 kz0 ks0 => ?_)))))
    replace ks0 : Heap.SameBut z hp k0 := ks0
    refine wpAny_bind ?_
    simp only [List.zipIdx_cons, List.zipIdx_nil, List.forIn_cons, List.forIn_nil]
    refine wpAny_bind (wpAny_bind (wpAny_onRaise ?_))
    show wpAny _ _ (Builtin.SmallTypes.nextOf (.ref i1) >>= fun _ => _) _ _ ⟨k0, gs, dr, tk0, os⟩
    refine wpAny_bind (D1.item i _ _ _ l1 (D1.over st1 ks0 S.zf1) fun x k1 tk1 hx sx kx => wpAny_pure ?_)
    replace kx : Heap.SameBut i1 k0 k1 := kx
    have u1 : IsTupOf2 k1 TO a1 a2 := kx.extBut _ _ S.Ti1 (ks0.extBut _ _ S.TOz hTO)
    refine wpAny_bind (wpAny_seqItems (s := ⟨k1, gs, dr, tk1, os⟩) u1 rfl (wpAny_bind (updateSeq_IsTupOf2 (s := ⟨k1, gs, dr, tk1, os⟩) u1 fun k2 u2 ks2 => wpAny_bind (wpAny_letGo (wpAny_pure ?_)))))
    replace u2 : IsTupOf2 k2 TO x a2 := u2
    replace ks2 : Heap.SameBut TO k1 k2 := ks2
    refine wpAny_bind (wpAny_bind (wpAny_onRaise ?_))
    show wpAny _ _ (Builtin.SmallTypes.nextOf (.ref i2) >>= fun _ => _) _ _ ⟨k2, gs, dr, tk1, os⟩
    have s2 : St2 i k2 := D2.over (D2.over (D2.over st2 ks0 S.zf2) kx S.sep1_2) ks2 S.Tf2
    refine wpAny_bind (D2.item i _ _ _ l2 s2 fun y k3 tk2 hy sy ky => wpAny_pure ?_)
    replace ky : Heap.SameBut i2 k2 k3 := ky
    have u3 : IsTupOf2 k3 TO x a2 := ky.extBut _ _ S.Ti2 u2
    refine wpAny_bind (wpAny_seqItems (s := ⟨k3, gs, dr, tk2, os⟩) u3 rfl (wpAny_bind (updateSeq_IsTupOf2 (s := ⟨k3, gs, dr, tk2, os⟩) u3 fun k4 u4 ks4 => wpAny_bind (wpAny_letGo (wpAny_pure (wpAny_pure ?_))))))
    replace u4 : IsTupOf2 k4 TO x y := u4
    replace ks4 : Heap.SameBut TO k3 k4 := ks4
    refine wpAny_bind (wpAny_seqItems (s := ⟨k4, gs, dr, tk2, os⟩) u4 rfl (wpAny_bind (wpAny_newTuple ?_)))
    have sz : k4.objs.size = hp.objs.size := by rw [ks4.1, ky.1, ks2.1, kx.1, ks0.1]
    have zz : k4.get? z = some (ZCell .ellipsis b TI TO) := ks4.extBut _ _ S.TOz.symm (ky.extBut _ _ S.zi2 (ks2.extBut _ _ S.TOz.symm (kx.extBut _ _ S.zi1 kz0)))
    have kk : ∀ c o, c ≠ z → c ≠ TO → c ≠ i1 → c ≠ i2 → hp.get? c = some o → k4.get? c = some o := fun c o cz cT c1 c2 e => ks4.extBut _ _ cT (ky.extBut _ _ c2 (ks2.extBut _ _ cT (kx.extBut _ _ c1 (ks0.extBut _ _ cz e))))
    have j1 : St1 (i + 1) k4 := D1.over (D1.over (D1.over sx ks2 S.Tf1) ky S.sep2_1) ks4 S.Tf1
    have j2 : St2 (i + 1) k4 := D2.over sy ks4 S.Tf2
    have zlt : z < k4.objs.size := Heap.lt_size zz
    have zne : k4.objs.size ≠ z := Nat.ne_of_gt zlt
    show wpAny _ _ (Builtin.SmallTypes.ownedTupleHandOut (.ref z) (.ref k4.objs.size) >>= fun _ => _) _ _ ⟨k4.push { cls := .type "tuple", data := .seq #[x, y] }, gs, dr, tk2, os⟩
    refine wpAny_bind ?_
    delta Builtin.SmallTypes.ownedTupleHandOut
    have zp : (k4.push { cls := .type "tuple", data := .seq #[x, y] }).get? z = some (ZCell .ellipsis b TI TO) := Heap.get?_push_of_some _ zz
    refine wpAny_bind (wpAny_setField_rec zp (by simp) fun k5 z5 ks5 => ?_)
    replace z5 : k5.get? z = some (ZCell (rawInt k4.objs.size) b TI TO) := z5
    replace ks5 : Heap.SameBut z (k4.push { cls := .type "tuple", data := .seq #[x, y] }) k5 := ks5
    refine wpAny_setField_rec z5 (by simp) fun k6 z6 ks6 => wpAny_pure ⟨_, rfl, ?_⟩
    replace z6 : k6.get? z = some (ZCell (rawInt k4.objs.size) false TI TO) := z6
    replace ks6 : Heap.SameBut z k5 k6 := ks6
    have up : ∀ c o, c ≠ z → k4.get? c = some o → k6.get? c = some o := fun c o cz e => ks6.extBut _ _ cz (ks5.extBut _ _ cz (Heap.get?_push_of_some _ e))
    have t6 : IsTupOf2 k6 k4.objs.size x y := ks6.extBut _ _ zne (ks5.extBut _ _ zne (Heap.get?_push_size _ rfl))
    have s6 : k6.objs.size = k4.objs.size + 1 := by rw [ks6.1, ks5.1, Heap.size_push]
    have fr1 : St1 (i + 1) k6 := D1.frame _ _ _ j1 fun c hc o e => up c o (fun q => S.zf1 (q ▸ hc)) e
    have fr2 : St2 (i + 1) k6 := D2.frame _ _ _ j2 fun c hc o e => up c o (fun q => S.zf2 (q ▸ hc)) e
    show Q (.ref k4.objs.size) ⟨k6, gs, dr, tk2, os⟩
    rw [sz] at t6 s6 z6 ⊢
    exact hQ x y k6 tk2 hx hy ⟨_, _, .inr ⟨_, rfl⟩, z6⟩ ⟨_, _, up _ _ S.TOz u4⟩ fr1 fr2 t6 s6 fun c o cz cT c1 c2 e => up c o cz (kk c o cz cT c1 c2 e)
  · replace sm : Heap.SameBut z hp m := sm
    simp only [Bool.false_eq_true, if_false]
    refine wpAny_bind ?_
    rw [← Array.forIn_toList]
    simp only [List.forIn_cons, List.forIn_nil]
    refine wpAny_bind (wpAny_bind (wpAny_holding ?_))
    show wpAny _ _ (Builtin.SmallTypes.nextOf (.ref i1) >>= fun _ => _) _ _ ⟨m, gs, dr, tk0, os⟩
    refine wpAny_bind (D1.item i _ _ _ l1 (D1.over st1 sm S.zf1) fun x k1 tk1 hx sx kx => wpAny_pure (wpAny_pure ?_))
    replace kx : Heap.SameBut i1 m k1 := kx
    refine wpAny_bind (wpAny_bind (wpAny_holding ?_))
    show wpAny _ _ (Builtin.SmallTypes.nextOf (.ref i2) >>= fun _ => _) _ _ ⟨k1, gs, dr, tk1, os⟩
    refine wpAny_bind (D2.item i _ _ _ l2 (D2.over (D2.over st2 sm S.zf2) kx S.sep1_2) fun y k3 tk2 hy sy ky => wpAny_pure (wpAny_pure (wpAny_pure ?_)))
    replace ky : Heap.SameBut i2 k1 k3 := ky
    refine wpAny_bind (wpAny_newTuple (wpAny_pure ⟨_, rfl, ?_⟩) (by show 2 ≤ sizeLine; decide))
    have sz : k3.objs.size = hp.objs.size := by rw [ky.1, kx.1, sm.1]
    have zz : k3.get? z = some (ZCell f0 true TI TO) := ky.extBut _ _ S.zi2 (kx.extBut _ _ S.zi1 hm)
    have uu : IsTupOf2 k3 TO a1 a2 := ky.extBut _ _ S.Ti2 (kx.extBut _ _ S.Ti1 (sm.extBut _ _ S.TOz hTO))
    have up : ∀ c o, k3.get? c = some o → (k3.push { cls := .type "tuple", data := .seq #[x, y] }).get? c = some o := fun c o e => Heap.get?_push_of_some _ e
    have j1 : St1 (i + 1) (k3.push { cls := .type "tuple", data := .seq #[x, y] }) := D1.frame _ _ _ (D1.over sx ky S.sep2_1) fun c hc o e => up c o e
    have j2 : St2 (i + 1) (k3.push { cls := .type "tuple", data := .seq #[x, y] }) := D2.frame _ _ _ sy fun c hc o e => up c o e
    have tt : IsTupOf2 (k3.push { cls := .type "tuple", data := .seq #[x, y] }) k3.objs.size x y := Heap.get?_push_size _ rfl
    have s6 : (k3.push { cls := .type "tuple", data := .seq #[x, y] }).objs.size = k3.objs.size + 1 := Heap.size_push ..
    show Q (.ref k3.objs.size) ⟨k3.push { cls := .type "tuple", data := .seq #[x, y] }, gs, dr, tk2, os⟩
    rw [sz] at tt s6 ⊢
    exact hQ x y _ tk2 hx hy ⟨_, _, hf, up _ _ zz⟩ ⟨_, _, up _ _ uu⟩ j1 j2 tt s6 fun c o cz cT c1 c2 e => up c o (ky.extBut _ _ c2 (kx.extBut _ _ c1 (sm.extBut _ _ cz e)))
theorem zn_end {Q : Fin → Shared → Prop} (S : ZipSep2 z TI TO i1 i2 fp1 fp2) (D1 : Draws prog w A i1 fp1 n1 P1 St1) (D2 : Draws prog w A i2 fp2 n2 P2 St2) (hz : s.heap.get? z = some (ZCell f0 b TI TO)) (hf : ZF f0)
    (hTI : IsTupOf2 s.heap TI (.ref i1) (.ref i2)) (hTO : IsTupOf2 s.heap TO a1 a2) (st1 : St1 i s.heap) (st2 : St2 i s.heap) (l1 : i ≤ n1) (l2 : i ≤ n2) (l3 : i = n1 ∨ i = n2)
    (hE : ∀ h' tk e, (∀ c o, c ≠ z → c ≠ TO → c ≠ i1 → c ≠ i2 → s.heap.get? c = some o → h'.get? c = some o) → (∃ o, h'.get? e = some o ∧ o.cls = .type "StopIteration") → E (.ref e) { s with heap := h', toks := tk }) :
    wpAny (model prog w) A (Builtin.«zip.__next__» ⟨[.ref z], []⟩) Q E s := by
  obtain ⟨hp, gs, dr, tk0, os⟩ := s
  show wpAny _ _ (field (.ref z) 2 >>= fun _ => _) _ _ _
  refine wpAny_bind (wpAny_field hz rfl (x := .bool false) rfl ?_)
  show wpAny _ _ (field (.ref z) 3 >>= fun _ => _) _ _ _
  refine wpAny_bind (wpAny_field hz rfl (x := .ref TI) rfl (wpAny_bind (wpAny_seqItems hTI rfl ?_)))
  show wpAny _ _ (Builtin.SmallTypes.ownedTupleIsFree (.ref z) >>= fun _ => _) _ _ _
  refine wpAny_bind (own_free hz hf ?_ fun m hm sm => ?_)
  · simp only [if_true]
    refine wpAny_bind (wpAny_rule (wpAny_bind (wpAny_field hz rfl (x := .ref TO) rfl (wpAny_bind (wpAny_setField_rec hz (by simp) fun k0 kz0 ks0 => ?_)))))
    replace ks0 : Heap.SameBut z hp k0 := ks0
    refine wpAny_bind ?_
    simp only [List.zipIdx_cons, List.zipIdx_nil, List.forIn_cons, List.forIn_nil]
    refine wpAny_bind (wpAny_bind (wpAny_onRaise ?_))
    show wpAny _ _ (Builtin.SmallTypes.nextOf (.ref i1) >>= fun _ => _) _ _ ⟨k0, gs, dr, tk0, os⟩
    have s1 : St1 i k0 := D1.over st1 ks0 S.zf1
    by_cases l4 : i < n1
    · refine wpAny_bind (D1.item i _ _ _ l4 s1 fun x k1 tk1 hx sx kx => wpAny_pure ?_)
      replace kx : Heap.SameBut i1 k0 k1 := kx
      have u1 : IsTupOf2 k1 TO a1 a2 := kx.extBut _ _ S.Ti1 (ks0.extBut _ _ S.TOz hTO)
      refine wpAny_bind (wpAny_seqItems (s := ⟨k1, gs, dr, tk1, os⟩) u1 rfl (wpAny_bind (updateSeq_IsTupOf2 (s := ⟨k1, gs, dr, tk1, os⟩) u1 fun k2 u2 ks2 => wpAny_bind (wpAny_letGo (wpAny_pure ?_)))))
      replace ks2 : Heap.SameBut TO k1 k2 := ks2
      refine wpAny_bind (wpAny_bind (wpAny_onRaise ?_))
      show wpAny _ _ (Builtin.SmallTypes.nextOf (.ref i2) >>= fun _ => _) _ _ ⟨k2, gs, dr, tk1, os⟩
      have hi2 : i = n2 := by omega
      have s2 : St2 n2 k2 := hi2 ▸ D2.over (D2.over (D2.over st2 ks0 S.zf2) kx S.sep1_2) ks2 S.Tf2
      refine wpAny_bind (D2.done ⟨k2, gs, dr, tk1, os⟩ _ _ s2 fun q e hq he => ?_)
      replace hq : Heap.ExtBut i2 k2 q := hq
      obtain ⟨ob, hob, hcl⟩ := he
      replace hob : q.get? e = some ob := hob
      have zq : q.get? z = some (ZCell .ellipsis b TI TO) := hq _ _ S.zi2 (ks2.extBut _ _ S.TOz.symm (kx.extBut _ _ S.zi1 kz0))
      have ez : e ≠ z := fun x => by
        subst x
        rw [zq] at hob
        cases hob
        simp at hcl
      refine wpAny_setField_rec (s := ⟨q, gs, dr, tk1, os⟩) zq (by simp) fun q2 _ hq2 => ?_
      replace hq2 : Heap.SameBut z q q2 := hq2
      exact hE q2 tk1 e (fun c o cz cT c1 c2 v => hq2.extBut _ _ cz (hq _ _ c2 (ks2.extBut _ _ cT (kx.extBut _ _ c1 (ks0.extBut _ _ cz v))))) ⟨ob, hq2.extBut _ _ ez hob, hcl⟩
    · have hi1 : i = n1 := by omega
      refine wpAny_bind (D1.done ⟨k0, gs, dr, tk0, os⟩ _ _ (hi1 ▸ s1) fun q e hq he => ?_)
      replace hq : Heap.ExtBut i1 k0 q := hq
      obtain ⟨ob, hob, hcl⟩ := he
      replace hob : q.get? e = some ob := hob
      have zq : q.get? z = some (ZCell .ellipsis b TI TO) := hq _ _ S.zi1 kz0
      have ez : e ≠ z := fun x => by
        subst x
        rw [zq] at hob
        cases hob
        simp at hcl
      refine wpAny_setField_rec (s := ⟨q, gs, dr, tk0, os⟩) zq (by simp) fun q2 _ hq2 => ?_
      replace hq2 : Heap.SameBut z q q2 := hq2
      exact hE q2 tk0 e (fun c o cz cT c1 c2 v => hq2.extBut _ _ cz (hq _ _ c1 (ks0.extBut _ _ cz v))) ⟨ob, hq2.extBut _ _ ez hob, hcl⟩
  · replace sm : Heap.SameBut z hp m := sm
    simp only [Bool.false_eq_true, if_false]
    refine wpAny_bind ?_
    rw [← Array.forIn_toList]
    simp only [List.forIn_cons, List.forIn_nil]
    refine wpAny_bind (wpAny_bind (wpAny_holding ?_))
    show wpAny _ _ (Builtin.SmallTypes.nextOf (.ref i1) >>= fun _ => _) _ _ ⟨m, gs, dr, tk0, os⟩
    have s1 : St1 i m := D1.over st1 sm S.zf1
    by_cases l4 : i < n1
    · refine wpAny_bind (D1.item i _ _ _ l4 s1 fun x k1 tk1 hx sx kx => wpAny_pure (wpAny_pure ?_))
      replace kx : Heap.SameBut i1 m k1 := kx
      refine wpAny_bind (wpAny_bind (wpAny_holding ?_))
      show wpAny _ _ (Builtin.SmallTypes.nextOf (.ref i2) >>= fun _ => _) _ _ ⟨k1, gs, dr, tk1, os⟩
      have hi2 : i = n2 := by omega
      have s2 : St2 n2 k1 := hi2 ▸ D2.over (D2.over st2 sm S.zf2) kx S.sep1_2
      refine wpAny_bind (D2.done ⟨k1, gs, dr, tk1, os⟩ _ _ s2 fun q e hq he => ?_)
      replace hq : Heap.ExtBut i2 k1 q := hq
      exact hE q tk1 e (fun c o cz cT c1 c2 v => hq _ _ c2 (kx.extBut _ _ c1 (sm.extBut _ _ cz v))) he
    · have hi1 : i = n1 := by omega
      refine wpAny_bind (D1.done ⟨m, gs, dr, tk0, os⟩ _ _ (hi1 ▸ s1) fun q e hq he => ?_)
      replace hq : Heap.ExtBut i1 m q := hq
      exact hE q tk0 e (fun c o cz cT c1 c2 v => hq _ _ c1 (sm.extBut _ _ cz v)) he
theorem zip_isT (hz : s.heap.get? z = some (ZCell f0 b TI TO)) : s.TypeIs (.ref z) "zip" := ⟨_, hz, rfl⟩
/-- the next pair of enumerate over a zip -/
theorem ez_item {e : Addr} {c : Int} {old : Value} {Q : Option Value → Shared → Prop} (S : ZipSep2 z TI TO i1 i2 fp1 fp2) (D1 : Draws prog w A.in1.in1 i1 fp1 n1 P1 St1) (D2 : Draws prog w A.in1.in1 i2 fp2 n2 P2 St2) (he : IsEnum s.heap e z c old) (hz : s.heap.get? z = some (ZCell f0 b TI TO)) (hf : ZF f0)
    (hTI : IsTupOf2 s.heap TI (.ref i1) (.ref i2)) (hTO : IsTupOf2 s.heap TO a1 a2) (st1 : St1 i s.heap) (st2 : St2 i s.heap) (l1 : i < n1) (l2 : i < n2) (nez : e ≠ z) (neT : e ≠ TO) (neI : e ≠ TI) (ne1 : e ∉ fp1) (ne2 : e ∉ fp2)
    (hQ : ∀ x y h' tk, P1 i x → P2 i y → IsEnumOut h' e z (c + 1) (.ref s.heap.objs.size) (s.heap.objs.size + 1) → (∃ g0 c, ZF g0 ∧ h'.get? z = some (ZCell g0 c TI TO)) → IsTupOf2 h' TI (.ref i1) (.ref i2) → (∃ u v, IsTupOf2 h' TO u v) → St1 (i + 1) h' → St2 (i + 1) h' → IsTupOf2 h' s.heap.objs.size x y →
      h'.get? (s.heap.objs.size + 1) = some { cls := .type "tuple", data := .seq #[.int c tk, .ref s.heap.objs.size] } →
      (∀ d o, d ≠ e → d ≠ z → d ≠ TO → d ≠ i1 → d ≠ i2 → s.heap.get? d = some o → h'.get? d = some o) → Q (some (.ref (s.heap.objs.size + 1))) { s with heap := h', toks := tk + 1 }) :
    wpAny (model prog w) A (pyNext (.ref e)) Q E s := by
  have hT : s.TypeIs (.ref e) "enumerate" := ⟨_, he, rfl⟩
  delta pyNext
  refine wpAny_bind (wpAny_attempt (wpAny_callSpecial?_slot (name := Str.ofString "__next__") hT F.slot_enumerate_next (wpAny_call_entry F.slot_enumerate_next hT F.entry_enumerate_next ?_ (F.args_enumerate_next_1 _))))
  obtain ⟨hp, gs, dr, tk0, os⟩ := s
  show wpAny _ _ (field (.ref e) 2 >>= fun _ => _) _ _ _
  refine wpAny_bind (wpAny_field he rfl (x := .ref z) rfl (wpAny_bind ?_))
  delta Builtin.SmallTypes.nextOf
  refine wpAny_bind (wpAny_callSpecial?_slot (name := Str.ofString "__next__") (zip_isT hz) F.slot_zip_next (wpAny_call_entry F.slot_zip_next (zip_isT hz) F.entry_zip_next ?_ (F.args_zip_next_1 _)))
  refine zn_item S D1 D2 hz hf hTI hTO st1 st2 l1 l2 fun x y k tk hx hy hz' hO' s1 s2 tt sz kp => wpAny_pure ?_
  have e1ne : e ≠ i1 := fun q => ne1 (q ▸ S.mem1)
  have e2ne : e ≠ i2 := fun q => ne2 (q ▸ S.mem2)
  have ek : IsEnum k e z c old := kp _ _ nez neT e1ne e2ne he
  have el : e < hp.objs.size := Heap.lt_size he
  have kTI : IsTupOf2 k TI (.ref i1) (.ref i2) := kp _ _ S.TIz S.TITO S.TIi1 S.TIi2 hTI
  replace sz : k.objs.size = hp.objs.size + 1 := sz
  replace tt : IsTupOf2 k hp.objs.size x y := tt
  clear hz hf hTI hTO st1 st2
  show wpAny _ _ (field (.ref e) 3 >>= fun _ => _) _ _ ⟨k, gs, dr, tk, os⟩
  refine wpAny_bind (wpAny_field ek rfl (x := rawInt c) rfl ?_)
  show wpAny _ _ (field (.ref e) 4 >>= fun _ => _) _ _ ⟨k, gs, dr, tk, os⟩
  refine wpAny_bind (wpAny_field ek rfl (x := .none) rfl ?_)
  show wpAny _ _ (mkInt c >>= fun _ => _) _ _ ⟨k, gs, dr, tk, os⟩
  refine wpAny_bind (wpAny_mkInt ?_)
  show wpAny _ _ (setField (.ref e) 3 (rawInt (c + 1)) >>= fun _ => _) _ _ ⟨k, gs, dr, tk + 1, os⟩
  refine wpAny_bind (wpAny_setField_rec ek (by simp) fun k2 e2 ks2 => ?_)
  replace ks2 : Heap.SameBut e k k2 := ks2
  replace e2 : IsEnum k2 e z (c + 1) old := e2
  show wpAny _ _ (setField (.ref e) 4 .none >>= fun _ => _) _ _ ⟨k2, gs, dr, tk + 1, os⟩
  refine wpAny_bind (wpAny_setField_rec e2 (by simp) fun k3 e3 ks3 => ?_)
  replace ks3 : Heap.SameBut e k2 k3 := ks3
  replace e3 : IsEnum k3 e z (c + 1) old := e3
  show wpAny _ _ (newTuple [.int c tk, .ref hp.objs.size] >>= fun _ => _) _ _ ⟨k3, gs, dr, tk + 1, os⟩
  refine wpAny_bind (wpAny_newTuple ?_)
  have sz3 : k3.objs.size = hp.objs.size + 1 := by rw [ks3.1, ks2.1, sz]
  obtain ⟨k4, hk4⟩ : ∃ k4, k3.push { cls := .type "tuple", data := .seq #[.int c tk, .ref hp.objs.size] } = k4 := ⟨_, rfl⟩
  have up4 : ∀ d o, d ≠ e → k.get? d = some o → k4.get? d = some o := fun d o de q => by
    rw [← hk4]
    exact Heap.get?_push_of_some _ (ks3.extBut _ _ de (ks2.extBut _ _ de q))
  have e4 : IsEnum k4 e z (c + 1) old := by
    rw [← hk4]
    exact Heap.get?_push_of_some _ e3
  have t4 : k4.get? (hp.objs.size + 1) = some { cls := .type "tuple", data := .seq #[.int c tk, .ref hp.objs.size] } := by
    rw [← hk4, ← sz3]
    exact Heap.get?_push_size _ rfl
  show wpAny _ _ (Builtin.SmallTypes.ownedTupleIsFree (.ref e) >>= fun _ => _) _ _ ⟨k3.push { cls := .type "tuple", data := .seq #[.int c tk, .ref hp.objs.size] }, gs, dr, tk + 1, os⟩
  rw [hk4, sz3]
  refine wpAny_bind ?_
  delta Builtin.SmallTypes.ownedTupleIsFree
  refine wpAny_bind (wpAny_field e4 rfl (x := .none) rfl (wpAny_pure ?_))
  simp only [if_true]
  refine wpAny_bind (wpAny_rule (wpAny_bind (wpAny_field e4 rfl (x := old) rfl (wpAny_bind (wpAny_setField_rec e4 (by simp) fun k5 e5 ks5 => ?_)))))
  replace ks5 : Heap.SameBut e k4 k5 := ks5
  replace e5 : IsEnum k5 e z (c + 1) (.ref hp.objs.size) := e5
  show wpAny _ _ (Builtin.SmallTypes.ownedTupleHandOut (.ref e) (.ref (hp.objs.size + 1)) >>= fun _ => _) _ _ ⟨k5, gs, dr, tk + 1, os⟩
  refine wpAny_bind ?_
  delta Builtin.SmallTypes.ownedTupleHandOut
  refine wpAny_bind (wpAny_setField_rec e5 (by simp) fun k6 e6 ks6 => ?_)
  replace ks6 : Heap.SameBut e k5 k6 := ks6
  replace e6 : IsEnumOut k6 e z (c + 1) (.ref hp.objs.size) (hp.objs.size + 1) := e6
  refine wpAny_setField_rec e6 (by simp) fun k7 e7 ks7 => ?_
  replace ks7 : Heap.SameBut e k6 k7 := ks7
  replace e7 : IsEnumOut k7 e z (c + 1) (.ref hp.objs.size) (hp.objs.size + 1) := e7
  have up : ∀ d o, d ≠ e → k.get? d = some o → k7.get? d = some o := fun d o de q => ks7.extBut _ _ de (ks6.extBut _ _ de (ks5.extBut _ _ de (up4 d o de q)))
  have b1 : e ≠ hp.objs.size := Nat.ne_of_lt el
  have b2 : e ≠ hp.objs.size + 1 := Nat.ne_of_lt (Nat.lt_succ_of_lt el)
  have fr1 : St1 (i + 1) k7 := D1.frame _ _ _ s1 fun d hd o q => up d o (fun v => ne1 (v ▸ hd)) q
  have fr2 : St2 (i + 1) k7 := D2.frame _ _ _ s2 fun d hd o q => up d o (fun v => ne2 (v ▸ hd)) q
  obtain ⟨g0, bb, hg0, hz7⟩ := hz'
  obtain ⟨u, v, hO7⟩ := hO'
  refine wpAny_bind (wpAny_letGo (wpAny_pure ⟨_, rfl, wpAny_pure ?_⟩))
  exact hQ x y k7 tk hx hy e7 ⟨g0, bb, hg0, up _ _ nez.symm hz7⟩ (up _ _ neI.symm kTI) ⟨u, v, up _ _ neT.symm hO7⟩ fr1 fr2 (up _ _ b1.symm tt) (ks7.extBut _ _ b2.symm (ks6.extBut _ _ b2.symm (ks5.extBut _ _ b2.symm t4)))
    fun d o de dz dT d1 d2 q => up d o de (kp d o dz dT d1 d2 q)
/-- its end -/
theorem ez_end {e : Addr} {c : Int} {old : Value} {Q : Option Value → Shared → Prop} (S : ZipSep2 z TI TO i1 i2 fp1 fp2) (D1 : Draws prog w A.in1.in1 i1 fp1 n1 P1 St1) (D2 : Draws prog w A.in1.in1 i2 fp2 n2 P2 St2) (he : IsEnum s.heap e z c old) (hz : s.heap.get? z = some (ZCell f0 b TI TO)) (hf : ZF f0)
    (hTI : IsTupOf2 s.heap TI (.ref i1) (.ref i2)) (hTO : IsTupOf2 s.heap TO a1 a2) (st1 : St1 i s.heap) (st2 : St2 i s.heap) (l1 : i ≤ n1) (l2 : i ≤ n2) (l3 : i = n1 ∨ i = n2)
    (hQ : ∀ h' tk, (∀ d o, d ≠ z → d ≠ TO → d ≠ i1 → d ≠ i2 → s.heap.get? d = some o → h'.get? d = some o) → Q none { s with heap := h', toks := tk }) :
    wpAny (model prog w) A (pyNext (.ref e)) Q E s := by
  have hT : s.TypeIs (.ref e) "enumerate" := ⟨_, he, rfl⟩
  delta pyNext
  refine wpAny_bind (wpAny_attempt (wpAny_callSpecial?_slot (name := Str.ofString "__next__") hT F.slot_enumerate_next (wpAny_call_entry F.slot_enumerate_next hT F.entry_enumerate_next ?_ (F.args_enumerate_next_1 _))))
  obtain ⟨hp, gs, dr, tk0, os⟩ := s
  show wpAny _ _ (field (.ref e) 2 >>= fun _ => _) _ _ _
  refine wpAny_bind (wpAny_field he rfl (x := .ref z) rfl (wpAny_bind ?_))
  delta Builtin.SmallTypes.nextOf
  refine wpAny_bind (wpAny_callSpecial?_slot (name := Str.ofString "__next__") (zip_isT hz) F.slot_zip_next (wpAny_call_entry F.slot_zip_next (zip_isT hz) F.entry_zip_next ?_ (F.args_zip_next_1 _)))
  refine zn_end S D1 D2 hz hf hTI hTO st1 st2 l1 l2 l3 fun k tk ex kp hx => ?_
  obtain ⟨ob, hob, hcl⟩ := hx
  exact wpAny_bind (wpAny_isInstance (T := "StopIteration") (b := true) ⟨ob, hob, hcl⟩ isSubtype_stop (wpAny_pure (hQ _ _ kp)))
end
/-- pairs of two tuples' items, with their places -/
def IteZ (K : PySem.W.Frag) (a b : Addr) : It where
  go := fun i H => ∃ (xs ys : List V) (x y : V), SqT K H a xs ∧ SqT K H b ys ∧ xs[i]? = some x ∧ ys[i]? = some y
  yld := fun i H v H' => ∃ T1 T2 x y, v = .ref T2 ∧ H T1 = none ∧ H T2 = none ∧ T2 ≠ T1 ∧ H' = upd (upd H T1 (.tup [x, y])) T2 (.tup [.int (i : Nat), .ref T1]) ∧ (∀ xs, SqT K H a xs → xs[i]? = some x) ∧ ∀ ys, SqT K H b ys → ys[i]? = some y
  stop := fun i H => ∃ xs ys : List V, SqT K H a xs ∧ SqT K H b ys ∧ i = min xs.length ys.length
structure EZSep (e z TI TO i1 i2 a b : Addr) : Prop where
  sep : ZipSep2 z TI TO i1 i2 [i1, a] [i2, b]
  ai : a ≠ i1
  bi : b ≠ i2
  ez : e ≠ z
  eO : e ≠ TO
  eI : e ≠ TI
  e1 : e ∉ [i1, a]
  e2 : e ∉ [i2, b]
theorem inv_new2 {X : Cx} {pins : List (Addr × Obj)} {σ : L2.St} {H : Hp} {s : Shared} {h' : Heap} {t' : Nat} {ch : List Addr} {T1 T2 : Addr} {o1 o2 : HO} (I : Inv X pins σ H s) (k : ∀ b o, b ∉ ch → s.heap.get? b = some o → h'.get? b = some o) (hf : ∀ b ∈ ch, FpOk X pins H b) (hT1 : s.heap.objs.size ≤ T1) (hT2 : s.heap.objs.size ≤ T2) (hne : T2 ≠ T1)
    (new1 : ObjOk X.prog X.w (upd (upd H T1 o1) T2 o2) h' T1 o1) (new2 : ObjOk X.prog X.w (upd (upd H T1 o1) T2 o2) h' T2 o2) : Inv X pins σ (upd (upd H T1 o1) T2 o2) { s with heap := h', toks := t' } := by
  have m1 : H T1 = none := I.hok.fresh hT1
  have m2 : H T2 = none := I.hok.fresh hT2
  have up : ∀ b u, H b = some u → upd (upd H T1 o1) T2 o2 b = some u := fun b u e => by
    rw [upd_ne (ne_of_none e m2), upd_ne (ne_of_none e m1)]
    exact e
  have out : ∀ b u, H b = some u → b ∉ ch := fun b u e z => by
    have q := (hf b z).1
    rw [e] at q
    cases q
  have far : ∀ b o, s.heap.get? b = some o → b ≠ T1 ∧ b ≠ T2 := fun b o e => ⟨Nat.ne_of_lt (Nat.lt_of_lt_of_le (Heap.lt_size e) hT1), Nat.ne_of_lt (Nat.lt_of_lt_of_le (Heap.lt_size e) hT2)⟩
  refine I.step (g' := s.gens) (d' := s.drawn) (ch := ch) (fun b hb => ?_) (fun b o _ _ hc e _ => k b o hc e) (fun b o _ _ hc e _ => ⟨o.slots, k b o hc e⟩) (fun b o _ e n => ?_) (fun b o hc e => ⟨o, k b o hc e⟩) (fun b xs e => up b _ e) (fun b o u e => up b _ e)
    (fun b ps e => ⟨#[], ?_⟩) (fun m hm => ?_) (fun b u e => ?_) I.bare
  · obtain ⟨_, f2, _, f4, f5, f6⟩ := hf b hb
    exact ⟨f4, f2, f5, f6⟩
  · obtain ⟨q1, q2⟩ := far b o e
    rw [upd_ne q2, upd_ne q1]
    exact n
  · rw [up b _ e]
    simp
  · obtain ⟨o, es, ep, ho, r⟩ := hm
    exact ⟨o, es, ep, k _ o (fun z => (hf _ z).2.1 rfl) ho, r⟩
  · by_cases hb : b = T2
    · subst hb
      rw [upd_same] at e
      cases e
      exact new2
    · rw [upd_ne hb] at e
      by_cases hb1 : b = T1
      · subst hb1
        rw [upd_same] at e
        cases e
        exact new1
      · rw [upd_ne hb1] at e
        refine (I.hok b u e).stay (fun c v hc q => k c v ?_ q) (fun c q => up c _ q) fun c xs q => up c _ q
        rcases hc with z | z
        · rw [z]; exact out b u e
        · exact out c _ z
theorem ne_nat {m n : Nat} (h : m < n ∨ n < m) : m ≠ n := by omega
theorem nin_nat {x y u : Nat} (h : x ≠ y) (k : x ≠ u) : x ∉ [y, u] := by simp [h, k]
theorem ez_apart (N a b : Nat) (la : a < N) (lb : b < N) : EZSep (N + 5) (N + 4) (N + 2) (N + 3) N (N + 1) a b := by
  refine ⟨⟨?_, ?_, ?_, ?_, ?_, ?_, ?_, ?_, ?_, ?_, ?_, ?_, ?_⟩, ?_, ?_, ?_, ?_, ?_, ?_, ?_⟩ <;> first
    | exact List.mem_cons_self ..
    | (refine nin_nat ?_ ?_ <;> (refine ne_nat ?_; omega))
    | (refine ne_nat ?_; omega)
theorem turn_ez {P : Program} {w : World} {K : PySem.W.Frag} {elts : List Expr} {kk : Nat} {tpos : Pos} {e z TI TO i1 i2 a b : Addr} (S : EZSep e z TI TO i1 i2 a b) :
    Turn P w K (.Tuple elts kk tpos) (IteZ K a b) [e, z, TI, TO, i1, i2] e (fun i h => (∃ old, IsEnum h e z ((i : Nat) : Int) old) ∧ (∃ f0 c, ZF f0 ∧ h.get? z = some (ZCell f0 c TI TO)) ∧ IsTupOf2 h TI (.ref i1) (.ref i2) ∧ (∃ u v, IsTupOf2 h TO u v) ∧ h.IsTupleIter i1 a i ∧ h.IsTupleIter i2 b i) where
  mem := by simp
  obj := fun i h st d hd => by
    obtain ⟨⟨old, he⟩, ⟨f0, c, _, hz⟩, hTI, ⟨u, v, hTO⟩, ⟨o1, h1, _, d1⟩, ⟨o2, h2, _, d2⟩⟩ := st
    have hd' : d = e ∨ d = z ∨ d = TI ∨ d = TO ∨ d = i1 ∨ d = i2 := by simpa using hd
    rcases hd' with q | q | q | q | q | q <;> subst q
    · exact ⟨_, he, fun v q => nomatch q⟩
    · exact ⟨_, hz, fun v q => nomatch q⟩
    · exact ⟨_, hTI, fun v q => nomatch q⟩
    · exact ⟨_, hTO, fun v q => nomatch q⟩
    · exact ⟨o1, h1, fun v q => by rw [d1] at q; cases q⟩
    · exact ⟨o2, h2, fun v q => by rw [d2] at q; cases q⟩
  keep := fun i h h' st k => by
    obtain ⟨⟨old, he⟩, ⟨f0, c, hf, hz⟩, hTI, ⟨u, v, hTO⟩, h1, h2⟩ := st
    exact ⟨⟨old, k e (by simp) _ he⟩, ⟨f0, c, hf, k z (by simp) _ hz⟩, k TI (by simp) _ hTI, ⟨u, v, k TO (by simp) _ hTO⟩, h1.at fun o q => k i1 (by simp) o q, h2.at fun o q => k i2 (by simp) o q⟩
  item := by
    intro X hP hw hK hc i pins s σ H E I hf st hg
    subst hP hw hK
    obtain ⟨⟨old, he⟩, ⟨f0, c, hf0, hz⟩, hTI, ⟨u, v, hTO⟩, h1, h2⟩ := st
    obtain ⟨xs, ys, x, y, hqx, hqy, hx, hy⟩ := hg
    obtain ⟨its, rv, p1, _⟩ := I.tuple hqx
    obtain ⟨its2, rv2, p2, _⟩ := I.tuple hqy
    obtain ⟨x', hx', rx⟩ := rv.get hx
    obtain ⟨y', hy', ry⟩ := rv2.get hy
    have hh : X.A.handled = none := I.ok.hd hc
    have hxa : its.toArray[i]? = some x' := by simpa using hx'
    have hya : its2.toArray[i]? = some y' := by simpa using hy'
    have l1 : i < its.toArray.size := (Array.getElem?_eq_some_iff.mp hxa).1
    have l2 : i < its2.toArray.size := (Array.getElem?_eq_some_iff.mp hya).1
    have hel : e < s.heap.objs.size := Heap.lt_size he
    have hz' := hz
    have lt : ∀ d, d ∈ [e, z, TI, TO, i1, i2] → d < s.heap.objs.size := fun d hd => by
      have hd' : d = e ∨ d = z ∨ d = TI ∨ d = TO ∨ d = i1 ∨ d = i2 := by simpa using hd
      rcases hd' with q | q | q | q | q | q <;> subst q
      · exact hel
      · exact Heap.lt_size hz
      · exact Heap.lt_size hTI
      · exact Heap.lt_size hTO
      · obtain ⟨_, q, _⟩ := h1; exact Heap.lt_size q
      · obtain ⟨_, q, _⟩ := h2; exact Heap.lt_size q
    refine ez_item S.sep (Draws.tuple (A := X.A.in1.in1) (show X.A.in1.in1.handled = none from hh) i1 a S.ai its.toArray) (Draws.tuple (A := X.A.in1.in1) (show X.A.in1.in1.handled = none from hh) i2 b S.bi its2.toArray) he hz hf0 hTI hTO ⟨h1, p1⟩ ⟨h2, p2⟩ l1 l2 S.ez S.eO S.eI S.e1 S.e2
      fun gx gy h' tk hgx hgy he' hz' hTI' hTO' s1 s2 ht1 ht2 kp => ?_
    have ex : gx = x' := by
      have : its.toArray[i]? = some gx := hgx
      rw [hxa] at this
      exact (Option.some.inj this).symm
    have ey : gy = y' := by
      have : its2.toArray[i]? = some gy := hgy
      rw [hya] at this
      exact (Option.some.inj this).symm
    subst ex ey
    refine ⟨_, rfl, wpAny_letOwnedTupleGo_enum (s := { s with heap := h', toks := tk + 1 }) he' fun h3 he3 sb => ?_⟩
    replace sb : Heap.SameBut e h' h3 := sb
    have n1 : s.heap.objs.size ≠ e := Nat.ne_of_gt hel
    have n2 : s.heap.objs.size + 1 ≠ e := Nat.ne_of_gt (Nat.lt_succ_of_lt hel)
    have new1 : ObjOk X.prog X.w (upd (upd H s.heap.objs.size (.tup [x, y])) (s.heap.objs.size + 1) (.tup [.int (i : Nat), .ref s.heap.objs.size])) h3 s.heap.objs.size (.tup [x, y]) := by
      refine ⟨?_, [gx, gy], .cons rx (.cons ry .nil), ⟨_, sb.extBut _ _ n1 ht1, rfl, _, rfl⟩⟩
      show 2 ≤ sizeLine
      decide
    have new2 : ObjOk X.prog X.w (upd (upd H s.heap.objs.size (.tup [x, y])) (s.heap.objs.size + 1) (.tup [.int (i : Nat), .ref s.heap.objs.size])) h3 (s.heap.objs.size + 1) (.tup [.int (i : Nat), .ref s.heap.objs.size]) := by
      refine ⟨?_, [.int i tk, .ref s.heap.objs.size], .cons ⟨_, rfl⟩ (.cons rfl .nil), ⟨_, sb.extBut _ _ n2 ht2, rfl, _, rfl⟩⟩
      show 2 ≤ sizeLine
      decide
    have sk : ∀ d o, d ∉ [e, z, TI, TO, i1, i2] → s.heap.get? d = some o → h3.get? d = some o := fun d o hd q => by
      have nn : ∀ t, t ∈ [e, z, TI, TO, i1, i2] → d ≠ t := fun t ht q => hd (q ▸ ht)
      exact sb.extBut _ _ (nn e (by simp)) (kp d o (nn e (by simp)) (nn z (by simp)) (nn TO (by simp)) (nn i1 (by simp)) (nn i2 (by simp)) q)
    have I1 := inv_new2 (t' := tk + 1) I sk hf (Nat.le_refl _) (Nat.le_succ _) (Nat.succ_ne_self _) new1 new2
    have ez1 : e ≠ i1 := fun q => S.e1 (by rw [q]; simp)
    have ez2 : e ≠ i2 := fun q => S.e2 (by rw [q]; simp)
    obtain ⟨g0, c', hg0, hz3⟩ := hz'
    obtain ⟨u', v', hO3⟩ := hTO'
    have m1 : H s.heap.objs.size = none := I.hok.fresh (Nat.le_refl _)
    have m2 : H (s.heap.objs.size + 1) = none := I.hok.fresh (Nat.le_succ _)
    refine ⟨.ref (s.heap.objs.size + 1), _, I1, rfl, ⟨s.heap.objs.size, s.heap.objs.size + 1, x, y, rfl, m1, m2, Nat.succ_ne_self _, rfl, fun l hl => ?_, fun l hl => ?_⟩, ⟨⟨.ref s.heap.objs.size, ?_⟩, ⟨g0, c', hg0, sb.extBut _ _ S.ez.symm hz3⟩, sb.extBut _ _ S.eI.symm hTI', ⟨u', v', sb.extBut _ _ S.eO.symm hO3⟩, s1.1.at fun o q => sb.extBut _ _ ez1.symm q, s2.1.at fun o q => sb.extBut _ _ ez2.symm q⟩, fun d hd => ?_⟩
    · rw [I.tuple_inj hl hqx]; exact hx
    · rw [I.tuple_inj hl hqy]; exact hy
    · have e1 : ((i + 1 : Nat) : Int) = (i : Int) + 1 := by omega
      rw [e1]
      exact he3
    · have dl := lt d hd
      rw [upd_ne (Nat.ne_of_lt (Nat.lt_succ_of_lt dl)), upd_ne (Nat.ne_of_lt dl)]
      exact (hf d hd).1
  done := by
    intro X hP hw hK hc i pins s σ H E I hf st hg
    subst hP hw hK
    obtain ⟨⟨old, he⟩, ⟨f0, c, hf0, hz⟩, hTI, ⟨u, v, hTO⟩, h1, h2⟩ := st
    obtain ⟨xs, ys, hqx, hqy, hi⟩ := hg
    obtain ⟨its, rv, p1, _⟩ := I.tuple hqx
    obtain ⟨its2, rv2, p2, _⟩ := I.tuple hqy
    have hh : X.A.handled = none := I.ok.hd hc
    have e1 := rv.length
    have e2 := rv2.length
    have z1 : its.toArray.size = its.length := List.size_toArray ..
    have z2 : its2.toArray.size = its2.length := List.size_toArray ..
    refine ez_end S.sep (Draws.tuple (A := X.A.in1.in1) (show X.A.in1.in1.handled = none from hh) i1 a S.ai its.toArray) (Draws.tuple (A := X.A.in1.in1) (show X.A.in1.in1.handled = none from hh) i2 b S.bi its2.toArray) he hz hf0 hTI hTO ⟨h1, p1⟩ ⟨h2, p2⟩ (by omega) (by omega) (by omega) fun h' tk kp => ⟨rfl, ?_⟩
    refine I.turnedL (t' := tk) (ch := [e, z, TI, TO, i1, i2]) (fun d o hd q => ?_) hf
    have nn : ∀ t, t ∈ [e, z, TI, TO, i1, i2] → d ≠ t := fun t ht q => hd (q ▸ ht)
    exact kp d o (nn z (by simp)) (nn TO (by simp)) (nn i1 (by simp)) (nn i2 (by simp)) q
  self := fun A i s Q E st h => let ⟨⟨_, he⟩, _⟩ := st; wpAny_pyIter_enum he h
set_option maxHeartbeats 1000000 in
theorem en_newZ {z TI TO : Addr} :
    Meets (Builtin.«enumerate.__new__» ⟨[.type "enumerate", .ref z], []⟩) (fun _ R y => IsZip y.heap z TI TO .none ∧
      R (.ok (.ret (.ref y.heap.objs.size))) { y with heap := y.heap.push { cls := .type "enumerate", data := .fields #[.none, .bool false, .ref z, rawInt 0, .none, .none] } }) :=
  .of_wp fun prog w A R y h => by
    obtain ⟨hp, g, d, tk, os⟩ := y
    obtain ⟨h1, h⟩ := h
    have hsub := sub_enumerate
    have q1 : ∀ {A' : Around} {E' : Value → Shared → Prop} {Q' : Value → Shared → Prop}, Q' (.ref z) ⟨hp, g, d, tk, os⟩ → wpAny (model prog w) A' (pyIter (.ref z)) Q' E' ⟨hp, g, d, tk, os⟩ := fun q => wpAny_pyIter_zip (s := ⟨hp, g, d, tk, os⟩) h1 q
    wp_walk using q1
    refine wpAny_stack_any fun st => wpAny_pure ?_
    split
    · rename_i c _ _ _ _ _
      cases (c == Value.type "enumerate") <;> (wp_walk using q1; exact ⟨_, rfl, h⟩)
    · wp_walk using q1
      exact ⟨_, rfl, h⟩
theorem en_beginsZ {prog : Program} {w : World} {A : Around} {E : Value → Shared → Prop} {s : Shared} {z TI TO : Addr} {Q : Value → Shared → Prop} (h1 : IsZip s.heap z TI TO .none)
    (h : ∀ h', IsEnum h' s.heap.objs.size z 0 .none → (∀ b o, s.heap.get? b = some o → h'.get? b = some o) → Q (.ref s.heap.objs.size) { s with heap := h' }) :
    wpAny (model prog w) A (call (.type "enumerate") [.ref z]) Q E s := by
  refine callType_new F.called_enumerate (by decide) (F.typeCall_enumerate_1 _) (F.newCall_enumerate_1 _) (fun obj => F.args_object_init_2 obj _) F.entry_enumerate_new en_newZ ⟨h1, ?_⟩
  have he := Heap.get?_push_size s.heap (o := { cls := .type "enumerate", data := .fields #[.none, .bool false, .ref z, rawInt 0, .none, .none] }) rfl
  exact ⟨⟨_, he, rfl⟩, h _ he fun b o x => Heap.get?_push_of_some _ x⟩
def iEnZip (K : PySem.W.Frag) (ta : TA) : TI := fun σ H R => ta σ H fun vs H1 => ∃ a b xs ys, vs = [.ref a, .ref b] ∧ SqT K H1 a xs ∧ SqT K H1 b ys ∧ R (IteZ K a b) H1
theorem pi_enZip {X : Cx} {e e2 : Expr} {ta : TA} {p p2 pos pos2 tpos : Pos} {elts : List Expr} {kk : Nat} (hg : Gl X "enumerate") (hm : X.mg "enumerate" = none) (hg2 : Gl X "zip") (hm2 : X.mg "zip" = none) (ha : PA X [e, e2] ta)
    (na : starEach [.Call (.Name "zip" p2) [e, e2] [] pos2] X.env = (false, eval (.Call (.Name "zip" p2) [e, e2] [] pos2) X.env) :: starEach [] X.env := by rfl)
    (hs : starEach [e, e2] X.env = (false, eval e X.env) :: starEach [e2] X.env := by rfl) (hpl : (backTo pos2 (starEach [e2] X.env)).any (·.1) = false := by rfl) :
    PI X (.Tuple elts kk tpos) (.Call (.Name "enumerate" p) [.Call (.Name "zip" p2) [e, e2] [] pos2] [] pos) (iEnZip X.K ta) := by
  refine ⟨fun pins s σ H R I h => ?_⟩
  refine Call_ (ld_blt I hg hm boot_enumerate ?_)
  refine PyProof.Rows.callWith_type1 (PyProof.Rows.args_cons ?_ na) na rfl
  refine Call_ (ld_blt I hg2 hm2 PyProof.Rows.boot_zip (PyProof.Rows.callWith_type1 (thn (ha.run pos2 pins s σ H _ I h) fun us s1 ⟨vs, H1, I1, r1, q1⟩ => ?_) hs hpl))
  obtain ⟨a, b, xs, ys, ex, hqx, hqy, q⟩ := q1
  subst ex
  cases r1 with
  | cons r rr =>
    cases rr with
    | cons r' rr =>
      cases rr
      cases r
      cases r'
      obtain ⟨its, rv, p1, _⟩ := I1.tuple hqx
      obtain ⟨its2, rv2, p2, _⟩ := I1.tuple hqy
      obtain ⟨o1, ho1, _⟩ := id p1
      obtain ⟨o2, ho2, _⟩ := id p2
      have la : a < s1.heap.objs.size := Heap.lt_size ho1
      have lb : b < s1.heap.objs.size := Heap.lt_size ho2
      refine RZ.call_zipT (show s1.heap.IsTuple a its.toArray from p1) (show s1.heap.IsTuple b its2.toArray from p2) fun h' hz hTI hTO h1 h2 hsz hk => ?_
      refine PyProof.Rows.args_nil ?_
      refine en_beginsZ hz fun h3 he hk3 => wpAny_pyIter_enum he ?_
      have I2 : Inv X pins σ H1 { s1 with heap := h3 } := I1.kept (t' := s1.toks) fun c o e => hk3 c o (hk c o e)
      replace he : IsEnum h3 h'.objs.size (s1.heap.objs.size + 4) 0 .none := he
      rw [hsz] at he
      have fresh : ∀ c, c ∈ [s1.heap.objs.size + 5, s1.heap.objs.size + 4, s1.heap.objs.size + 2, s1.heap.objs.size + 3, s1.heap.objs.size, s1.heap.objs.size + 1] → FpOk X pins H1 c := fun c hc => by
        have hle : s1.heap.objs.size ≤ c := by
          simp only [List.mem_cons, List.not_mem_nil, or_false] at hc
          omega
        exact I1.fpOk hle (I1.hok.fresh hle)
      have S := ez_apart s1.heap.objs.size a b la lb
      show PIE X pins σ (.Tuple elts kk tpos) R (.ref h'.objs.size) { s1 with heap := h3 }
      rw [hsz]
      exact ⟨s1.heap.objs.size + 5, [s1.heap.objs.size + 5, s1.heap.objs.size + 4, s1.heap.objs.size + 2, s1.heap.objs.size + 3, s1.heap.objs.size, s1.heap.objs.size + 1], _, _, H1, rfl, I2, turn_ez S, ⟨⟨.none, he⟩, ⟨.none, false, .inl rfl, hk3 _ _ hz⟩, hk3 _ _ hTI, ⟨_, _, hk3 _ _ hTO⟩, h1.at fun o q => hk3 _ o q, h2.at fun o q => hk3 _ o q⟩, fresh, q⟩
def ezL (as bs : List D) : List D := enumL 0 (zipL as bs)
def ezI (a b : EF) : IF_ := fun sk ev => match a sk ev with
  | some (.tup as, s1) => match b s1 ev with
    | some (.tup bs, s2) => some (ezL as bs, s2)
    | _ => none
  | _ => none
section
variable {X : Cx} {F : Fm} {own : List Nat} {top : Bool} {a tg : Expr} {Ea Eb : EF}
theorem di_ez {t u : TE} (ht : t = tD X.K F own top Ea) (hu : u = tD X.K F own top Eb) (h : PI X tg a (iEnZip X.K (tCons t (tCons u tNil)))) : PI X tg a (tI X.K F own top (ezI Ea Eb)) := PI.conv h fun σ H Q ⟨O, sk, ev, ds, sk', S, e, q⟩ => by
  subst ht hu
  unfold ezI at e
  split at e
  · rename_i e1
    split at e
    · rename_i e2
      cases e
      refine ⟨O, sk, ev, _, _, S, e1, fun v1 H1 S1 x1 d1 => ⟨O, _, ev, _, _, S1, e2, fun v2 H2 S2 x2 d2 => ?_⟩⟩
      obtain ⟨p1, xs, rfl, hp1, sp1, st1⟩ := (d1.xt S1.ol (S1.kp x2) x2).stayT S2.ol
      obtain ⟨p2, ys, rfl, hp2, sp2, st2⟩ := d2.stayT S2.ol
      refine ⟨p1, p2, xs, ys, rfl, hp1, hp2, q _ H2 S2 (x1.trans x2) fun O3 H3 z => ?_⟩
      obtain ⟨hq1, sq1⟩ := st1 O3 H3 z
      obtain ⟨hq2, sq2⟩ := st2 O3 H3 z
      refine ⟨fun i d hd => ?_, ?_⟩
      · obtain ⟨dp, hdp, rfl⟩ := enumL_get _ 0 i d hd
        obtain ⟨da, db, ha, hb, rfl⟩ := zipL_get _ _ i dp hdp
        obtain ⟨x', hx', dx⟩ := sq1.get ha
        obtain ⟨y', hy', dy⟩ := sq2.get hb
        refine ⟨⟨xs, ys, x', y', hq1, hq2, hx', hy'⟩, fun x H4 y => ?_⟩
        obtain ⟨T1, T2, x0, y0, rfl, hT1, hT2, hne, e4, hx, hy⟩ := y
        have hx2 := hx xs hq1
        have hy2 := hy ys hq2
        rw [hx2] at hx'; cases hx'
        rw [hy2] at hy'; cases hy'
        subst e4
        have E1 : Ex H3 (upd H3 T1 (.tup [x', y'])) := Ex.new hT1
        have hT2' : upd H3 T1 (.tup [x', y']) T2 = none := by rw [upd_ne hne]; exact hT2
        have E2 : Ex (upd H3 T1 (.tup [x', y'])) (upd (upd H3 T1 (.tup [x', y'])) T2 (.tup [.int (i : Nat), .ref T1])) := Ex.new hT2'
        have E3 : Ex H3 (upd (upd H3 T1 (.tup [x', y'])) T2 (.tup [.int (i : Nat), .ref T1])) := fun b o e => E2 b o (E1 b o e)
        have ol := z.2.2.2
        refine ⟨E3, T2, [.int (i : Nat), .ref T1], rfl, .inl (.inl upd_same), _, [.ref T1], rfl, ?_, _, [], rfl, ⟨T1, [x', y'], rfl, .inl (.inl ?_), x', [y'], rfl, dx.ex ol E3, y', [], rfl, dy.ex ol E3, rfl⟩, rfl⟩
        · show _ = _
          rw [Nat.zero_add]
        · rw [upd_ne (Ne.symm hne), upd_same]
      · refine ⟨xs, ys, hq1, hq2, ?_⟩
        show (ezL _ _).length = _
        unfold ezL
        rw [enumL_length, zipL_length, sq1.length, sq2.length]
    · cases e
  · cases e
end
end Dn
namespace Dn
open PySem PySem.Spec PyProof.Rows L2
@[simp] theorem iw_ez {sk : D} {ev : VE} {Ea Eb : EF} {QA : List D → D → Prop} : AW (ezI Ea Eb) sk ev QA ↔ EW Ea sk ev fun d s1 => EW Eb s1 ev fun e s2 => ∃ as bs, d = .tup as ∧ e = .tup bs ∧ QA (ezL as bs) s2 := by
  unfold AW EW ezI
  cases h0 : Ea sk ev with
  | none => simp [h0]
  | some r =>
    obtain ⟨d, s1⟩ := r
    cases d <;> simp [h0] <;> cases h1 : Eb s1 ev <;> simp [h1] <;> (rename_i r1; obtain ⟨e, s2⟩ := r1; cases e <;> simp [h1])
end Dn
namespace Dn
open PySem PySem.Spec PyProof.Rows L2
/-! ### {} -/
section
variable {X : Cx} {F : Fm} {own : List Nat} {top : Bool} {pos : Pos}
theorem de_dct : DE X F own top (.Dict [] [] pos) (cE .dct) := PE.conv pe_dnewK fun σ H Q ⟨O, sk, ev, d, sk', S, e, q⟩ => by
  cases e
  intro p hp
  exact q _ _ (S.ex (Ex.new hp)) (Ex.new hp).xt (.of ⟨p, rfl, upd_same, S.ol.not_none hp⟩)
end
end Dn
namespace Dn
open PySem PySem.Spec PyProof.Rows L2
/-! ### exceptions of own classes without own __init__, made with no argument -/
def bmV : List Value := [.type "ValueError", .type "Exception", .type "BaseException", .type "object"]
/-- what is known of such a class -/
structure ExcC (K : PySem.W.Frag) (mg : Str → Option Value) (x : Str) (C : Addr) : Prop where
  mgx : mg x = some (.ref C)
  keep : PySem.W.keepIn K (.ref C) = true
  exc : PySem.W.excIn K C bmV "ValueError.__new__" = true
  sub : PySem.W.subIn K (.ref C) (.type "BaseException") = some true
  typ : PySem.W.typeIn K (.ref C) = some (.type "type")
  self : PySem.W.subIn K (.ref C) (.ref C) = some true
theorem ExcC.exm {K : PySem.W.Frag} {mg : Str → Option Value} {x : Str} {C : Addr} (E : ExcC K mg x C) : PySem.W.exmOne K (.ref C) (.ref C) = some true := by
  have h : (PySem.W.clsIn K C).isSome = true := by
    have q := E.exc
    unfold PySem.W.excIn at q
    split at q
    · rename_i dd cd sl ho
      unfold PySem.W.clsIn
      rw [ho]
      rfl
    · cases q
  unfold PySem.W.exmOne
  rw [if_pos (by rw [E.sub]; rfl)]
  unfold PySem.W.kitCls
  simp only [h, E.typ, Bool.true_and, beq_self_eq_true, if_true]
  exact E.self
section
variable {X : Cx} {C : Addr} {bmB : List Value} {B newId initId : String}
theorem pmk_own0 {x : Str} {p pos : Pos} (F : ExcBaseFacts B newId initId bmB) (q : PySem.W.excIn X.K C bmB newId = true) (gC : X.mg x = some (.ref C)) (kC : PySem.W.keepIn X.K (.ref C) = true) (r : Raises X (.ref C)) (hg : Gl X x)
    (hdb : (x == ("__debug__" : Str)) = false := by decide) : PMk X (.Call (.Name x p) [] [] pos) (fun _ H Q => Q (.ref C) none H) := by
  intro pins s σ H Q I h
  refine wpAny_Call_Name_kw (ld_glob I hg gC ?_ hdb)
  refine PySem.W.callWith_K0 I.kIn kC ?_
  obtain ⟨bm, N, nm, qn, bs, hdct, sn, sub, ab, col, dd, k0, k1, k2, k3, k5, mN, hC, hN, hni, T⟩ := exc_obj I.kIn q
  refine wpAny_call_exc_subT F T hC hN hni (fun h' e hm => ?_) (Nat.zero_le _)
  exact mk_of I hm r h (I.hok.gone hm.new)
end
/-- the wish of a frame, as the context has it -/
def wF (X : Cx) (F : Fm) : WX := fun cls d σ H => ∃ x C, X.mg x = some (.ref C) ∧ cls = .ref C ∧ d = none ∧ F.W x σ H
def raiseS (x : Str) : SF := fun sk ev => some (.xc x sk ev)
section
variable {X : Cx} {F : Fm} {own own' ol : List Nat} {fr : Bool} {C : Addr}
/-- raise X() -/
theorem ds_raise0 {x : Str} {p pos pos' : Pos} (hc : X.calm = true) (tk : Takes X (wF X F)) (E : ExcC X.K X.mg x C) (hg : Gl X x := by rfl) (hdb : (x == ("__debug__" : Str)) = false := by decide) :
    DS X F own own' ol fr (.Raise (some (.Call (.Name x p) [] [] pos)) none pos') (raiseS x) := PS.conv (ps_raise hc tk (pmk_own0 PySem.F.excBase_ValueError E.exc E.mgx E.keep (raises_own E.sub E.typ) hg hdb)) fun Dn σ H ⟨O, sk, ev, f, S, e, q⟩ => by
  cases e
  obtain ⟨O2, S2, hO⟩ := S.freeze (own2 := []) fun i hi => nomatch hi
  exact ⟨x, C, E.mgx, rfl, rfl, q O2 σ H S2 .refl fun b h => .inl (hO b h)⟩
end
/-- a def that may raise: what it hands back, or the name of the class -/
def funVX (n : Nat) (S : SF) : List D → Option (Except Str D) := fun ds => match S .non (env0 n ds) with
  | some (.rt _ d) => some (.ok d)
  | some (.nx _ _) => some (.ok .non)
  | some (.xc x _ _) => some (.error x)
  | _ => none
/-- the wish of such a def's frame -/
def wX (mg : Str → Option Value) (E : XK) : Str → L2.St → Hp → Prop := fun x _ H' => ∀ C, mg x = some (.ref C) → E (.ref C) none H'
def spVX (K : PySem.W.Frag) (mg : Str → Option Value) (n : Nat) (f : List D → Option (Except Str D)) : Sp := fun vs H Q E => ∃ (O : Addr → Prop) (ds : List D), OL O H ∧ DFs K H O ds vs ∧ ds.length = n ∧
  ((∃ d, f ds = some (.ok d) ∧ ∀ v H', Ex H H' → DF K H' O d v → Q v H') ∨ ∃ x, f ds = some (.error x) ∧ ∀ C H', mg x = some (.ref C) → Ex H H' → E (.ref C) none H')
section
variable {P : Program} {w : World} {K : PySem.W.Frag} {mg : Str → Option Value} {base : Heap} {x qual : Str} {st : Stmt} {f : Addr} {fd : FuncData} {N ps : List Str} {k : Nat} {own' ol : List Nat} {Sd : SF}
theorem fn_VX (F : Fun K x qual st f fd) (S : FnScope N ps (defScope st))
    (hb : ∀ (cdv : Value) (A : Around) (outer : List PySem.Env) (s : Shared) (H : Hp) (E : XK) (H1 : Hp) (O : Addr → Prop), Room k (A.deeper (envOfC qual (defScope st) s.heap.objs.size f cdv)) →
      DSs (cxOf (CX P w) P w K mg base N qual (defScope st) f cdv A outer s H E) ⟨none, H1, O, wX mg E⟩ [] own' ol false (defBody st) Sd) : FnOk P w K mg base (CX P w) (k + 1) f fd ps (spVX K mg ps.length (funVX N.length Sd)) := by
  refine F.okX S (fun vs H Q E h => ?_) (fun cdv A outer s H vs Q E hr h => ?_)
  · obtain ⟨O, ds, _, hd, hl, _⟩ := h
    exact hd.length.symm.trans hl
  · obtain ⟨O, ds, ol, hd, hl, hf⟩ := h
    refine ⟨_, hb cdv A outer s H E H O hr, ?_⟩
    rcases hf with ⟨d, hf, q⟩ | ⟨x, hf, q⟩
    · unfold funVX at hf
      split at hf
      · rename_i s1 d1 e1
        cases hf
        refine ⟨O, .non, _, _, SR.init ol hd, e1, fun v H' r => q v H' (fun b o e => r.1 b o e (fun z => nomatch z)) ?_⟩
        have r2 := r.2
        rw [if_neg Bool.false_ne_true] at r2
        exact r2.1
      · rename_i s1 d1 e1
        cases hf
        exact ⟨O, .non, _, _, SR.init ol hd, e1, fun O' σ' H' S' k o => q .non H' (fun b u e => S'.pres b u e (fun z => nomatch z)) rfl⟩
      · cases hf
      · cases hf
    · unfold funVX at hf
      split at hf
      · cases hf
      · cases hf
      · rename_i x1 s1 d1 e1
        cases hf
        exact ⟨O, .non, _, _, SR.init ol hd, e1, fun O' σ' H' S' k o C hC => q C H' hC fun b u e => S'.pres b u e (fun z => nomatch z)⟩
      · cases hf
end
theorem PSnox {X : Cx} {st : Stmt} {t : TS} (h : PS X.nox st t) : PS X st t := ⟨fun pins s σ H D I hw =>
  wpAny_mono (h.run pins s σ H D (I.wish _) hw) (fun _ _ q => q.unwish) fun _ _ z => False.elim z⟩
/-- what such a def's frame takes -/
theorem takes_wX {X : Cx} {E : XK} {H1 : Hp} {O : Addr → Prop} (tk : Takes X fun cls d _ H => E cls d H) : Takes X (wF X ⟨none, H1, O, wX X.mg E⟩) := tk.imp fun c d σ H ⟨x, C, h1, h2, h3, h4⟩ => by
  subst h2 h3
  exact h4 C h1
def DefOkX (P : Program) (w : World) (K : PySem.W.Frag) (mg : Str → Option Value) (base : Heap) (k : Nat) (x : Str) (st : Stmt) (ps : List Str) (sp : Sp) : Prop :=
  ∃ f fd, Fun K x x st f fd ∧ FnOk P w K mg base (CX P w) k f fd ps sp ∧ mg x = some (.ref f) ∧ Binds K fd ps []
/-- try: name = f(..) except X: suite -/
def tryS (i : Nat) (h : List D → Option (Except Str D)) (As : AF) (x : Str) (B : SF) : SF := fun sk ev => match As sk ev with
  | none => none
  | some (ds, s1) => match h ds with
    | some (.ok d) => some (.nx s1 (ev.set i (some d)))
    | some (.error z) => if z = x then B s1 ev else none
    | none => none
theorem takesN {X : Cx} : Takes X fun _ _ _ _ => False := fun u s' ⟨_, _, _, _, _, _, _, _, _, _, _, _, _, _, _, _, w⟩ => w.elim
section
variable {X : Cx} {F : Fm} {own own' ol : List Nat} {fr : Bool} {C : Addr} {i k n : Nat} {y g x : Str} {st b0 : Stmt} {ps : List Str} {h : List D → Option (Except Str D)} {e : Expr} {es : List Expr} {As : AF} {B : SF} {suite : List Stmt} {py pg pc pa np pos' pos : Pos}
theorem ds_tryCall (hs : X.stack = X.env :: X.outer) (hf : X.env.frame = some X.env.locals) (E : ExcC X.K X.mg x C) (D : DefOkX X.prog X.w X.K X.mg X.base k g st ps (spVX X.K X.mg n h)) (hr : ∀ pn xe, Room k (X.tr pn xe).A)
    (hgx : Gl X x) (hgg : Gl X g) (hN : X.N.Nodup) (hi : X.N[i]? = some y) (hl : Loc X.env.scope y) (h0 : F.io = none ∨ i ≠ 0) (ho : own.contains i = false) (hn : chk n As)
    (ha : ∀ pn xe, DA (X.tr pn xe) F own (e :: es) As) (hsu : ∀ a pn, DSs (X.suite a pn) F own own ol fr (b0 :: suite) B)
    (hsw : swapsWith (.Call (.Name g pg) (e :: es) [] pc) (some (.Name y py)) pa.line X.env = pure false := by rfl) (hfn : X.fn y = true ∨ X.env.scope.names.lookup y = some .local := by first | exact .inl rfl | exact .inr rfl | assumption)
    (hdg : (g == ("__debug__" : Str)) = false := by decide) (hdx : (x == ("__debug__" : Str)) = false := by decide)
    (he : starEach (e :: es) X.env = (false, eval e X.env) :: starEach es X.env := by rfl) (hpl : (backTo pc (starEach es X.env)).any (·.1) = false := by rfl) :
    DS X F own own ol fr (.Try [.Assign [.Name y py] (.Call (.Name g pg) (e :: es) [] pc) pa] [.ExceptHandler (some (.Name x np)) none (b0 :: suite) pos'] [] [] pos) (tryS i h As x B) := by
  obtain ⟨fa, fd, hF, G, hm, hb⟩ := D
  refine PS.conv (ps_try_only (X := X) (c := .ref C) (Wout := fun _ _ _ _ => False)
    (tb := fun W => tAsg (tCallS (spVX X.K X.mg n h) (WE W) (tA X.K F own As)) (gName i)) (ts := fun a cls d => tS X.K F own own ol fr B)
    hs hf ⟨hgx, hdx, .inl E.mgx⟩ takesN (fun W pn xe tk _ => ?_) (fun a oe cls d pn _ _ => hsu a _)) ?_
  · exact pss_one (ps_set (X := X.tr pn xe) hN hi hl (pe_callS (X := X.tr pn xe) G (hr pn xe) hgg hm hF.kp hb (fun σ => passAt tk σ) (ha pn xe) hdg he hpl) hsw hfn)
  · intro Dn σ H ⟨O, sk, ev, f, S, e1, q⟩
    unfold tryS at e1
    split at e1
    · cases e1
    rename_i ds s1 eA
    refine ⟨O, sk, ev, ds, s1, S, eA, fun vs H1 S1 x1 d1 => ⟨O, ds, S1.ol, d1, hn _ _ _ _ eA, ?_⟩⟩
    split at e1
    · rename_i d hd
      cases e1
      refine .inl ⟨d, hd, fun v H' ex dv => ?_⟩
      exact q O _ H' ((S1.ex ex).put ho h0 dv) (S.kp (x1.trans ex.xt)) .refl
    · rename_i z hz
      split at e1
      case isFalse => cases e1
      rename_i hzx
      subst hzx
      refine .inr ⟨z, hz, fun C' H' hC ex => ?_⟩
      rw [E.mgx] at hC
      cases hC
      exact ⟨true, E.exm, fun _ a _ => ⟨O, s1, ev, f, S1.ex ex, e1, q.back (S.kp (x1.trans ex.xt)) .refl⟩, fun z => nomatch z⟩
    · cases e1
end
end Dn
namespace Dn
open PySem PySem.Spec PyProof.Rows L2 RT RZ
/-! ### zip of a tuple and a list -/
def ItzM (K : PySem.W.Frag) (a b : Addr) : It :=
  ⟨fun i H => ∃ (xs ys : List V) (x y : V), SqT K H a xs ∧ SqL K H b ys ∧ xs[i]? = some x ∧ ys[i]? = some y,
    fun i H v H' => ∃ T x y, v = .ref T ∧ H T = none ∧ H' = upd H T (.tup [x, y]) ∧ (∀ xs, SqT K H a xs → xs[i]? = some x) ∧ ∀ ys, SqL K H b ys → ys[i]? = some y,
    fun i H => ∃ xs ys : List V, SqT K H a xs ∧ SqL K H b ys ∧ i ≤ xs.length ∧ i ≤ ys.length ∧ (i = xs.length ∨ i = ys.length)⟩
theorem sep_of {z TI TO i1 i2 a b : Addr} (D : ZipApart z TI TO i1 i2 a b) : ZipSep2 z TI TO i1 i2 [i1, a] [i2, b] :=
  ⟨D.TIz, D.TOz, D.TITO, D.TIi1, by simp, by simp [D.i1z.symm, D.l1z.symm], by simp [D.TOi1, D.l1TO.symm], D.TIi2, by simp, by simp [D.i2z.symm, D.l2z.symm], by simp [D.TOi2, D.l2TO.symm], by simp [D.i12, D.l2i1.symm], by simp [D.i12.symm, D.l1i2.symm]⟩
theorem turn_zipM {P : Program} {w : World} {K : PySem.W.Frag} {elts : List Expr} {kk : Nat} {tpos : Pos} {a b z TI TO i1 i2 : Addr} (D : ZipApart z TI TO i1 i2 a b) :
    Turn P w K (.Tuple elts kk tpos) (ItzM K a b) [z, TI, TO, i1, i2] z (fun i h => IsZip h z TI TO .none ∧ PySem.IsPair h TI (.ref i1) (.ref i2) ∧ (∃ x y, PySem.IsPair h TO x y) ∧ h.IsTupleIter i1 a i ∧ h.IsListIter i2 b i) where
  mem := by simp
  obj := fun i h st c hc => by
    obtain ⟨hz, hTI, ⟨x, y, hTO⟩, ⟨o1, e1, _, d1⟩, ⟨o2, e2, _, d2⟩⟩ := st
    have e' : c = z ∨ c = TI ∨ c = TO ∨ c = i1 ∨ c = i2 := by simpa using hc
    rcases e' with q | q | q | q | q
    · rw [q]; exact ⟨_, hz, fun v q => nomatch q⟩
    · rw [q]; exact ⟨_, hTI, fun v q => nomatch q⟩
    · rw [q]; exact ⟨_, hTO, fun v q => nomatch q⟩
    · rw [q]; exact ⟨o1, e1, fun v q => by rw [d1] at q; cases q⟩
    · rw [q]; exact ⟨o2, e2, fun v q => by rw [d2] at q; cases q⟩
  keep := fun i h h' st k => by
    obtain ⟨hz, hTI, ⟨x, y, hTO⟩, h1, h2⟩ := st
    exact ⟨k z (by simp) _ hz, k TI (by simp) _ hTI, ⟨x, y, k TO (by simp) _ hTO⟩, h1.at fun o q => k i1 (by simp) o q, h2.at fun o q => k i2 (by simp) o q⟩
  item := by
    intro X hP hw hK hc i pins s σ H E I hf st hg
    subst hP hw hK
    obtain ⟨hz, hTI, ⟨x0, y0, hTO⟩, h1, h2⟩ := st
    obtain ⟨xs, ys, x, y, hqx, hqy, hx, hy⟩ := hg
    obtain ⟨its, rv, p, _⟩ := I.tuple hqx
    obtain ⟨its2, rv2, p2, _⟩ := I.list hqy
    obtain ⟨u, hu, ru⟩ := rv.get hx
    obtain ⟨u2, hu2, ru2⟩ := rv2.get hy
    have hh := I.ok.hd hc
    have hzl : z < s.heap.objs.size := Heap.lt_size hz
    have hu' : its.toArray[i]? = some u := by simpa using hu
    have hu2' : its2.toArray[i]? = some u2 := by simpa using hu2
    refine wpAny_pyNext_zipD2_item (sep_of D) (Draws.tuple (A := X.A.in1) (show X.A.in1.handled = none from hh) i1 a D.l1i1 its.toArray) (Draws.list (A := X.A.in1) (show X.A.in1.handled = none from hh) i2 b D.l2i2 its2.toArray)
      hz hTI hTO ⟨h1, p⟩ ⟨h2, p2.isList⟩ (Array.getElem?_eq_some_iff.mp hu').1 (Array.getElem?_eq_some_iff.mp hu2').1 fun w1 w2 h' tk g1 g2 z' TO' h1' h2' hT hsz hk => ?_
    have g1' : its.toArray[i]? = some w1 := g1
    have g2' : its2.toArray[i]? = some w2 := g2
    rw [hu'] at g1'; cases g1'
    rw [hu2'] at g2'; cases g2'
    refine ⟨_, rfl, wpAny_letOwnedTupleGo_zip (s := { s with heap := h', toks := tk }) z' fun h'' z'' sb => ?_⟩
    have hT2 : h''.get? s.heap.objs.size = some { cls := .type "tuple", data := .seq #[u, u2] } := (sb.2 _ (Nat.ne_of_gt hzl)).trans hT
    have new : ObjOk X.prog X.w (upd H s.heap.objs.size (.tup [x, y])) h'' s.heap.objs.size (.tup [x, y]) :=
      ⟨by show 2 ≤ sizeLine; decide, [u, u2], .cons ru (.cons ru2 .nil), ⟨_, hT2, rfl, _, rfl⟩⟩
    have I1 : Inv X pins σ (upd H s.heap.objs.size (.tup [x, y])) { s with heap := h'', toks := tk } :=
      I.turnedNew (t' := tk) (ch := [z, TI, TO, i1, i2]) (fun c o hb q => (sb.2 c (fun q' => hb (by simp [q']))).trans (hk c o (fun q' => hb (by simp [q'])) (fun q' => hb (by simp [q'])) (fun q' => hb (by simp [q'])) (fun q' => hb (by simp [q'])) q)) hf (Nat.le_refl _) new
    refine ⟨.ref s.heap.objs.size, _, I1, rfl, ⟨_, x, y, rfl, I.hok.fresh (Nat.le_refl _), rfl, fun l hl => by rw [I.tuple_inj hl hqx]; exact hx, fun l hl => by rw [I.list_inj hl hqy]; exact hy⟩, ⟨z'', ?_, ⟨u, u2, ?_⟩, ?_, ?_⟩, fun c hcm => ?_⟩
    · exact (sb.2 _ D.TIz).trans (hk _ _ D.TIz D.TITO D.TIi1 D.TIi2 hTI)
    · exact (sb.2 _ D.TOz).trans TO'
    · exact h1'.1.at fun o q => (sb.2 _ D.i1z).trans q
    · exact h2'.1.at fun o q => (sb.2 _ D.i2z).trans q
    · have hlt : c < s.heap.objs.size := by
        have e' : c = z ∨ c = TI ∨ c = TO ∨ c = i1 ∨ c = i2 := by simpa using hcm
        rcases e' with q | q | q | q | q
        · rw [q]; exact hzl
        · rw [q]; exact Heap.lt_size hTI
        · rw [q]; exact Heap.lt_size hTO
        · rw [q]; obtain ⟨_, e1, _⟩ := h1; exact Heap.lt_size e1
        · rw [q]; obtain ⟨_, e2, _⟩ := h2; exact Heap.lt_size e2
      rw [upd_ne (Nat.ne_of_lt hlt)]
      exact (hf c hcm).1
  done := by
    intro X hP hw hK hc i pins s σ H E I hf st hg
    subst hP hw hK
    obtain ⟨hz, hTI, ⟨x0, y0, hTO⟩, h1, h2⟩ := st
    obtain ⟨xs, ys, hqx, hqy, e1, e2, hend⟩ := hg
    obtain ⟨its, rv, p, _⟩ := I.tuple hqx
    obtain ⟨its2, rv2, p2, _⟩ := I.list hqy
    have l1 := rv.length
    have l2 := rv2.length
    have hh := I.ok.hd hc
    refine wpAny_pyNext_zipD2_end (sep_of D) (Draws.tuple (A := X.A.in1) (show X.A.in1.handled = none from hh) i1 a D.l1i1 its.toArray) (Draws.list (A := X.A.in1) (show X.A.in1.handled = none from hh) i2 b D.l2i2 its2.toArray)
      hz hTI hTO ⟨h1, p⟩ ⟨h2, p2.isList⟩ (by simp; omega) (by simp; omega) (by simp; omega) fun h' tk hk => ⟨rfl, I.turnedL (t' := tk) (ch := [z, TI, TO, i1, i2]) (fun c o hb q =>
      hk c o (fun q' => hb (by simp [q'])) (fun q' => hb (by simp [q'])) (fun q' => hb (by simp [q'])) (fun q' => hb (by simp [q'])) q) hf⟩
  self := fun A i s Q E st h => wpAny_pyIter_zip st.1 h
abbrev zMH1 (h : Heap) (l1 : Addr) : Heap := h.push { cls := .type "tuple_iterator", data := .fields #[.ref l1, .int 0 0] }
abbrev zMH2 (h : Heap) (l1 l2 : Addr) : Heap := (zMH1 h l1).push { cls := .type "list_iterator", data := .fields #[.ref l2, .int 0 0] }
abbrev zMH3 (h : Heap) (l1 l2 : Addr) : Heap := (zMH2 h l1 l2).push { cls := .type "tuple", data := .seq #[.ref h.objs.size, .ref (zMH1 h l1).objs.size] }
abbrev zMH4 (h : Heap) (l1 l2 : Addr) : Heap := (zMH3 h l1 l2).push { cls := .type "tuple", data := .seq #[.none, .none] }
abbrev zMH5 (h : Heap) (l1 l2 : Addr) : Heap := (zMH4 h l1 l2).push { cls := .type "zip", data := .fields #[.none, .bool false, .bool false, .ref (zMH2 h l1 l2).objs.size, .ref (zMH3 h l1 l2).objs.size] }
theorem meets_zipM_new (l1 l2 : Addr) (xs ys : Array Value) :
    Meets (Builtin.«zip.__new__» ⟨[.type "zip", .ref l1, .ref l2], []⟩) (fun _ R s => s.heap.IsTuple l1 xs ∧ s.heap.IsList l2 ys ∧
      R (.ok (.ret (.ref (zMH4 s.heap l1 l2).objs.size))) { s with heap := zMH5 s.heap l1 l2 }) :=
  .of_wp fun prog w A R s h => by
    obtain ⟨hp, g, d, tk, os⟩ := s; obtain ⟨hl1, hl2, h⟩ := h
    have hsub := sub_zip
    have hL1 : Heap.IsTuple (Shared.heap ⟨hp, g, d, tk, os⟩) l1 xs := hl1
    have hL2 : Heap.IsList (Shared.heap ⟨hp.push { cls := .type "tuple_iterator", data := .fields #[.ref l1, .int 0 0] }, g, d, tk, os⟩) l2 ys := Heap.IsList.push hl2 _
    wp_walk using wpAny_pyIter_tuple hL1, wpAny_pyIter_list hL2
    exact ⟨_, rfl, h⟩
section
variable {prog : Program} {w : World} {A : Around} {E : Value → Shared → Prop} {s : Shared}
theorem call_zipM {l1 l2 : Addr} {xs ys : Array Value} {Q : Value → Shared → Prop} (hl1 : s.heap.IsTuple l1 xs) (hl2 : s.heap.IsList l2 ys)
    (h : ∀ h', IsZip h' (s.heap.objs.size + 4) (s.heap.objs.size + 2) (s.heap.objs.size + 3) .none → PySem.IsPair h' (s.heap.objs.size + 2) (.ref s.heap.objs.size) (.ref (s.heap.objs.size + 1)) →
      PySem.IsPair h' (s.heap.objs.size + 3) .none .none → h'.IsTupleIter s.heap.objs.size l1 0 → h'.IsListIter (s.heap.objs.size + 1) l2 0 →
      (∀ c o, s.heap.get? c = some o → h'.get? c = some o) → Q (.ref (s.heap.objs.size + 4)) { s with heap := h' }) :
    wpAny (model prog w) A (call (.type "zip") [.ref l1, .ref l2]) Q E s := by
  refine callType_new F.called_zip (by decide) (F.typeCall_zip_2 _ _) (F.newCall_zip_2 _ _) (fun obj => F.args_object_init_3 obj _ _) F.entry_zip_new
    (meets_zipM_new l1 l2 xs ys) ⟨hl1, hl2, ?_⟩
  have z1 : (zMH1 s.heap l1).objs.size = s.heap.objs.size + 1 := Heap.size_push ..
  have z2 : (zMH2 s.heap l1 l2).objs.size = s.heap.objs.size + 2 := by rw [Heap.size_push, z1]
  have z3 : (zMH3 s.heap l1 l2).objs.size = s.heap.objs.size + 3 := by rw [Heap.size_push, z2]
  have z4 : (zMH4 s.heap l1 l2).objs.size = s.heap.objs.size + 4 := by rw [Heap.size_push, z3]
  have g5 : (zMH5 s.heap l1 l2).get? (zMH4 s.heap l1 l2).objs.size = some _ := Heap.get?_push_size _ rfl
  have g4 : (zMH5 s.heap l1 l2).get? (zMH3 s.heap l1 l2).objs.size = some _ := Heap.get?_push_of_some _ (Heap.get?_push_size _ rfl)
  have g3 : (zMH5 s.heap l1 l2).get? (zMH2 s.heap l1 l2).objs.size = some _ := Heap.get?_push_of_some _ (Heap.get?_push_of_some _ (Heap.get?_push_size _ rfl))
  have g2 : (zMH5 s.heap l1 l2).get? (zMH1 s.heap l1).objs.size = some _ := Heap.get?_push_of_some _ (Heap.get?_push_of_some _ (Heap.get?_push_of_some _ (Heap.get?_push_size _ rfl)))
  have g1 : (zMH5 s.heap l1 l2).get? s.heap.objs.size = some _ := Heap.get?_push_of_some _ (Heap.get?_push_of_some _ (Heap.get?_push_of_some _ (Heap.get?_push_of_some _ (Heap.get?_push_size _ rfl))))
  show _ ∧ _
  rw [z2, z3, z4] at g5
  rw [z1, z2] at g3
  rw [z3] at g4
  rw [z1] at g2
  rw [z4]
  have up : ∀ c o, s.heap.get? c = some o → (zMH5 s.heap l1 l2).get? c = some o := fun c o x =>
    Heap.get?_push_of_some _ (Heap.get?_push_of_some _ (Heap.get?_push_of_some _ (Heap.get?_push_of_some _ (Heap.get?_push_of_some _ x))))
  exact ⟨⟨_, g5, rfl⟩, h _ g5 g3 g4 ⟨_, g1, rfl, rfl⟩ ⟨_, g2, rfl, rfl⟩ up⟩
end
def iZipB (K : PySem.W.Frag) (ta : TA) : TI := fun σ H R => ta σ H fun vs H1 => ∃ a b xs ys, vs = [.ref a, .ref b] ∧ ((SqL K H1 a xs ∧ SqL K H1 b ys ∧ R (Itz K a b) H1) ∨ (SqT K H1 a xs ∧ SqL K H1 b ys ∧ R (ItzM K a b) H1))
theorem pi_zipB {X : Cx} {e e2 : Expr} {ta : TA} {p pos tpos : Pos} {elts : List Expr} {kk : Nat} (hg : Gl X "zip") (hm : X.mg "zip" = none) (ha : PA X [e, e2] ta)
    (hs : starEach [e, e2] X.env = (false, eval e X.env) :: starEach [e2] X.env := by rfl) (hpl : (backTo pos (starEach [e2] X.env)).any (·.1) = false := by rfl) :
    PI X (.Tuple elts kk tpos) (.Call (.Name "zip" p) [e, e2] [] pos) (iZipB X.K ta) := by
  refine ⟨fun pins s σ H R I h => ?_⟩
  refine Call_ (ld_blt I hg hm PyProof.Rows.boot_zip (PyProof.Rows.callWith_type1 (thn (ha.run pos pins s σ H _ I h) fun us s1 ⟨vs, H1, I1, r1, q1⟩ => ?_) hs hpl))
  obtain ⟨a, b, xs, ys, ex, q1⟩ := q1
  subst ex
  cases r1 with
  | cons r rr =>
    cases rr with
    | cons r' rr =>
      cases rr
      cases r
      cases r'
      generalize hN : s1.heap.objs.size = N
      have fresh5 : ∀ c, c ∈ [N + 4, N + 2, N + 3, N, N + 1] → FpOk X pins H1 c := fun c hcm => by
        have e' : c = N + 4 ∨ c = N + 2 ∨ c = N + 3 ∨ c = N ∨ c = N + 1 := by simpa using hcm
        have hle : s1.heap.objs.size ≤ c := by
          rw [hN]
          rcases e' with z | z | z | z | z <;> omega
        exact I1.fpOk hle (I1.hok.fresh hle)
      rcases q1 with ⟨hqx, hqy, q⟩ | ⟨hqx, hqy, q⟩
      · obtain ⟨its, rv, p1, _⟩ := I1.list hqx
        obtain ⟨its2, rv2, p2, _⟩ := I1.list hqy
        refine call_zip_2 p1.isList p2.isList fun h' hz hTI hTO h1 h2 hsz hk => wpAny_pyIter_zip hz ?_
        have I2 : Inv X pins σ H1 { s1 with heap := h' } := I1.kept (t' := s1.toks) hk
        rw [hN] at hz hTI hTO h1 h2 ⊢
        exact ⟨N + 4, [N + 4, N + 2, N + 3, N, N + 1], _, _, H1, rfl, I2, turn_zip (PySem.W.ktu_apart N a b (by rw [← hN]; exact p1.lt) (by rw [← hN]; exact p2.lt)), ⟨hz, hTI, ⟨_, _, hTO⟩, h1, h2⟩, fresh5, q⟩
      · obtain ⟨its, rv, p1, _⟩ := I1.tuple hqx
        obtain ⟨its2, rv2, p2, _⟩ := I1.list hqy
        obtain ⟨o1, ho1, _⟩ := id p1
        refine call_zipM (show s1.heap.IsTuple a its.toArray from p1) p2.isList fun h' hz hTI hTO h1 h2 hk => wpAny_pyIter_zip hz ?_
        have I2 : Inv X pins σ H1 { s1 with heap := h' } := I1.kept (t' := s1.toks) hk
        rw [hN] at hz hTI hTO h1 h2 ⊢
        exact ⟨N + 4, [N + 4, N + 2, N + 3, N, N + 1], _, _, H1, rfl, I2, turn_zipM (PySem.W.ktu_apart N a b (by rw [← hN]; exact Heap.lt_size ho1) (by rw [← hN]; exact p2.lt)), ⟨hz, hTI, ⟨_, _, hTO⟩, h1, h2⟩, fresh5, q⟩
/-- zip of a list or a tuple, and a list -/
def zipBI (a b : EF) : IF_ := fun sk ev => match a sk ev with
  | some (.lst as, s1) => (match b s1 ev with
    | some (.lst bs, s2) => some (zipL as bs, s2)
    | _ => none)
  | some (.tup as, s1) => (match b s1 ev with
    | some (.lst bs, s2) => some (zipL as bs, s2)
    | _ => none)
  | _ => none
section
variable {X : Cx} {F : Fm} {own : List Nat} {top : Bool} {a tg : Expr} {Ea Eb : EF}
theorem di_zipB {t u : TE} (ht : t = tD X.K F own top Ea) (hu : u = tD X.K F own top Eb) (h : PI X tg a (iZipB X.K (tCons t (tCons u tNil)))) : PI X tg a (tI X.K F own top (zipBI Ea Eb)) := PI.conv h fun σ H Q ⟨O, sk, ev, ds, sk', S, e, q⟩ => by
  subst ht hu
  unfold zipBI at e
  split at e
  · rename_i e1
    split at e
    · rename_i e2
      cases e
      refine ⟨O, sk, ev, _, _, S, e1, fun v1 H1 S1 x1 d1 => ⟨O, _, ev, _, _, S1, e2, fun v2 H2 S2 x2 d2 => ?_⟩⟩
      obtain ⟨p1, xs, rfl, hp1, sp1, st1⟩ := (d1.xt S1.ol (S1.kp x2) x2).stays S2.ol
      obtain ⟨p2, ys, rfl, hp2, sp2, st2⟩ := d2.stays S2.ol
      refine ⟨p1, p2, xs, ys, rfl, .inl ⟨.inl (.inl hp1), .inl (.inl hp2), q _ H2 S2 (x1.trans x2) fun O3 H3 z => ?_⟩⟩
      obtain ⟨hq1, sq1⟩ := st1 O3 H3 z
      obtain ⟨hq2, sq2⟩ := st2 O3 H3 z
      have W := walk_zip (K := X.K) (a := p1) (b := p2) (xs := xs) (ys := ys) rfl
      have G : SqL X.K H3 p1 xs ∧ SqL X.K H3 p2 ys := ⟨.inl (.inl hq1), .inl (.inl hq2)⟩
      refine ⟨fun i d hd => ?_, ?_⟩
      · obtain ⟨da, db, ha, hb, rfl⟩ := zipL_get _ _ i d hd
        have h1 := sq1.lt ha
        have h2 := sq2.lt hb
        refine ⟨W.goes i H3 (by omega) G, fun x H4 y => ?_⟩
        obtain ⟨T, x0, y0, rfl, hT, e4, hx, hy⟩ := W.yields i H3 x H4 (by omega) G y
        obtain ⟨x', hx', dx⟩ := sq1.get ha
        obtain ⟨y', hy', dy⟩ := sq2.get hb
        have hx2 : xs[i]? = some x0 := hx
        have hy2 : ys[i]? = some y0 := hy
        rw [hx2] at hx'; cases hx'
        rw [hy2] at hy'; cases hy'
        exact pair_new z.2.2.2 hT e4 dx dy
      · rw [zipL_length, sq1.length, sq2.length]; exact W.stops H3 G
    · cases e
  · rename_i e1
    split at e
    · rename_i e2
      cases e
      refine ⟨O, sk, ev, _, _, S, e1, fun v1 H1 S1 x1 d1 => ⟨O, _, ev, _, _, S1, e2, fun v2 H2 S2 x2 d2 => ?_⟩⟩
      obtain ⟨p1, xs, rfl, hp1, sp1, st1⟩ := (d1.xt S1.ol (S1.kp x2) x2).stayT S2.ol
      obtain ⟨p2, ys, rfl, hp2, sp2, st2⟩ := d2.stays S2.ol
      refine ⟨p1, p2, xs, ys, rfl, .inr ⟨hp1, .inl (.inl hp2), q _ H2 S2 (x1.trans x2) fun O3 H3 z => ?_⟩⟩
      obtain ⟨hq1, sq1⟩ := st1 O3 H3 z
      obtain ⟨hq2, sq2⟩ := st2 O3 H3 z
      have G2 : SqL X.K H3 p2 ys := .inl (.inl hq2)
      refine ⟨fun i d hd => ?_, ?_⟩
      · obtain ⟨da, db, ha, hb, rfl⟩ := zipL_get _ _ i d hd
        obtain ⟨x', hx', dx⟩ := sq1.get ha
        obtain ⟨y', hy', dy⟩ := sq2.get hb
        refine ⟨⟨xs, ys, x', y', hq1, G2, hx', hy'⟩, fun x H4 y => ?_⟩
        obtain ⟨T, x0, y0, rfl, hT, e4, hx, hy⟩ := y
        have hx2 := hx xs hq1
        have hy2 := hy ys G2
        rw [hx2] at hx'; cases hx'
        rw [hy2] at hy'; cases hy'
        exact pair_new z.2.2.2 hT e4 dx dy
      · refine ⟨xs, ys, hq1, G2, ?_⟩
        rw [zipL_length, sq1.length, sq2.length]
        omega
    · cases e
  · cases e
end
@[simp] theorem iw_zipB {sk : D} {ev : VE} {Ea Eb : EF} {QA : List D → D → Prop} : AW (zipBI Ea Eb) sk ev QA ↔ EW Ea sk ev fun d s1 => EW Eb s1 ev fun e s2 => ∃ as bs, (d = .lst as ∨ d = .tup as) ∧ e = .lst bs ∧ QA (zipL as bs) s2 := by
  unfold AW EW zipBI
  cases h0 : Ea sk ev with
  | none => simp [h0]
  | some r =>
    obtain ⟨d, s1⟩ := r
    cases d <;> simp [h0] <;> (cases h1 : Eb s1 ev with
      | none => simp [h1]
      | some r1 =>
        obtain ⟨e, s2⟩ := r1
        cases e <;> simp [h1])
end Dn
namespace Dn
open PySem PySem.Spec PyProof.Rows L2
abbrev stm (i : Nat) : Stmt := PySem.Challenge.pw_legsteps_k73_whole_runs.main.body.getD i (.Pass default)
abbrev c_name__ : D := .str "law_legsteps_k73_whole_runs"
abbrev c_ZERO : D := .tup [.int 0, .int 1]
abbrev c_MOST_STEPS : D := .int 8
abbrev c_LONGEST : D := .int 60
section
variable {P : Program} {w : World} {K : PySem.W.Frag} {mg : Str → Option Value} {base : Heap}
abbrev s_is_whole : Stmt := stm 11
abbrev N_is_whole : List Str := ["value"]
theorem sc_is_whole : FnScope N_is_whole ["value"] (defScope s_is_whole) := ⟨rfl, rfl, rfl, by decide +kernel, rfl, by decide +kernel, by decide +kernel⟩
def den_is_whole : SF := (retS (andE (unE (isQ "int" isi_int) (varE 0)) (unE notQ (unE (isQ "bool" isi_bool) (varE 0)))))
def f_is_whole : List D → Option D := funV 1 den_is_whole
theorem ok_is_whole (B : Blt mg) {fa : Addr} {fd : FuncData} (F : Fun K "is_whole" "is_whole" s_is_whole fa fd) (hm : mg "is_whole" = some (.ref fa)) : DefOk P w K mg base 1 "is_whole" s_is_whole ["value"] (spV K 1 f_is_whole) :=
  ⟨fa, fd, F, fn_V (own' := []) (ol := []) F sc_is_whole (fun _ _ _ _ _ _ _ _ hr => (dss_one (ds_ret (de_and (DE.up (de_isi (p := isi_int) (by decide +kernel) (pe_callB call_isi (by rfl) B.isinstance (by decide +kernel) (pa_cons (DE.up (de_var (pv 0) rfl)) (pa_cons (pe_bltn (by rfl) B.int (by decide +kernel) rfl) pa_nil))))) (de_one (de_not (DE.up (de_isi (p := isi_bool) (by decide +kernel) (pe_callB call_isi (by rfl) B.isinstance (by decide +kernel) (pa_cons (DE.up (de_var (pv 0) rfl)) (pa_cons (pe_bltn (by rfl) B.bool (by decide +kernel) rfl) pa_nil))))))))))), hm, F.binds fun _ _ _ _ _ _ us hl => match us, hl with | [_], _ => rfl⟩
abbrev s_are_wholes : Stmt := stm 12
abbrev N_are_wholes : List Str := ["value", "many", "number"]
theorem sc_are_wholes : FnScope N_are_wholes ["value", "many"] (defScope s_are_wholes) := ⟨rfl, rfl, rfl, by decide +kernel, rfl, by decide +kernel, by decide +kernel⟩
def den_are_wholes : SF := (retS (andE (unE (isQ "tuple" isi_tuple) (varE 0)) (andE (binE eqQ (unE lenQ (varE 0)) (varE 1)) (unE allQ (lcE (seqI (varE 0)) (nameG 2) yesB (callE f_is_whole (consA (varE 2) nilA)) [2])))))
def f_are_wholes : List D → Option D := funV 3 den_are_wholes
theorem ok_are_wholes (B : Blt mg) (h_is_whole : DefOk P w K mg base 1 "is_whole" s_is_whole ["value"] (spV K 1 f_is_whole)) {fa : Addr} {fd : FuncData} (F : Fun K "are_wholes" "are_wholes" s_are_wholes fa fd) (hm : mg "are_wholes" = some (.ref fa)) : DefOk P w K mg base 2 "are_wholes" s_are_wholes ["value", "many"] (spV K 2 f_are_wholes) :=
  ⟨fa, fd, F, fn_V (own' := []) (ol := []) F sc_are_wholes (fun _ _ _ _ _ _ _ _ hr => (dss_one (ds_ret (de_and (DE.up (de_isi (p := isi_tuple) (by decide +kernel) (pe_callB call_isi (by rfl) B.isinstance (by decide +kernel) (pa_cons (DE.up (de_var (pv 0) rfl)) (pa_cons (pe_bltn (by rfl) B.tuple (by decide +kernel) rfl) pa_nil))))) (de_and (DE.up (de_eq hr.units (DE.up (de_b1 c1_len (pe_callB call_len (by rfl) B.len PySem.boot_len (pa_cons (DE.up (de_var (pv 0) rfl)) pa_nil)))) (DE.up (de_var (pv 1) rfl)))) (de_one (de_b1 c1_all (pe_callB (cr_all rfl) (by rfl) B.all (by decide +kernel) (pa_cons (DE.up (DN.de (dn_lc (pe_lc (own := [("number", 2)]) rfl sc_are_wholes.nd (di_seq (de_var (pv 0) rfl)) (blkOk_by (N := N_are_wholes) (sc := defScope s_are_wholes) (own := [("number", 2)]) (by decide +kernel)) (fun _ _ _ _ _ => (dg_name (pg_name (i := 2) sc_are_wholes.nd rfl (.inl rfl)) rfl (.inl rfl))) (fun _ _ _ _ _ => pts_yes) (fun _ _ _ _ _ => (de_callD h_is_whole hr (da_cons (de_var (pv 2) rfl) da_nil) (chk_cons chk_nil)))) rfl (.inl rfl)))) pa_nil))))))))), hm, F.binds fun _ _ _ _ _ _ us hl => match us, hl with | [_, _], _ => rfl⟩
abbrev s_is_between : Stmt := stm 13
abbrev N_is_between : List Str := ["value", "low", "high"]
theorem sc_is_between : FnScope N_is_between ["value", "low", "high"] (defScope s_is_between) := ⟨rfl, rfl, rfl, by decide +kernel, rfl, by decide +kernel, by decide +kernel⟩
def den_is_between : SF := (retS (andE (callE f_is_whole (consA (varE 0) nilA)) (chE (cmpQ leP) (cmpQ leP) (varE 1) (varE 0) (varE 2))))
def f_is_between : List D → Option D := funV 3 den_is_between
theorem ok_is_between (B : Blt mg) (h_is_whole : DefOk P w K mg base 1 "is_whole" s_is_whole ["value"] (spV K 1 f_is_whole)) {fa : Addr} {fd : FuncData} (F : Fun K "is_between" "is_between" s_is_between fa fd) (hm : mg "is_between" = some (.ref fa)) : DefOk P w K mg base 2 "is_between" s_is_between ["value", "low", "high"] (spV K 3 f_is_between) :=
  ⟨fa, fd, F, fn_V (own' := []) (ol := []) F sc_is_between (fun _ _ _ _ _ _ _ _ hr => (dss_one (ds_ret (de_and (DE.up (de_callD h_is_whole hr (da_cons (de_var (pv 0) rfl) da_nil) (chk_cons chk_nil))) (de_one (de_ch op_le opS_cmp op_le opS_cmp (DE.up (de_var (pv 1) rfl)) (DE.up (de_var (pv 0) rfl)) (DE.up (de_var (pv 2) rfl)))))))), hm, F.binds fun _ _ _ _ _ _ us hl => match us, hl with | [_, _, _], _ => rfl⟩
abbrev s_divisor_of : Stmt := stm 14
abbrev N_divisor_of : List Str := ["numbers", "found", "number"]
theorem sc_divisor_of : FnScope N_divisor_of ["numbers"] (defScope s_divisor_of) := ⟨rfl, rfl, rfl, by decide +kernel, rfl, by decide +kernel, by decide +kernel⟩
def den_divisor_of : SF := (seqS (asgS (cE (.int 0)) (nameG 1)) (seqS (forS (seqI (varE 0)) (nameG 2) (asgS (binE gcdQ (varE 1) (varE 2)) (nameG 1))) (retS (varE 1))))
def f_divisor_of : List D → Option D := funV 3 den_divisor_of
theorem ok_divisor_of (B : Blt mg) {fa : Addr} {fd : FuncData} (F : Fun K "divisor_of" "divisor_of" s_divisor_of fa fd) (hm : mg "divisor_of" = some (.ref fa)) : DefOk P w K mg base 1 "divisor_of" s_divisor_of ["numbers"] (spV K 1 f_divisor_of) :=
  ⟨fa, fd, F, fn_V (own' := []) (ol := []) F sc_divisor_of (fun _ _ _ _ _ _ _ _ hr => (dss_cons (asgK_of (k := false) (ps_set (i := 1) sc_divisor_of.nd rfl (.inl rfl) (dk_of de_int)) (fun _ _ _ q => q) (.inl rfl) (.inr rfl)) (dss_cons (ds_for PassesOwn.never rfl (di_seq (de_var (pv 0) rfl)) (dg_name (pg_name (i := 2) sc_divisor_of.nd rfl (.inl rfl)) rfl (.inl rfl)) (dss_one (asgK_of (k := false) (ps_set (i := 1) sc_divisor_of.nd rfl (.inl rfl) (dk_of (de_b2 c2_gcd (pe_gcd (by rfl) B.gcd (pa_cons (DE.up (de_var (pv 1) rfl)) (pa_cons (DE.up (de_var (pv 2) rfl)) pa_nil)))))) (fun _ _ _ q => q) (.inl rfl) (.inr rfl)))) (dss_one (ds_ret (de_var (pv 1) rfl)))))), hm, F.binds fun _ _ _ _ _ _ us hl => match us, hl with | [_], _ => rfl⟩
abbrev s_is_reduced : Stmt := stm 15
abbrev N_is_reduced : List Str := ["numbers"]
theorem sc_is_reduced : FnScope N_is_reduced ["numbers"] (defScope s_is_reduced) := ⟨rfl, rfl, rfl, by decide +kernel, rfl, by decide +kernel, by decide +kernel⟩
def den_is_reduced : SF := (retS (binE eqQ (callE f_divisor_of (consA (varE 0) nilA)) (cE (.int 1))))
def f_is_reduced : List D → Option D := funV 1 den_is_reduced
theorem ok_is_reduced (B : Blt mg) (h_divisor_of : DefOk P w K mg base 1 "divisor_of" s_divisor_of ["numbers"] (spV K 1 f_divisor_of)) {fa : Addr} {fd : FuncData} (F : Fun K "is_reduced" "is_reduced" s_is_reduced fa fd) (hm : mg "is_reduced" = some (.ref fa)) : DefOk P w K mg base 2 "is_reduced" s_is_reduced ["numbers"] (spV K 1 f_is_reduced) :=
  ⟨fa, fd, F, fn_V (own' := []) (ol := []) F sc_is_reduced (fun _ _ _ _ _ _ _ _ hr => (dss_one (ds_ret (de_eq hr.units (DE.up (de_callD h_divisor_of hr (da_cons (de_var (pv 0) rfl) da_nil) (chk_cons chk_nil))) (DE.up de_int))))), hm, F.binds fun _ _ _ _ _ _ us hl => match us, hl with | [_], _ => rfl⟩
abbrev s_raised : Stmt := stm 16
abbrev N_raised : List Str := ["number", "many", "found", "step"]
theorem sc_raised : FnScope N_raised ["number", "many"] (defScope s_raised) := ⟨rfl, rfl, rfl, by decide +kernel, rfl, by decide +kernel, by decide +kernel⟩
def den_raised : SF := (seqS (asgS (cE (.int 1)) (nameG 2)) (seqS (forS (rng1I (varE 1)) (nameG 3) (asgS (binE mulD (varE 2) (varE 0)) (nameG 2))) (retS (varE 2))))
def f_raised : List D → Option D := funV 4 den_raised
theorem ok_raised (B : Blt mg) {fa : Addr} {fd : FuncData} (F : Fun K "raised" "raised" s_raised fa fd) (hm : mg "raised" = some (.ref fa)) : DefOk P w K mg base 1 "raised" s_raised ["number", "many"] (spV K 2 f_raised) :=
  ⟨fa, fd, F, fn_V (own' := []) (ol := []) F sc_raised (fun _ _ _ _ _ _ _ _ hr => (dss_cons (asgK_of (k := false) (ps_set (i := 2) sc_raised.nd rfl (.inl rfl) (dk_of de_int)) (fun _ _ _ q => q) (.inl rfl) (.inr rfl)) (dss_cons (ds_for PassesOwn.never rfl (di_rng1 (top := false) rfl (pi_range1 rfl B.range (pa_cons (DE.up (de_var (pv 1) rfl)) pa_nil))) (dg_name (pg_name (i := 3) sc_raised.nd rfl (.inl rfl)) rfl (.inl rfl)) (dss_one (asgK_of (k := false) (ps_set (i := 2) sc_raised.nd rfl (.inl rfl) (dk_of (de_mul (DE.up (de_var (pv 2) rfl)) (DE.up (de_var (pv 0) rfl))))) (fun _ _ _ q => q) (.inl rfl) (.inr rfl)))) (dss_one (ds_ret (de_var (pv 2) rfl)))))), hm, F.binds fun _ _ _ _ _ _ us hl => match us, hl with | [_, _], _ => rfl⟩
abbrev s_is_ratio : Stmt := stm 19
abbrev N_is_ratio : List Str := ["value"]
theorem sc_is_ratio : FnScope N_is_ratio ["value"] (defScope s_is_ratio) := ⟨rfl, rfl, rfl, by decide +kernel, rfl, by decide +kernel, by decide +kernel⟩
def den_is_ratio : SF := (retS (andE (callE f_are_wholes (consA (varE 0) (consA (cE (.int 2)) nilA))) (andE (binE (cmpQ gtP) (binE ixQ (varE 0) (cE (.int 1))) (cE (.int 0))) (callE f_is_reduced (consA (varE 0) nilA)))))
def f_is_ratio : List D → Option D := funV 1 den_is_ratio
theorem ok_is_ratio (B : Blt mg) (h_are_wholes : DefOk P w K mg base 2 "are_wholes" s_are_wholes ["value", "many"] (spV K 2 f_are_wholes)) (h_is_reduced : DefOk P w K mg base 2 "is_reduced" s_is_reduced ["numbers"] (spV K 1 f_is_reduced)) {fa : Addr} {fd : FuncData} (F : Fun K "is_ratio" "is_ratio" s_is_ratio fa fd) (hm : mg "is_ratio" = some (.ref fa)) : DefOk P w K mg base 3 "is_ratio" s_is_ratio ["value"] (spV K 1 f_is_ratio) :=
  ⟨fa, fd, F, fn_V (own' := []) (ol := []) F sc_is_ratio (fun _ _ _ _ _ _ _ _ hr => (dss_one (ds_ret (de_and (DE.up (de_callD h_are_wholes hr (da_cons (de_var (pv 0) rfl) (da_cons de_int da_nil)) (chk_cons (chk_cons chk_nil)))) (de_and (DE.up (de_gt (DE.up (de_ix (DE.up (de_var (pv 0) rfl)) (DE.up de_int))) (DE.up de_int))) (de_one (de_callD h_is_reduced hr (da_cons (de_var (pv 0) rfl) da_nil) (chk_cons chk_nil)))))))), hm, F.binds fun _ _ _ _ _ _ us hl => match us, hl with | [_], _ => rfl⟩
abbrev s_ratio_with : Stmt := stm 20
abbrev N_ratio_with : List Str := ["number", "under", "part"]
theorem sc_ratio_with : FnScope N_ratio_with ["number", "under"] (defScope s_ratio_with) := ⟨rfl, rfl, rfl, by decide +kernel, rfl, by decide +kernel, by decide +kernel⟩
def den_ratio_with : SF := (seqS (asgS (callE f_divisor_of (consA (tupE (consA (varE 0) (consA (varE 1) nilA))) nilA)) (nameG 2)) (seqS (asgS (ifE (tstB (binE (cmpQ gtP) (varE 1) (cE (.int 0)))) (varE 2) (unE negQ (varE 2))) (nameG 2)) (retS (tupE (consA (binE fdivD (varE 0) (varE 2)) (consA (binE fdivD (varE 1) (varE 2)) nilA))))))
def f_ratio_with : List D → Option D := funV 3 den_ratio_with
theorem ok_ratio_with (B : Blt mg) (h_divisor_of : DefOk P w K mg base 1 "divisor_of" s_divisor_of ["numbers"] (spV K 1 f_divisor_of)) {fa : Addr} {fd : FuncData} (F : Fun K "ratio_with" "ratio_with" s_ratio_with fa fd) (hm : mg "ratio_with" = some (.ref fa)) : DefOk P w K mg base 2 "ratio_with" s_ratio_with ["number", "under"] (spV K 2 f_ratio_with) :=
  ⟨fa, fd, F, fn_V (own' := []) (ol := []) F sc_ratio_with (fun _ _ _ _ _ _ _ _ hr => (dss_cons (asgK_of (k := false) (ps_set (i := 2) sc_ratio_with.nd rfl (.inl rfl) (dk_of (de_callD h_divisor_of hr (da_cons (de_tup (da_cons (de_var (pv 0) rfl) (da_cons (de_var (pv 1) rfl) da_nil))) da_nil) (chk_cons chk_nil)))) (fun _ _ _ q => q) (.inl rfl) (.inr rfl)) (dss_cons (asgK_of (k := false) (ps_set (i := 2) sc_ratio_with.nd rfl (.inl rfl) (dk_of (de_if (dt_gt (DE.up (de_var (pv 1) rfl)) (DE.up de_int)) (de_var (pv 2) rfl) (de_neg (DE.up (de_var (pv 2) rfl)))))) (fun _ _ _ q => q) (.inl rfl) (.inr rfl)) (dss_one (ds_ret (de_tup (da_cons (de_fdiv (DE.up (de_var (pv 0) rfl)) (DE.up (de_var (pv 2) rfl))) (da_cons (de_fdiv (DE.up (de_var (pv 1) rfl)) (DE.up (de_var (pv 2) rfl))) da_nil)))))))), hm, F.binds fun _ _ _ _ _ _ us hl => match us, hl with | [_, _], _ => rfl⟩
abbrev s_ratio_sum : Stmt := stm 21
abbrev N_ratio_sum : List Str := ["one", "two"]
theorem sc_ratio_sum : FnScope N_ratio_sum ["one", "two"] (defScope s_ratio_sum) := ⟨rfl, rfl, rfl, by decide +kernel, rfl, by decide +kernel, by decide +kernel⟩
def den_ratio_sum : SF := (retS (callE f_ratio_with (consA (binE addD (binE mulD (binE ixQ (varE 0) (cE (.int 0))) (binE ixQ (varE 1) (cE (.int 1)))) (binE mulD (binE ixQ (varE 1) (cE (.int 0))) (binE ixQ (varE 0) (cE (.int 1))))) (consA (binE mulD (binE ixQ (varE 0) (cE (.int 1))) (binE ixQ (varE 1) (cE (.int 1)))) nilA))))
def f_ratio_sum : List D → Option D := funV 2 den_ratio_sum
theorem ok_ratio_sum (B : Blt mg) (h_ratio_with : DefOk P w K mg base 2 "ratio_with" s_ratio_with ["number", "under"] (spV K 2 f_ratio_with)) {fa : Addr} {fd : FuncData} (F : Fun K "ratio_sum" "ratio_sum" s_ratio_sum fa fd) (hm : mg "ratio_sum" = some (.ref fa)) : DefOk P w K mg base 3 "ratio_sum" s_ratio_sum ["one", "two"] (spV K 2 f_ratio_sum) :=
  ⟨fa, fd, F, fn_V (own' := []) (ol := []) F sc_ratio_sum (fun _ _ _ _ _ _ _ _ hr => (dss_one (ds_ret (de_callD h_ratio_with hr (da_cons (de_add (DE.up (de_mul (DE.up (de_ix (DE.up (de_var (pv 0) rfl)) (DE.up de_int))) (DE.up (de_ix (DE.up (de_var (pv 1) rfl)) (DE.up de_int))))) (DE.up (de_mul (DE.up (de_ix (DE.up (de_var (pv 1) rfl)) (DE.up de_int))) (DE.up (de_ix (DE.up (de_var (pv 0) rfl)) (DE.up de_int)))))) (da_cons (de_mul (DE.up (de_ix (DE.up (de_var (pv 0) rfl)) (DE.up de_int))) (DE.up (de_ix (DE.up (de_var (pv 1) rfl)) (DE.up de_int)))) da_nil)) (chk_cons (chk_cons chk_nil)))))), hm, F.binds fun _ _ _ _ _ _ us hl => match us, hl with | [_, _], _ => rfl⟩
abbrev s_ratio_less : Stmt := stm 22
abbrev N_ratio_less : List Str := ["one", "two"]
theorem sc_ratio_less : FnScope N_ratio_less ["one", "two"] (defScope s_ratio_less) := ⟨rfl, rfl, rfl, by decide +kernel, rfl, by decide +kernel, by decide +kernel⟩
def den_ratio_less : SF := (retS (callE f_ratio_with (consA (binE subD (binE mulD (binE ixQ (varE 0) (cE (.int 0))) (binE ixQ (varE 1) (cE (.int 1)))) (binE mulD (binE ixQ (varE 1) (cE (.int 0))) (binE ixQ (varE 0) (cE (.int 1))))) (consA (binE mulD (binE ixQ (varE 0) (cE (.int 1))) (binE ixQ (varE 1) (cE (.int 1)))) nilA))))
def f_ratio_less : List D → Option D := funV 2 den_ratio_less
theorem ok_ratio_less (B : Blt mg) (h_ratio_with : DefOk P w K mg base 2 "ratio_with" s_ratio_with ["number", "under"] (spV K 2 f_ratio_with)) {fa : Addr} {fd : FuncData} (F : Fun K "ratio_less" "ratio_less" s_ratio_less fa fd) (hm : mg "ratio_less" = some (.ref fa)) : DefOk P w K mg base 3 "ratio_less" s_ratio_less ["one", "two"] (spV K 2 f_ratio_less) :=
  ⟨fa, fd, F, fn_V (own' := []) (ol := []) F sc_ratio_less (fun _ _ _ _ _ _ _ _ hr => (dss_one (ds_ret (de_callD h_ratio_with hr (da_cons (de_sub (DE.up (de_mul (DE.up (de_ix (DE.up (de_var (pv 0) rfl)) (DE.up de_int))) (DE.up (de_ix (DE.up (de_var (pv 1) rfl)) (DE.up de_int))))) (DE.up (de_mul (DE.up (de_ix (DE.up (de_var (pv 1) rfl)) (DE.up de_int))) (DE.up (de_ix (DE.up (de_var (pv 0) rfl)) (DE.up de_int)))))) (da_cons (de_mul (DE.up (de_ix (DE.up (de_var (pv 0) rfl)) (DE.up de_int))) (DE.up (de_ix (DE.up (de_var (pv 1) rfl)) (DE.up de_int)))) da_nil)) (chk_cons (chk_cons chk_nil)))))), hm, F.binds fun _ _ _ _ _ _ us hl => match us, hl with | [_, _], _ => rfl⟩
abbrev s_ratio_product : Stmt := stm 23
abbrev N_ratio_product : List Str := ["one", "two"]
theorem sc_ratio_product : FnScope N_ratio_product ["one", "two"] (defScope s_ratio_product) := ⟨rfl, rfl, rfl, by decide +kernel, rfl, by decide +kernel, by decide +kernel⟩
def den_ratio_product : SF := (retS (callE f_ratio_with (consA (binE mulD (binE ixQ (varE 0) (cE (.int 0))) (binE ixQ (varE 1) (cE (.int 0)))) (consA (binE mulD (binE ixQ (varE 0) (cE (.int 1))) (binE ixQ (varE 1) (cE (.int 1)))) nilA))))
def f_ratio_product : List D → Option D := funV 2 den_ratio_product
theorem ok_ratio_product (B : Blt mg) (h_ratio_with : DefOk P w K mg base 2 "ratio_with" s_ratio_with ["number", "under"] (spV K 2 f_ratio_with)) {fa : Addr} {fd : FuncData} (F : Fun K "ratio_product" "ratio_product" s_ratio_product fa fd) (hm : mg "ratio_product" = some (.ref fa)) : DefOk P w K mg base 3 "ratio_product" s_ratio_product ["one", "two"] (spV K 2 f_ratio_product) :=
  ⟨fa, fd, F, fn_V (own' := []) (ol := []) F sc_ratio_product (fun _ _ _ _ _ _ _ _ hr => (dss_one (ds_ret (de_callD h_ratio_with hr (da_cons (de_mul (DE.up (de_ix (DE.up (de_var (pv 0) rfl)) (DE.up de_int))) (DE.up (de_ix (DE.up (de_var (pv 1) rfl)) (DE.up de_int)))) (da_cons (de_mul (DE.up (de_ix (DE.up (de_var (pv 0) rfl)) (DE.up de_int))) (DE.up (de_ix (DE.up (de_var (pv 1) rfl)) (DE.up de_int)))) da_nil)) (chk_cons (chk_cons chk_nil)))))), hm, F.binds fun _ _ _ _ _ _ us hl => match us, hl with | [_, _], _ => rfl⟩
abbrev s_ratio_over : Stmt := stm 24
abbrev N_ratio_over : List Str := ["one", "two"]
theorem sc_ratio_over : FnScope N_ratio_over ["one", "two"] (defScope s_ratio_over) := ⟨rfl, rfl, rfl, by decide +kernel, rfl, by decide +kernel, by decide +kernel⟩
def den_ratio_over : SF := (retS (callE f_ratio_with (consA (binE mulD (binE ixQ (varE 0) (cE (.int 0))) (binE ixQ (varE 1) (cE (.int 1)))) (consA (binE mulD (binE ixQ (varE 0) (cE (.int 1))) (binE ixQ (varE 1) (cE (.int 0)))) nilA))))
def f_ratio_over : List D → Option D := funV 2 den_ratio_over
theorem ok_ratio_over (B : Blt mg) (h_ratio_with : DefOk P w K mg base 2 "ratio_with" s_ratio_with ["number", "under"] (spV K 2 f_ratio_with)) {fa : Addr} {fd : FuncData} (F : Fun K "ratio_over" "ratio_over" s_ratio_over fa fd) (hm : mg "ratio_over" = some (.ref fa)) : DefOk P w K mg base 3 "ratio_over" s_ratio_over ["one", "two"] (spV K 2 f_ratio_over) :=
  ⟨fa, fd, F, fn_V (own' := []) (ol := []) F sc_ratio_over (fun _ _ _ _ _ _ _ _ hr => (dss_one (ds_ret (de_callD h_ratio_with hr (da_cons (de_mul (DE.up (de_ix (DE.up (de_var (pv 0) rfl)) (DE.up de_int))) (DE.up (de_ix (DE.up (de_var (pv 1) rfl)) (DE.up de_int)))) (da_cons (de_mul (DE.up (de_ix (DE.up (de_var (pv 0) rfl)) (DE.up de_int))) (DE.up (de_ix (DE.up (de_var (pv 1) rfl)) (DE.up de_int)))) da_nil)) (chk_cons (chk_cons chk_nil)))))), hm, F.binds fun _ _ _ _ _ _ us hl => match us, hl with | [_, _], _ => rfl⟩
abbrev s_are_ratios : Stmt := stm 26
abbrev N_are_ratios : List Str := ["value", "number"]
theorem sc_are_ratios : FnScope N_are_ratios ["value"] (defScope s_are_ratios) := ⟨rfl, rfl, rfl, by decide +kernel, rfl, by decide +kernel, by decide +kernel⟩
def den_are_ratios : SF := (retS (andE (unE (isQ "tuple" isi_tuple) (varE 0)) (unE allQ (lcE (seqI (varE 0)) (nameG 1) yesB (callE f_is_ratio (consA (varE 1) nilA)) [1]))))
def f_are_ratios : List D → Option D := funV 2 den_are_ratios
theorem ok_are_ratios (B : Blt mg) (h_is_ratio : DefOk P w K mg base 3 "is_ratio" s_is_ratio ["value"] (spV K 1 f_is_ratio)) {fa : Addr} {fd : FuncData} (F : Fun K "are_ratios" "are_ratios" s_are_ratios fa fd) (hm : mg "are_ratios" = some (.ref fa)) : DefOk P w K mg base 4 "are_ratios" s_are_ratios ["value"] (spV K 1 f_are_ratios) :=
  ⟨fa, fd, F, fn_V (own' := []) (ol := []) F sc_are_ratios (fun _ _ _ _ _ _ _ _ hr => (dss_one (ds_ret (de_and (DE.up (de_isi (p := isi_tuple) (by decide +kernel) (pe_callB call_isi (by rfl) B.isinstance (by decide +kernel) (pa_cons (DE.up (de_var (pv 0) rfl)) (pa_cons (pe_bltn (by rfl) B.tuple (by decide +kernel) rfl) pa_nil))))) (de_one (de_b1 c1_all (pe_callB (cr_all rfl) (by rfl) B.all (by decide +kernel) (pa_cons (DE.up (DN.de (dn_lc (pe_lc (own := [("number", 1)]) rfl sc_are_ratios.nd (di_seq (de_var (pv 0) rfl)) (blkOk_by (N := N_are_ratios) (sc := defScope s_are_ratios) (own := [("number", 1)]) (by decide +kernel)) (fun _ _ _ _ _ => (dg_name (pg_name (i := 1) sc_are_ratios.nd rfl (.inl rfl)) rfl (.inl rfl))) (fun _ _ _ _ _ => pts_yes) (fun _ _ _ _ _ => (de_callD h_is_ratio hr (da_cons (de_var (pv 1) rfl) da_nil) (chk_cons chk_nil)))) rfl (.inl rfl)))) pa_nil)))))))), hm, F.binds fun _ _ _ _ _ _ us hl => match us, hl with | [_], _ => rfl⟩
abbrev s_is_parts : Stmt := stm 27
abbrev N_is_parts : List Str := ["value"]
theorem sc_is_parts : FnScope N_is_parts ["value"] (defScope s_is_parts) := ⟨rfl, rfl, rfl, by decide +kernel, rfl, by decide +kernel, by decide +kernel⟩
def den_is_parts : SF := (retS (andE (callE f_are_ratios (consA (varE 0) nilA)) (orE (binE eqQ (varE 0) (tupE nilA)) (binE neQ (binE ixQ (varE 0) (unE negQ (cE (.int 1)))) (cE c_ZERO)))))
def f_is_parts : List D → Option D := funV 1 den_is_parts
theorem ok_is_parts (B : Blt mg) (h_are_ratios : DefOk P w K mg base 4 "are_ratios" s_are_ratios ["value"] (spV K 1 f_are_ratios)) (g_ZERO : GlD K mg "ZERO" c_ZERO) {fa : Addr} {fd : FuncData} (F : Fun K "is_parts" "is_parts" s_is_parts fa fd) (hm : mg "is_parts" = some (.ref fa)) : DefOk P w K mg base 5 "is_parts" s_is_parts ["value"] (spV K 1 f_is_parts) :=
  ⟨fa, fd, F, fn_V (own' := []) (ol := []) F sc_is_parts (fun _ _ _ _ _ _ _ _ hr => (dss_one (ds_ret (de_and (DE.up (de_callD h_are_ratios hr (da_cons (de_var (pv 0) rfl) da_nil) (chk_cons chk_nil))) (de_one (de_or (DE.up (de_eq hr.units (DE.up (de_var (pv 0) rfl)) (DE.up (de_tup da_nil)))) (de_one (de_ne hr.units (DE.up (de_ix (DE.up (de_var (pv 0) rfl)) (DE.up (de_neg (DE.up de_int))))) (DE.up (de_gl g_ZERO)))))))))), hm, F.binds fun _ _ _ _ _ _ us hl => match us, hl with | [_], _ => rfl⟩
abbrev s_sum_of_parts : Stmt := stm 28
abbrev N_sum_of_parts : List Str := ["one", "found", "number"]
theorem sc_sum_of_parts : FnScope N_sum_of_parts ["one"] (defScope s_sum_of_parts) := ⟨rfl, rfl, rfl, by decide +kernel, rfl, by decide +kernel, by decide +kernel⟩
def den_sum_of_parts : SF := (seqS (asgS (cE c_ZERO) (nameG 1)) (seqS (forS (seqI (varE 0)) (nameG 2) (asgS (callE f_ratio_sum (consA (varE 1) (consA (varE 2) nilA))) (nameG 1))) (retS (varE 1))))
def f_sum_of_parts : List D → Option D := funV 3 den_sum_of_parts
theorem ok_sum_of_parts (B : Blt mg) (h_ratio_sum : DefOk P w K mg base 3 "ratio_sum" s_ratio_sum ["one", "two"] (spV K 2 f_ratio_sum)) (g_ZERO : GlD K mg "ZERO" c_ZERO) {fa : Addr} {fd : FuncData} (F : Fun K "sum_of_parts" "sum_of_parts" s_sum_of_parts fa fd) (hm : mg "sum_of_parts" = some (.ref fa)) : DefOk P w K mg base 4 "sum_of_parts" s_sum_of_parts ["one"] (spV K 1 f_sum_of_parts) :=
  ⟨fa, fd, F, fn_V (own' := []) (ol := []) F sc_sum_of_parts (fun _ _ _ _ _ _ _ _ hr => (dss_cons (asgK_of (k := false) (ps_set (i := 1) sc_sum_of_parts.nd rfl (.inl rfl) (dk_of (de_gl g_ZERO))) (fun _ _ _ q => q) (.inl rfl) (.inr rfl)) (dss_cons (ds_for PassesOwn.never rfl (di_seq (de_var (pv 0) rfl)) (dg_name (pg_name (i := 2) sc_sum_of_parts.nd rfl (.inl rfl)) rfl (.inl rfl)) (dss_one (asgK_of (k := false) (ps_set (i := 1) sc_sum_of_parts.nd rfl (.inl rfl) (dk_of (de_callD h_ratio_sum hr (da_cons (de_var (pv 1) rfl) (da_cons (de_var (pv 2) rfl) da_nil)) (chk_cons (chk_cons chk_nil))))) (fun _ _ _ q => q) (.inl rfl) (.inr rfl)))) (dss_one (ds_ret (de_var (pv 1) rfl)))))), hm, F.binds fun _ _ _ _ _ _ us hl => match us, hl with | [_], _ => rfl⟩
abbrev s_is_ruled : Stmt := stm 31
abbrev N_is_ruled : List Str := ["value"]
theorem sc_is_ruled : FnScope N_is_ruled ["value"] (defScope s_is_ruled) := ⟨rfl, rfl, rfl, by decide +kernel, rfl, by decide +kernel, by decide +kernel⟩
def den_is_ruled : SF := (seqS (ifS (orB (notB (tstB (unE (isQ "tuple" isi_tuple) (varE 0)))) (orB (tstB (binE neQ (unE lenQ (varE 0)) (cE (.int 2)))) (orB (notB (tstB (callE f_are_ratios (consA (binE ixQ (varE 0) (cE (.int 0))) nilA)))) (notB (tstB (callE f_are_ratios (consA (binE ixQ (varE 0) (cE (.int 1))) nilA))))))) (retS (cE (.bl false))) nxS) (retS (andE (chE (cmpQ leP) (cmpQ leP) (cE (.int 2)) (unE lenQ (binE ixQ (varE 0) (cE (.int 0)))) (binE addD (cE c_MOST_STEPS) (cE (.int 1)))) (andE (binE eqQ (unE lenQ (binE ixQ (varE 0) (cE (.int 1)))) (unE lenQ (binE ixQ (varE 0) (cE (.int 0))))) (binE neQ (binE ixQ (binE ixQ (varE 0) (cE (.int 0))) (unE negQ (cE (.int 1)))) (cE c_ZERO))))))
def f_is_ruled : List D → Option D := funV 1 den_is_ruled
theorem ok_is_ruled (B : Blt mg) (h_are_ratios : DefOk P w K mg base 4 "are_ratios" s_are_ratios ["value"] (spV K 1 f_are_ratios)) (g_MOST_STEPS : GlD K mg "MOST_STEPS" c_MOST_STEPS) (g_ZERO : GlD K mg "ZERO" c_ZERO) {fa : Addr} {fd : FuncData} (F : Fun K "is_ruled" "is_ruled" s_is_ruled fa fd) (hm : mg "is_ruled" = some (.ref fa)) : DefOk P w K mg base 5 "is_ruled" s_is_ruled ["value"] (spV K 1 f_is_ruled) :=
  ⟨fa, fd, F, fn_V (own' := []) (ol := []) F sc_is_ruled (fun _ _ _ _ _ _ _ _ hr => (dss_cons (ds_if (PW.pt (dw_or (dt_not (dt_val (de_isi (p := isi_tuple) (by decide +kernel) (pe_callB call_isi (by rfl) B.isinstance (by decide +kernel) (pa_cons (DE.up (de_var (pv 0) rfl)) (pa_cons (pe_bltn (by rfl) B.tuple (by decide +kernel) rfl) pa_nil)))))) (dw_or (dt_ne hr.units (DE.up (de_b1 c1_len (pe_callB call_len (by rfl) B.len PySem.boot_len (pa_cons (DE.up (de_var (pv 0) rfl)) pa_nil)))) (DE.up de_int)) (dw_or (dt_not (dt_val (de_callD h_are_ratios hr (da_cons (de_ix (DE.up (de_var (pv 0) rfl)) (DE.up de_int)) da_nil) (chk_cons chk_nil)))) (dw_or1 (dt_not (dt_val (de_callD h_are_ratios hr (da_cons (de_ix (DE.up (de_var (pv 0) rfl)) (DE.up de_int)) da_nil) (chk_cons chk_nil))))))))) (dss_one (ds_ret de_bl)) dss_nil) (dss_one (ds_ret (de_and (DE.up (de_ch op_le opS_cmp op_le opS_cmp (DE.up de_int) (DE.up (de_b1 c1_len (pe_callB call_len (by rfl) B.len PySem.boot_len (pa_cons (DE.up (de_ix (DE.up (de_var (pv 0) rfl)) (DE.up de_int))) pa_nil)))) (DE.up (de_add (DE.up (de_gl g_MOST_STEPS)) (DE.up de_int))))) (de_and (DE.up (de_eq hr.units (DE.up (de_b1 c1_len (pe_callB call_len (by rfl) B.len PySem.boot_len (pa_cons (DE.up (de_ix (DE.up (de_var (pv 0) rfl)) (DE.up de_int))) pa_nil)))) (DE.up (de_b1 c1_len (pe_callB call_len (by rfl) B.len PySem.boot_len (pa_cons (DE.up (de_ix (DE.up (de_var (pv 0) rfl)) (DE.up de_int))) pa_nil)))))) (de_one (de_ne hr.units (DE.up (de_ix (DE.up (de_ix (DE.up (de_var (pv 0) rfl)) (DE.up de_int))) (DE.up (de_neg (DE.up de_int))))) (DE.up (de_gl g_ZERO)))))))))), hm, F.binds fun _ _ _ _ _ _ us hl => match us, hl with | [_], _ => rfl⟩
abbrev s_many_steps : Stmt := stm 32
abbrev N_many_steps : List Str := ["rule"]
theorem sc_many_steps : FnScope N_many_steps ["rule"] (defScope s_many_steps) := ⟨rfl, rfl, rfl, by decide +kernel, rfl, by decide +kernel, by decide +kernel⟩
def den_many_steps : SF := (retS (binE subD (unE lenQ (binE ixQ (varE 0) (cE (.int 0)))) (cE (.int 1))))
def f_many_steps : List D → Option D := funV 1 den_many_steps
theorem ok_many_steps (B : Blt mg) {fa : Addr} {fd : FuncData} (F : Fun K "many_steps" "many_steps" s_many_steps fa fd) (hm : mg "many_steps" = some (.ref fa)) : DefOk P w K mg base 1 "many_steps" s_many_steps ["rule"] (spV K 1 f_many_steps) :=
  ⟨fa, fd, F, fn_V (own' := []) (ol := []) F sc_many_steps (fun _ _ _ _ _ _ _ _ hr => (dss_one (ds_ret (de_sub (DE.up (de_b1 c1_len (pe_callB call_len (by rfl) B.len PySem.boot_len (pa_cons (DE.up (de_ix (DE.up (de_var (pv 0) rfl)) (DE.up de_int))) pa_nil)))) (DE.up de_int))))), hm, F.binds fun _ _ _ _ _ _ us hl => match us, hl with | [_], _ => rfl⟩
abbrev s_defect : Stmt := stm 33
abbrev N_defect : List Str := ["rule", "number", "found", "factor", "each", "place", "a", "b", "power", "here"]
theorem sc_defect : FnScope N_defect ["rule", "number"] (defScope s_defect) := ⟨rfl, rfl, rfl, by decide +kernel, rfl, by decide +kernel, by decide +kernel⟩
def den_defect : SF := (seqS (ifS (tstB (binE eqQ (varE 1) (cE (.int 0)))) (retS (callE f_sum_of_parts (consA (binE ixQ (varE 0) (cE (.int 0))) nilA))) nxS) (seqS (par2S 2 3 (cE c_ZERO) (cE (.int 1))) (seqS (forS (rng2I (cE (.int 1)) (binE addD (varE 1) (cE (.int 1)))) (nameG 4) (asgS (binE mulD (varE 3) (varE 4)) (nameG 3))) (seqS (forS (ezI (binE ixQ (varE 0) (cE (.int 0))) (binE ixQ (varE 0) (cE (.int 1)))) (tupG 2 (consG (nameG 5) (consG (tupG 2 (consG (nameG 6) (consG (nameG 7) nilG))) nilG))) (seqS (asgS (callE f_raised (consA (varE 5) (consA (binE subD (varE 1) (cE (.int 1))) nilA))) (nameG 8)) (seqS (asgS (callE f_ratio_less (consA (callE f_ratio_product (consA (varE 6) (consA (tupE (consA (binE mulD (varE 8) (varE 5)) (consA (cE (.int 1)) nilA))) nilA))) (consA (callE f_ratio_product (consA (varE 7) (consA (tupE (consA (binE mulD (varE 8) (varE 1)) (consA (cE (.int 1)) nilA))) nilA))) nilA))) (nameG 9)) (asgS (callE f_ratio_sum (consA (varE 2) (consA (varE 9) nilA))) (nameG 2))))) (retS (callE f_ratio_over (consA (varE 2) (consA (tupE (consA (varE 3) (consA (cE (.int 1)) nilA))) nilA))))))))
def f_defect : List D → Option D := funV 10 den_defect
theorem ok_defect (B : Blt mg) (h_raised : DefOk P w K mg base 1 "raised" s_raised ["number", "many"] (spV K 2 f_raised)) (h_ratio_less : DefOk P w K mg base 3 "ratio_less" s_ratio_less ["one", "two"] (spV K 2 f_ratio_less)) (h_ratio_over : DefOk P w K mg base 3 "ratio_over" s_ratio_over ["one", "two"] (spV K 2 f_ratio_over)) (h_ratio_product : DefOk P w K mg base 3 "ratio_product" s_ratio_product ["one", "two"] (spV K 2 f_ratio_product)) (h_ratio_sum : DefOk P w K mg base 3 "ratio_sum" s_ratio_sum ["one", "two"] (spV K 2 f_ratio_sum)) (h_sum_of_parts : DefOk P w K mg base 4 "sum_of_parts" s_sum_of_parts ["one"] (spV K 1 f_sum_of_parts)) (g_ZERO : GlD K mg "ZERO" c_ZERO) {fa : Addr} {fd : FuncData} (F : Fun K "defect" "defect" s_defect fa fd) (hm : mg "defect" = some (.ref fa)) : DefOk P w K mg base 5 "defect" s_defect ["rule", "number"] (spV K 2 f_defect) :=
  ⟨fa, fd, F, fn_V (own' := []) (ol := []) F sc_defect (fun _ _ _ _ _ _ _ _ hr => (dss_cons (ds_if (dt_eq hr.units (DE.up (de_var (pv 1) rfl)) (DE.up de_int)) (dss_one (ds_ret (de_callD h_sum_of_parts hr (da_cons (de_ix (DE.up (de_var (pv 0) rfl)) (DE.up de_int)) da_nil) (chk_cons chk_nil)))) dss_nil) (dss_cons (par2_of (k1 := false) (k2 := false) (ps_par (i := 2) (j := 3) rfl sc_defect.nd rfl rfl (by decide) rfl rfl (pa_cons (dk_of (de_gl g_ZERO)) (pa_cons (dk_of de_int) pa_nil)) rfl) (.inl rfl) (.inl rfl) (.inr rfl) (.inr rfl)) (dss_cons (ds_for PassesOwn.never rfl (di_rng2 (top := false) rfl rfl (pi_range2 rfl B.range (pa_cons (DE.up de_int) (pa_cons (DE.up (de_add (DE.up (de_var (pv 1) rfl)) (DE.up de_int))) pa_nil)))) (dg_name (pg_name (i := 4) sc_defect.nd rfl (.inl rfl)) rfl (.inl rfl)) (dss_one (asgK_of (k := false) (ps_set (i := 3) sc_defect.nd rfl (.inl rfl) (dk_of (de_mul (DE.up (de_var (pv 3) rfl)) (DE.up (de_var (pv 4) rfl))))) (fun _ _ _ q => q) (.inl rfl) (.inr rfl)))) (dss_cons (ds_for PassesOwn.never rfl (di_ez rfl rfl (pi_enZip rfl B.enumerate rfl B.zip (pa_cons (de_ix (DE.up (de_var (pv 0) rfl)) (DE.up de_int)) (pa_cons (de_ix (DE.up (de_var (pv 0) rfl)) (DE.up de_int)) pa_nil)))) (dg_tup rfl (dgs_cons (dg_name (pg_name (i := 5) sc_defect.nd rfl (.inl rfl)) rfl (.inl rfl)) (dgs_cons (dg_tup rfl (dgs_cons (dg_name (pg_name (i := 6) sc_defect.nd rfl (.inl rfl)) rfl (.inl rfl)) (dgs_cons (dg_name (pg_name (i := 7) sc_defect.nd rfl (.inl rfl)) rfl (.inl rfl)) dgs_nil))) dgs_nil))) (dss_cons (asgK_of (k := false) (ps_set (i := 8) sc_defect.nd rfl (.inl rfl) (dk_of (de_callD h_raised (hr.mono (by decide)) (da_cons (de_var (pv 5) rfl) (da_cons (de_sub (DE.up (de_var (pv 1) rfl)) (DE.up de_int)) da_nil)) (chk_cons (chk_cons chk_nil))))) (fun _ _ _ q => q) (.inl rfl) (.inr rfl)) (dss_cons (asgK_of (k := false) (ps_set (i := 9) sc_defect.nd rfl (.inl rfl) (dk_of (de_callD h_ratio_less (hr.mono (by decide)) (da_cons (de_callD h_ratio_product (hr.mono (by decide)) (da_cons (de_var (pv 6) rfl) (da_cons (de_tup (da_cons (de_mul (DE.up (de_var (pv 8) rfl)) (DE.up (de_var (pv 5) rfl))) (da_cons de_int da_nil))) da_nil)) (chk_cons (chk_cons chk_nil))) (da_cons (de_callD h_ratio_product (hr.mono (by decide)) (da_cons (de_var (pv 7) rfl) (da_cons (de_tup (da_cons (de_mul (DE.up (de_var (pv 8) rfl)) (DE.up (de_var (pv 1) rfl))) (da_cons de_int da_nil))) da_nil)) (chk_cons (chk_cons chk_nil))) da_nil)) (chk_cons (chk_cons chk_nil))))) (fun _ _ _ q => q) (.inl rfl) (.inr rfl)) (dss_one (asgK_of (k := false) (ps_set (i := 2) sc_defect.nd rfl (.inl rfl) (dk_of (de_callD h_ratio_sum (hr.mono (by decide)) (da_cons (de_var (pv 2) rfl) (da_cons (de_var (pv 9) rfl) da_nil)) (chk_cons (chk_cons chk_nil))))) (fun _ _ _ q => q) (.inl rfl) (.inr rfl)))))) (dss_one (ds_ret (de_callD h_ratio_over (hr.mono (by decide)) (da_cons (de_var (pv 2) rfl) (da_cons (de_tup (da_cons (de_var (pv 3) rfl) (da_cons de_int da_nil))) da_nil)) (chk_cons (chk_cons chk_nil)))))))))), hm, F.binds fun _ _ _ _ _ _ us hl => match us, hl with | [_, _], _ => rfl⟩
abbrev s_order_told : Stmt := stm 34
abbrev N_order_told : List Str := ["rule", "number"]
theorem sc_order_told : FnScope N_order_told ["rule"] (defScope s_order_told) := ⟨rfl, rfl, rfl, by decide +kernel, rfl, by decide +kernel, by decide +kernel⟩
def den_order_told : SF := (seqS (asgS (cE (.int 0)) (nameG 1)) (seqS (whS (tstB (binE eqQ (callE f_defect (consA (varE 0) (consA (varE 1) nilA))) (cE c_ZERO))) (asgS (binE addD (varE 1) (cE (.int 1))) (nameG 1))) (retS (tupE (consA (binE subD (varE 1) (cE (.int 1))) (consA (callE f_defect (consA (varE 0) (consA (varE 1) nilA))) nilA))))))
def f_order_told : List D → Option D := funV 2 den_order_told
theorem ok_order_told (B : Blt mg) (h_defect : DefOk P w K mg base 5 "defect" s_defect ["rule", "number"] (spV K 2 f_defect)) (g_ZERO : GlD K mg "ZERO" c_ZERO) {fa : Addr} {fd : FuncData} (F : Fun K "order_told" "order_told" s_order_told fa fd) (hm : mg "order_told" = some (.ref fa)) : DefOk P w K mg base 6 "order_told" s_order_told ["rule"] (spV K 1 f_order_told) :=
  ⟨fa, fd, F, fn_V (own' := []) (ol := []) F sc_order_told (fun _ _ _ _ _ _ _ _ hr => (dss_cons (asgK_of (k := false) (ps_set (i := 1) sc_order_told.nd rfl (.inl rfl) (dk_of de_int)) (fun _ _ _ q => q) (.inl rfl) (.inr rfl)) (dss_cons (ds_while PassesOwn.never (dt_eq hr.units (DE.up (de_callD h_defect hr (da_cons (de_var (pv 0) rfl) (da_cons (de_var (pv 1) rfl) da_nil)) (chk_cons (chk_cons chk_nil)))) (DE.up (de_gl g_ZERO))) (dss_one (asgK_of (k := false) (ps_set (i := 1) sc_order_told.nd rfl (.inl rfl) (dk_of (de_add (DE.up (de_var (pv 1) rfl)) (DE.up de_int)))) (fun _ _ _ q => q) (.inl rfl) (.inr rfl)))) (dss_one (ds_ret (de_tup (da_cons (de_sub (DE.up (de_var (pv 1) rfl)) (DE.up de_int)) (da_cons (de_callD h_defect hr (da_cons (de_var (pv 0) rfl) (da_cons (de_var (pv 1) rfl) da_nil)) (chk_cons (chk_cons chk_nil))) da_nil)))))))), hm, F.binds fun _ _ _ _ _ _ us hl => match us, hl with | [_], _ => rfl⟩
abbrev s_check_fraction : Stmt := stm 36
abbrev N_check_fraction : List Str := ["value"]
theorem sc_check_fraction : FnScope N_check_fraction ["value"] (defScope s_check_fraction) := ⟨rfl, rfl, rfl, by decide +kernel, rfl, by decide +kernel, by decide +kernel⟩
def den_check_fraction : SF := (ifS (notB (tstB (callE f_is_ratio (consA (varE 0) nilA)))) neverS nxS)
def f_check_fraction : List D → Option D := funV 1 den_check_fraction
theorem ok_check_fraction (B : Blt mg) (h_is_ratio : DefOk P w K mg base 3 "is_ratio" s_is_ratio ["value"] (spV K 1 f_is_ratio)) {fa : Addr} {fd : FuncData} (F : Fun K "check_fraction" "check_fraction" s_check_fraction fa fd) (hm : mg "check_fraction" = some (.ref fa)) : DefOk P w K mg base 4 "check_fraction" s_check_fraction ["value"] (spV K 1 f_check_fraction) :=
  ⟨fa, fd, F, fn_V (own' := []) (ol := []) F sc_check_fraction (fun _ _ _ _ _ _ _ _ hr => (dss_one (ds_if (dt_not (dt_val (de_callD h_is_ratio hr (da_cons (de_var (pv 0) rfl) da_nil) (chk_cons chk_nil)))) (dss_one ds_never) dss_nil))), hm, F.binds fun _ _ _ _ _ _ us hl => match us, hl with | [_], _ => rfl⟩
abbrev s_check_polynomial : Stmt := stm 37
abbrev N_check_polynomial : List Str := ["value"]
theorem sc_check_polynomial : FnScope N_check_polynomial ["value"] (defScope s_check_polynomial) := ⟨rfl, rfl, rfl, by decide +kernel, rfl, by decide +kernel, by decide +kernel⟩
def den_check_polynomial : SF := (ifS (notB (tstB (callE f_is_parts (consA (varE 0) nilA)))) neverS nxS)
def f_check_polynomial : List D → Option D := funV 1 den_check_polynomial
theorem ok_check_polynomial (B : Blt mg) (h_is_parts : DefOk P w K mg base 5 "is_parts" s_is_parts ["value"] (spV K 1 f_is_parts)) {fa : Addr} {fd : FuncData} (F : Fun K "check_polynomial" "check_polynomial" s_check_polynomial fa fd) (hm : mg "check_polynomial" = some (.ref fa)) : DefOk P w K mg base 6 "check_polynomial" s_check_polynomial ["value"] (spV K 1 f_check_polynomial) :=
  ⟨fa, fd, F, fn_V (own' := []) (ol := []) F sc_check_polynomial (fun _ _ _ _ _ _ _ _ hr => (dss_one (ds_if (dt_not (dt_val (de_callD h_is_parts hr (da_cons (de_var (pv 0) rfl) da_nil) (chk_cons chk_nil)))) (dss_one ds_never) dss_nil))), hm, F.binds fun _ _ _ _ _ _ us hl => match us, hl with | [_], _ => rfl⟩
abbrev s_check_rule : Stmt := stm 38
abbrev N_check_rule : List Str := ["value"]
theorem sc_check_rule : FnScope N_check_rule ["value"] (defScope s_check_rule) := ⟨rfl, rfl, rfl, by decide +kernel, rfl, by decide +kernel, by decide +kernel⟩
def den_check_rule : SF := (ifS (notB (tstB (callE f_is_ruled (consA (varE 0) nilA)))) neverS nxS)
def f_check_rule : List D → Option D := funV 1 den_check_rule
theorem ok_check_rule (B : Blt mg) (h_is_ruled : DefOk P w K mg base 5 "is_ruled" s_is_ruled ["value"] (spV K 1 f_is_ruled)) {fa : Addr} {fd : FuncData} (F : Fun K "check_rule" "check_rule" s_check_rule fa fd) (hm : mg "check_rule" = some (.ref fa)) : DefOk P w K mg base 6 "check_rule" s_check_rule ["value"] (spV K 1 f_check_rule) :=
  ⟨fa, fd, F, fn_V (own' := []) (ol := []) F sc_check_rule (fun _ _ _ _ _ _ _ _ hr => (dss_one (ds_if (dt_not (dt_val (de_callD h_is_ruled hr (da_cons (de_var (pv 0) rfl) da_nil) (chk_cons chk_nil)))) (dss_one ds_never) dss_nil))), hm, F.binds fun _ _ _ _ _ _ us hl => match us, hl with | [_], _ => rfl⟩
abbrev s_check_number : Stmt := stm 39
abbrev N_check_number : List Str := ["value", "low", "high"]
theorem sc_check_number : FnScope N_check_number ["value", "low", "high"] (defScope s_check_number) := ⟨rfl, rfl, rfl, by decide +kernel, rfl, by decide +kernel, by decide +kernel⟩
def den_check_number : SF := (ifS (notB (tstB (callE f_is_between (consA (varE 0) (consA (varE 1) (consA (varE 2) nilA)))))) neverS nxS)
def f_check_number : List D → Option D := funV 3 den_check_number
theorem ok_check_number (B : Blt mg) (h_is_between : DefOk P w K mg base 2 "is_between" s_is_between ["value", "low", "high"] (spV K 3 f_is_between)) {fa : Addr} {fd : FuncData} (F : Fun K "check_number" "check_number" s_check_number fa fd) (hm : mg "check_number" = some (.ref fa)) : DefOk P w K mg base 3 "check_number" s_check_number ["value", "low", "high"] (spV K 3 f_check_number) :=
  ⟨fa, fd, F, fn_V (own' := []) (ol := []) F sc_check_number (fun _ _ _ _ _ _ _ _ hr => (dss_one (ds_if (dt_not (dt_val (de_callD h_is_between hr (da_cons (de_var (pv 0) rfl) (da_cons (de_var (pv 1) rfl) (da_cons (de_var (pv 2) rfl) da_nil))) (chk_cons (chk_cons (chk_cons chk_nil)))))) (dss_one ds_never) dss_nil))), hm, F.binds fun _ _ _ _ _ _ us hl => match us, hl with | [_, _, _], _ => rfl⟩
abbrev s_check_starts : Stmt := stm 40
abbrev N_check_starts : List Str := ["rule", "value", "index", "number"]
theorem sc_check_starts : FnScope N_check_starts ["rule", "value"] (defScope s_check_starts) := ⟨rfl, rfl, rfl, by decide +kernel, rfl, by decide +kernel, by decide +kernel⟩
def den_check_starts : SF := (seqS (ifS (orB (notB (tstB (unE (isQ "tuple" isi_tuple) (varE 1)))) (tstB (binE neQ (unE lenQ (varE 1)) (callE f_many_steps (consA (varE 0) nilA))))) neverS nxS) (forS (enumA (varE 1)) (tupG 2 (consG (nameG 2) (consG (nameG 3) nilG))) (ifS (notB (tstB (callE f_is_ratio (consA (varE 3) nilA)))) neverS nxS)))
def f_check_starts : List D → Option D := funV 4 den_check_starts
theorem ok_check_starts (B : Blt mg) (h_is_ratio : DefOk P w K mg base 3 "is_ratio" s_is_ratio ["value"] (spV K 1 f_is_ratio)) (h_many_steps : DefOk P w K mg base 1 "many_steps" s_many_steps ["rule"] (spV K 1 f_many_steps)) {fa : Addr} {fd : FuncData} (F : Fun K "check_starts" "check_starts" s_check_starts fa fd) (hm : mg "check_starts" = some (.ref fa)) : DefOk P w K mg base 4 "check_starts" s_check_starts ["rule", "value"] (spV K 2 f_check_starts) :=
  ⟨fa, fd, F, fn_V (own' := []) (ol := []) F sc_check_starts (fun _ _ _ _ _ _ _ _ hr => (dss_cons (ds_if (PW.pt (dw_or (dt_not (dt_val (de_isi (p := isi_tuple) (by decide +kernel) (pe_callB call_isi (by rfl) B.isinstance (by decide +kernel) (pa_cons (DE.up (de_var (pv 1) rfl)) (pa_cons (pe_bltn (by rfl) B.tuple (by decide +kernel) rfl) pa_nil)))))) (dw_or1 (dt_ne hr.units (DE.up (de_b1 c1_len (pe_callB call_len (by rfl) B.len PySem.boot_len (pa_cons (DE.up (de_var (pv 1) rfl)) pa_nil)))) (DE.up (de_callD h_many_steps (hr.mono (by decide)) (da_cons (de_var (pv 0) rfl) da_nil) (chk_cons chk_nil))))))) (dss_one ds_never) dss_nil) (dss_one (ds_for PassesOwn.never rfl (di_enumA rfl (pi_enumA rfl B.enumerate (pa_cons (de_var (pv 1) rfl) pa_nil))) (dg_tup rfl (dgs_cons (dg_name (pg_name (i := 2) sc_check_starts.nd rfl (.inl rfl)) rfl (.inl rfl)) (dgs_cons (dg_name (pg_name (i := 3) sc_check_starts.nd rfl (.inl rfl)) rfl (.inl rfl)) dgs_nil))) (dss_one (ds_if (dt_not (dt_val (de_callD h_is_ratio hr (da_cons (de_var (pv 3) rfl) da_nil) (chk_cons chk_nil)))) (dss_one ds_never) dss_nil)))))), hm, F.binds fun _ _ _ _ _ _ us hl => match us, hl with | [_, _], _ => rfl⟩
abbrev s_check_size : Stmt := stm 43
abbrev N_check_size : List Str := ["value"]
theorem sc_check_size : FnScope N_check_size ["value"] (defScope s_check_size) := ⟨rfl, rfl, rfl, by decide +kernel, rfl, by decide +kernel, by decide +kernel⟩
def den_check_size : SF := (ifS (orB (notB (tstB (callE f_is_ratio (consA (varE 0) nilA)))) (tstB (binE (cmpQ leP) (binE ixQ (varE 0) (cE (.int 0))) (cE (.int 0))))) neverS nxS)
def f_check_size : List D → Option D := funV 1 den_check_size
theorem ok_check_size (B : Blt mg) (h_is_ratio : DefOk P w K mg base 3 "is_ratio" s_is_ratio ["value"] (spV K 1 f_is_ratio)) {fa : Addr} {fd : FuncData} (F : Fun K "check_size" "check_size" s_check_size fa fd) (hm : mg "check_size" = some (.ref fa)) : DefOk P w K mg base 4 "check_size" s_check_size ["value"] (spV K 1 f_check_size) :=
  ⟨fa, fd, F, fn_V (own' := []) (ol := []) F sc_check_size (fun _ _ _ _ _ _ _ _ hr => (dss_one (ds_if (PW.pt (dw_or (dt_not (dt_val (de_callD h_is_ratio hr (da_cons (de_var (pv 0) rfl) da_nil) (chk_cons chk_nil)))) (dw_or1 (dt_le (DE.up (de_ix (DE.up (de_var (pv 0) rfl)) (DE.up de_int))) (DE.up de_int))))) (dss_one ds_never) dss_nil))), hm, F.binds fun _ _ _ _ _ _ us hl => match us, hl with | [_], _ => rfl⟩
abbrev s_told_at : Stmt := stm 44
abbrev N_told_at : List Str := ["polynomial", "fraction", "found", "number"]
theorem sc_told_at : FnScope N_told_at ["polynomial", "fraction"] (defScope s_told_at) := ⟨rfl, rfl, rfl, by decide +kernel, rfl, by decide +kernel, by decide +kernel⟩
def den_told_at : SF := (seqS (asgS (cE c_ZERO) (nameG 2)) (seqS (forS (revI (varE 0)) (nameG 3) (asgS (callE f_ratio_sum (consA (callE f_ratio_product (consA (varE 2) (consA (varE 1) nilA))) (consA (varE 3) nilA))) (nameG 2))) (retS (varE 2))))
def f_told_at : List D → Option D := funV 4 den_told_at
theorem ok_told_at (B : Blt mg) (h_ratio_product : DefOk P w K mg base 3 "ratio_product" s_ratio_product ["one", "two"] (spV K 2 f_ratio_product)) (h_ratio_sum : DefOk P w K mg base 3 "ratio_sum" s_ratio_sum ["one", "two"] (spV K 2 f_ratio_sum)) (g_ZERO : GlD K mg "ZERO" c_ZERO) {fa : Addr} {fd : FuncData} (F : Fun K "told_at" "told_at" s_told_at fa fd) (hm : mg "told_at" = some (.ref fa)) : DefOk P w K mg base 4 "told_at" s_told_at ["polynomial", "fraction"] (spV K 2 f_told_at) :=
  ⟨fa, fd, F, fn_V (own' := []) (ol := []) F sc_told_at (fun _ _ _ _ _ _ _ _ hr => (dss_cons (asgK_of (k := false) (ps_set (i := 2) sc_told_at.nd rfl (.inl rfl) (dk_of (de_gl g_ZERO))) (fun _ _ _ q => q) (.inl rfl) (.inr rfl)) (dss_cons (ds_for PassesOwn.never rfl (di_rev rfl (RT.pi_revA rfl B.reversed (de_var (pv 0) rfl))) (dg_name (pg_name (i := 3) sc_told_at.nd rfl (.inl rfl)) rfl (.inl rfl)) (dss_one (asgK_of (k := false) (ps_set (i := 2) sc_told_at.nd rfl (.inl rfl) (dk_of (de_callD h_ratio_sum hr (da_cons (de_callD h_ratio_product hr (da_cons (de_var (pv 2) rfl) (da_cons (de_var (pv 1) rfl) da_nil)) (chk_cons (chk_cons chk_nil))) (da_cons (de_var (pv 3) rfl) da_nil)) (chk_cons (chk_cons chk_nil))))) (fun _ _ _ q => q) (.inl rfl) (.inr rfl)))) (dss_one (ds_ret (de_var (pv 2) rfl)))))), hm, F.binds fun _ _ _ _ _ _ us hl => match us, hl with | [_, _], _ => rfl⟩
abbrev s_run_on : Stmt := stm 45
abbrev N_run_on : List Str := ["rule", "numbers", "starts", "length", "pushes", "found", "steps", "step", "here", "number", "value"]
theorem sc_run_on : FnScope N_run_on ["rule", "numbers", "starts", "length", "pushes"] (defScope s_run_on) := ⟨rfl, rfl, rfl, by decide +kernel, rfl, by decide +kernel, by decide +kernel⟩
def den_run_on : SF := (seqS (par2S 5 6 (unE lstQ (varE 2)) (callE f_many_steps (consA (varE 0) nilA))) (seqS (forS (rng1I (varE 3)) (nameG 7) (seqS (asgS (binE ixQ (varE 4) (varE 7)) (nameG 8)) (seqS (forS (zipBI (varE 1) (slE slQ (varE 5) (someP (varE 7)) (someP (binE addD (varE 7) (varE 6))))) (tupG 2 (consG (nameG 9) (consG (nameG 10) nilG))) (asgS (callE f_ratio_less (consA (varE 8) (consA (callE f_ratio_product (consA (varE 9) (consA (varE 10) nilA))) nilA))) (nameG 8))) (appS 5 (callE f_ratio_over (consA (varE 8) (consA (binE ixQ (varE 1) (unE negQ (cE (.int 1)))) nilA))))))) (retS (unE tupQ (varE 5)))))
def f_run_on : List D → Option D := funV 11 den_run_on
theorem ok_run_on (B : Blt mg) (h_many_steps : DefOk P w K mg base 1 "many_steps" s_many_steps ["rule"] (spV K 1 f_many_steps)) (h_ratio_less : DefOk P w K mg base 3 "ratio_less" s_ratio_less ["one", "two"] (spV K 2 f_ratio_less)) (h_ratio_over : DefOk P w K mg base 3 "ratio_over" s_ratio_over ["one", "two"] (spV K 2 f_ratio_over)) (h_ratio_product : DefOk P w K mg base 3 "ratio_product" s_ratio_product ["one", "two"] (spV K 2 f_ratio_product)) {fa : Addr} {fd : FuncData} (F : Fun K "run_on" "run_on" s_run_on fa fd) (hm : mg "run_on" = some (.ref fa)) : DefOk P w K mg base 4 "run_on" s_run_on ["rule", "numbers", "starts", "length", "pushes"] (spV K 5 f_run_on) :=
  ⟨fa, fd, F, fn_V (own' := []) (ol := []) F sc_run_on (fun _ _ _ _ _ _ _ _ hr => (dss_cons (par2_of (k1 := true) (k2 := false) (ps_par (i := 5) (j := 6) rfl sc_run_on.nd rfl rfl (by decide) rfl rfl (pa_cons (dk_ofN (dn_b1 c1_list (pe_callTy call_list_of (by rfl) B.list (by decide +kernel) (pa_cons (DE.up (de_var (pv 2) rfl)) pa_nil)))) (pa_cons (dk_of (de_callD h_many_steps (hr.mono (by decide)) (da_cons (de_var (pv 0) rfl) da_nil) (chk_cons chk_nil))) pa_nil)) rfl) (.inl rfl) (.inl rfl) (.inl rfl) (.inr rfl)) (dss_cons (ds_for PassesOwn.never rfl (di_rng1 (top := false) rfl (pi_range1 rfl B.range (pa_cons (DE.up (de_var (pv 3) rfl)) pa_nil))) (dg_name (pg_name (i := 7) sc_run_on.nd rfl (.inl rfl)) rfl (.inl rfl)) (dss_cons (asgK_of (k := false) (ps_set (i := 8) sc_run_on.nd rfl (.inl rfl) (dk_of (de_ix (DE.up (de_var (pv 4) rfl)) (DE.up (de_var (pv 7) rfl))))) (fun _ _ _ q => q) (.inl rfl) (.inr rfl)) (dss_cons (ds_for PassesOwn.never rfl (di_zipB rfl rfl (pi_zipB rfl B.zip (pa_cons (de_var (pv 1) rfl) (pa_cons (de_sl (de_varO (pv 5) rfl) (do_some (DE.up (de_var (pv 7) rfl))) (do_some (DE.up (de_add (DE.up (de_var (pv 7) rfl)) (DE.up (de_var (pv 6) rfl)))))) pa_nil)))) (dg_tup rfl (dgs_cons (dg_name (pg_name (i := 9) sc_run_on.nd rfl (.inl rfl)) rfl (.inl rfl)) (dgs_cons (dg_name (pg_name (i := 10) sc_run_on.nd rfl (.inl rfl)) rfl (.inl rfl)) dgs_nil))) (dss_one (asgK_of (k := false) (ps_set (i := 8) sc_run_on.nd rfl (.inl rfl) (dk_of (de_callD h_ratio_less hr (da_cons (de_var (pv 8) rfl) (da_cons (de_callD h_ratio_product hr (da_cons (de_var (pv 9) rfl) (da_cons (de_var (pv 10) rfl) da_nil)) (chk_cons (chk_cons chk_nil))) da_nil)) (chk_cons (chk_cons chk_nil))))) (fun _ _ _ q => q) (.inl rfl) (.inr rfl)))) (dss_one (ds_app (ps_expr (pe_bm PySem.F.plainAttrs_list PySem.F.slot_list_append PySem.F.type_list_append mt_append (pv 5) (pa_cons (de_callD h_ratio_over hr (da_cons (de_var (pv 8) rfl) (da_cons (de_ix (DE.up (de_var (pv 1) rfl)) (DE.up (de_neg (DE.up de_int)))) da_nil)) (chk_cons (chk_cons chk_nil))) pa_nil)))))))) (dss_one (ds_ret (de_b1 c1_tuple (pe_callTy call_tuple_of (by rfl) B.tuple (by decide +kernel) (pa_cons (de_varO (pv 5) rfl) pa_nil)))))))), hm, F.binds fun _ _ _ _ _ _ us hl => match us, hl with | [_, _, _, _, _], _ => rfl⟩
abbrev s_test_run : Stmt := stm 46
abbrev N_test_run : List Str := ["rule", "fraction", "starts", "length", "numbers", "a", "b"]
theorem sc_test_run : FnScope N_test_run ["rule", "fraction", "starts", "length"] (defScope s_test_run) := ⟨rfl, rfl, rfl, by decide +kernel, rfl, by decide +kernel, by decide +kernel⟩
def den_test_run : SF := (seqS (dropS (callE f_check_rule (consA (varE 0) nilA))) (seqS (dropS (callE f_check_fraction (consA (varE 1) nilA))) (seqS (dropS (callE f_check_starts (consA (varE 0) (consA (varE 2) nilA)))) (seqS (dropS (callE f_check_number (consA (varE 3) (consA (cE (.int 0)) (consA (cE c_LONGEST) nilA))))) (seqS (asgS (lcE (zipI (binE ixQ (varE 0) (cE (.int 0))) (binE ixQ (varE 0) (cE (.int 1)))) (tupG 2 (consG (nameG 5) (consG (nameG 6) nilG))) yesB (callE f_ratio_less (consA (varE 5) (consA (callE f_ratio_product (consA (varE 1) (consA (varE 6) nilA))) nilA))) [5, 6]) (nameG 4)) (seqS (ifS (tstB (binE eqQ (binE ixQ (varE 4) (unE negQ (cE (.int 1)))) (cE c_ZERO))) neverS nxS) (retS (callE f_run_on (consA (varE 0) (consA (varE 4) (consA (varE 2) (consA (varE 3) (consA (binE repD (lstE (consA (cE c_ZERO) nilA)) (varE 3)) nilA)))))))))))))
def f_test_run : List D → Option D := funV 7 den_test_run
theorem ok_test_run (B : Blt mg) (h_check_fraction : DefOk P w K mg base 4 "check_fraction" s_check_fraction ["value"] (spV K 1 f_check_fraction)) (h_check_number : DefOk P w K mg base 3 "check_number" s_check_number ["value", "low", "high"] (spV K 3 f_check_number)) (h_check_rule : DefOk P w K mg base 6 "check_rule" s_check_rule ["value"] (spV K 1 f_check_rule)) (h_check_starts : DefOk P w K mg base 4 "check_starts" s_check_starts ["rule", "value"] (spV K 2 f_check_starts)) (h_ratio_less : DefOk P w K mg base 3 "ratio_less" s_ratio_less ["one", "two"] (spV K 2 f_ratio_less)) (h_ratio_product : DefOk P w K mg base 3 "ratio_product" s_ratio_product ["one", "two"] (spV K 2 f_ratio_product)) (h_run_on : DefOk P w K mg base 4 "run_on" s_run_on ["rule", "numbers", "starts", "length", "pushes"] (spV K 5 f_run_on)) (g_LONGEST : GlD K mg "LONGEST" c_LONGEST) (g_ZERO : GlD K mg "ZERO" c_ZERO) {fa : Addr} {fd : FuncData} (F : Fun K "test_run" "test_run" s_test_run fa fd) (hm : mg "test_run" = some (.ref fa)) : DefOk P w K mg base 7 "test_run" s_test_run ["rule", "fraction", "starts", "length"] (spV K 4 f_test_run) :=
  ⟨fa, fd, F, fn_V (own' := []) (ol := []) F sc_test_run (fun _ _ _ _ _ _ _ _ hr => (dss_cons (ds_drop (de_callD h_check_rule hr (da_cons (de_var (pv 0) rfl) da_nil) (chk_cons chk_nil))) (dss_cons (ds_drop (de_callD h_check_fraction (hr.mono (by decide)) (da_cons (de_var (pv 1) rfl) da_nil) (chk_cons chk_nil))) (dss_cons (ds_drop (de_callD h_check_starts (hr.mono (by decide)) (da_cons (de_var (pv 0) rfl) (da_cons (de_var (pv 2) rfl) da_nil)) (chk_cons (chk_cons chk_nil)))) (dss_cons (ds_drop (de_callD h_check_number (hr.mono (by decide)) (da_cons (de_var (pv 3) rfl) (da_cons de_int (da_cons (de_gl g_LONGEST) da_nil))) (chk_cons (chk_cons (chk_cons chk_nil))))) (dss_cons (asgK_of (k := false) (ps_setLc (i := 4) (own := [("a", 5), ("b", 6)]) rfl sc_test_run.nd rfl rfl (sw_true rfl rfl rfl (by decide +kernel)) (di_zip rfl rfl (RZ.pi_zipA rfl B.zip (pa_cons (de_ix (DE.up (de_var (pv 0) rfl)) (DE.up de_int)) (pa_cons (de_ix (DE.up (de_var (pv 0) rfl)) (DE.up de_int)) pa_nil)))) (blkOk_by (N := N_test_run) (sc := defScope s_test_run) (own := [("a", 5), ("b", 6)]) (by decide +kernel)) (fun _ _ _ _ _ => (dg_tup rfl (dgs_cons (dg_name (pg_name (i := 5) sc_test_run.nd rfl (.inl rfl)) rfl (.inl rfl)) (dgs_cons (dg_name (pg_name (i := 6) sc_test_run.nd rfl (.inl rfl)) rfl (.inl rfl)) dgs_nil)))) (fun _ _ _ _ _ => pts_yes) (fun _ _ _ _ _ => (de_callD h_ratio_less (hr.mono (by decide)) (da_cons (de_var (pv 5) rfl) (da_cons (de_callD h_ratio_product (hr.mono (by decide)) (da_cons (de_var (pv 1) rfl) (da_cons (de_var (pv 6) rfl) da_nil)) (chk_cons (chk_cons chk_nil))) da_nil)) (chk_cons (chk_cons chk_nil))))) (fun σ H Q q => lc_conv rfl (.inl rfl) σ H Q (k_convDN σ H Q q)) (.inl rfl) (.inr rfl)) (dss_cons (ds_if (dt_eq hr.units (DE.up (de_ix (DE.up (de_var (pv 4) rfl)) (DE.up (de_neg (DE.up de_int))))) (DE.up (de_gl g_ZERO))) (dss_one ds_never) dss_nil) (dss_one (ds_ret (de_callD h_run_on (hr.mono (by decide)) (da_cons (de_var (pv 0) rfl) (da_cons (de_var (pv 4) rfl) (da_cons (de_var (pv 2) rfl) (da_cons (de_var (pv 3) rfl) (da_cons (DN.de (dn_rep (DE.up (DN.de (dn_lst (da_cons (de_gl g_ZERO) da_nil)))) (DE.up (de_var (pv 3) rfl)))) da_nil))))) (chk_cons (chk_cons (chk_cons (chk_cons (chk_cons chk_nil))))))))))))))), hm, F.binds fun _ _ _ _ _ _ us hl => match us, hl with | [_, _, _, _], _ => rfl⟩
def den_test_runX : SF := (seqS (dropS (callE f_check_rule (consA (varE 0) nilA))) (seqS (dropS (callE f_check_fraction (consA (varE 1) nilA))) (seqS (dropS (callE f_check_starts (consA (varE 0) (consA (varE 2) nilA)))) (seqS (dropS (callE f_check_number (consA (varE 3) (consA (cE (.int 0)) (consA (cE c_LONGEST) nilA))))) (seqS (asgS (lcE (zipI (binE ixQ (varE 0) (cE (.int 0))) (binE ixQ (varE 0) (cE (.int 1)))) (tupG 2 (consG (nameG 5) (consG (nameG 6) nilG))) yesB (callE f_ratio_less (consA (varE 5) (consA (callE f_ratio_product (consA (varE 1) (consA (varE 6) nilA))) nilA))) [5, 6]) (nameG 4)) (seqS (ifS (tstB (binE eqQ (binE ixQ (varE 4) (unE negQ (cE (.int 1)))) (cE c_ZERO))) (raiseS "LostStep") nxS) (retS (callE f_run_on (consA (varE 0) (consA (varE 4) (consA (varE 2) (consA (varE 3) (consA (binE repD (lstE (consA (cE c_ZERO) nilA)) (varE 3)) nilA)))))))))))))
def f_test_runX : List D → Option (Except Str D) := funVX 7 den_test_runX
theorem ok_test_runX (B : Blt mg) {ca_LostStep : Addr} (e_LostStep : ExcC K mg "LostStep" ca_LostStep) (h_check_fraction : DefOk P w K mg base 4 "check_fraction" s_check_fraction ["value"] (spV K 1 f_check_fraction)) (h_check_number : DefOk P w K mg base 3 "check_number" s_check_number ["value", "low", "high"] (spV K 3 f_check_number)) (h_check_rule : DefOk P w K mg base 6 "check_rule" s_check_rule ["value"] (spV K 1 f_check_rule)) (h_check_starts : DefOk P w K mg base 4 "check_starts" s_check_starts ["rule", "value"] (spV K 2 f_check_starts)) (h_ratio_less : DefOk P w K mg base 3 "ratio_less" s_ratio_less ["one", "two"] (spV K 2 f_ratio_less)) (h_ratio_product : DefOk P w K mg base 3 "ratio_product" s_ratio_product ["one", "two"] (spV K 2 f_ratio_product)) (h_run_on : DefOk P w K mg base 4 "run_on" s_run_on ["rule", "numbers", "starts", "length", "pushes"] (spV K 5 f_run_on)) (g_LONGEST : GlD K mg "LONGEST" c_LONGEST) (g_ZERO : GlD K mg "ZERO" c_ZERO) {fa : Addr} {fd : FuncData} (F : Fun K "test_run" "test_run" s_test_run fa fd) (hm : mg "test_run" = some (.ref fa)) : DefOkX P w K mg base 7 "test_run" s_test_run ["rule", "fraction", "starts", "length"] (spVX K mg 4 f_test_runX) :=
  ⟨fa, fd, F, fn_VX (own' := []) (ol := []) F sc_test_run (fun _ _ _ _ _ _ _ _ hr => (dss_cons (PSnox (ds_drop (de_callD h_check_rule hr (da_cons (de_var (pv 0) rfl) da_nil) (chk_cons chk_nil)))) (dss_cons (PSnox (ds_drop (de_callD h_check_fraction (hr.mono (by decide)) (da_cons (de_var (pv 1) rfl) da_nil) (chk_cons chk_nil)))) (dss_cons (PSnox (ds_drop (de_callD h_check_starts (hr.mono (by decide)) (da_cons (de_var (pv 0) rfl) (da_cons (de_var (pv 2) rfl) da_nil)) (chk_cons (chk_cons chk_nil))))) (dss_cons (PSnox (ds_drop (de_callD h_check_number (hr.mono (by decide)) (da_cons (de_var (pv 3) rfl) (da_cons de_int (da_cons (de_gl g_LONGEST) da_nil))) (chk_cons (chk_cons (chk_cons chk_nil)))))) (dss_cons (PSnox (asgK_of (k := false) (ps_setLc (i := 4) (own := [("a", 5), ("b", 6)]) rfl sc_test_run.nd rfl rfl (sw_true rfl rfl rfl (by decide +kernel)) (di_zip rfl rfl (RZ.pi_zipA rfl B.zip (pa_cons (de_ix (DE.up (de_var (pv 0) rfl)) (DE.up de_int)) (pa_cons (de_ix (DE.up (de_var (pv 0) rfl)) (DE.up de_int)) pa_nil)))) (blkOk_by (N := N_test_run) (sc := defScope s_test_run) (own := [("a", 5), ("b", 6)]) (by decide +kernel)) (fun _ _ _ _ _ => (dg_tup rfl (dgs_cons (dg_name (pg_name (i := 5) sc_test_run.nd rfl (.inl rfl)) rfl (.inl rfl)) (dgs_cons (dg_name (pg_name (i := 6) sc_test_run.nd rfl (.inl rfl)) rfl (.inl rfl)) dgs_nil)))) (fun _ _ _ _ _ => pts_yes) (fun _ _ _ _ _ => (de_callD h_ratio_less (hr.mono (by decide)) (da_cons (de_var (pv 5) rfl) (da_cons (de_callD h_ratio_product (hr.mono (by decide)) (da_cons (de_var (pv 1) rfl) (da_cons (de_var (pv 6) rfl) da_nil)) (chk_cons (chk_cons chk_nil))) da_nil)) (chk_cons (chk_cons chk_nil))))) (fun σ H Q q => lc_conv rfl (.inl rfl) σ H Q (k_convDN σ H Q q)) (.inl rfl) (.inr rfl))) (dss_cons (ds_if (PT.nox (dt_eq hr.units (DE.up (de_ix (DE.up (de_var (pv 4) rfl)) (DE.up (de_neg (DE.up de_int))))) (DE.up (de_gl g_ZERO)))) (dss_one (ds_raise0 rfl (takes_wX (takes_of rfl rfl rfl rfl)) e_LostStep)) dss_nil) (dss_one (PSnox (ds_ret (de_callD h_run_on (hr.mono (by decide)) (da_cons (de_var (pv 0) rfl) (da_cons (de_var (pv 4) rfl) (da_cons (de_var (pv 2) rfl) (da_cons (de_var (pv 3) rfl) (da_cons (DN.de (dn_rep (DE.up (DN.de (dn_lst (da_cons (de_gl g_ZERO) da_nil)))) (DE.up (de_var (pv 3) rfl)))) da_nil))))) (chk_cons (chk_cons (chk_cons (chk_cons (chk_cons chk_nil)))))))))))))))), hm, F.binds fun _ _ _ _ _ _ us hl => match us, hl with | [_, _, _, _], _ => rfl⟩
abbrev s_push_of : Stmt := stm 47
abbrev N_push_of : List Str := ["rule", "polynomial", "size", "number", "found", "place", "factor", "spot"]
theorem sc_push_of : FnScope N_push_of ["rule", "polynomial", "size", "number"] (defScope s_push_of) := ⟨rfl, rfl, rfl, by decide +kernel, rfl, by decide +kernel, by decide +kernel⟩
def den_push_of : SF := (seqS (asgS (cE c_ZERO) (nameG 4)) (seqS (forS (enumA (binE ixQ (varE 0) (cE (.int 1)))) (tupG 2 (consG (nameG 5) (consG (nameG 6) nilG))) (seqS (asgS (callE f_ratio_product (consA (varE 2) (consA (tupE (consA (binE addD (varE 3) (varE 5)) (consA (cE (.int 1)) nilA))) nilA))) (nameG 7)) (asgS (callE f_ratio_sum (consA (varE 4) (consA (callE f_ratio_product (consA (varE 6) (consA (callE f_told_at (consA (varE 1) (consA (varE 7) nilA))) nilA))) nilA))) (nameG 4)))) (retS (callE f_ratio_product (consA (varE 2) (consA (varE 4) nilA))))))
def f_push_of : List D → Option D := funV 8 den_push_of
theorem ok_push_of (B : Blt mg) (h_ratio_product : DefOk P w K mg base 3 "ratio_product" s_ratio_product ["one", "two"] (spV K 2 f_ratio_product)) (h_ratio_sum : DefOk P w K mg base 3 "ratio_sum" s_ratio_sum ["one", "two"] (spV K 2 f_ratio_sum)) (h_told_at : DefOk P w K mg base 4 "told_at" s_told_at ["polynomial", "fraction"] (spV K 2 f_told_at)) (g_ZERO : GlD K mg "ZERO" c_ZERO) {fa : Addr} {fd : FuncData} (F : Fun K "push_of" "push_of" s_push_of fa fd) (hm : mg "push_of" = some (.ref fa)) : DefOk P w K mg base 5 "push_of" s_push_of ["rule", "polynomial", "size", "number"] (spV K 4 f_push_of) :=
  ⟨fa, fd, F, fn_V (own' := []) (ol := []) F sc_push_of (fun _ _ _ _ _ _ _ _ hr => (dss_cons (asgK_of (k := false) (ps_set (i := 4) sc_push_of.nd rfl (.inl rfl) (dk_of (de_gl g_ZERO))) (fun _ _ _ q => q) (.inl rfl) (.inr rfl)) (dss_cons (ds_for PassesOwn.never rfl (di_enumA rfl (pi_enumA rfl B.enumerate (pa_cons (de_ix (DE.up (de_var (pv 0) rfl)) (DE.up de_int)) pa_nil))) (dg_tup rfl (dgs_cons (dg_name (pg_name (i := 5) sc_push_of.nd rfl (.inl rfl)) rfl (.inl rfl)) (dgs_cons (dg_name (pg_name (i := 6) sc_push_of.nd rfl (.inl rfl)) rfl (.inl rfl)) dgs_nil))) (dss_cons (asgK_of (k := false) (ps_set (i := 7) sc_push_of.nd rfl (.inl rfl) (dk_of (de_callD h_ratio_product (hr.mono (by decide)) (da_cons (de_var (pv 2) rfl) (da_cons (de_tup (da_cons (de_add (DE.up (de_var (pv 3) rfl)) (DE.up (de_var (pv 5) rfl))) (da_cons de_int da_nil))) da_nil)) (chk_cons (chk_cons chk_nil))))) (fun _ _ _ q => q) (.inl rfl) (.inr rfl)) (dss_one (asgK_of (k := false) (ps_set (i := 4) sc_push_of.nd rfl (.inl rfl) (dk_of (de_callD h_ratio_sum (hr.mono (by decide)) (da_cons (de_var (pv 4) rfl) (da_cons (de_callD h_ratio_product (hr.mono (by decide)) (da_cons (de_var (pv 6) rfl) (da_cons (de_callD h_told_at hr (da_cons (de_var (pv 1) rfl) (da_cons (de_var (pv 7) rfl) da_nil)) (chk_cons (chk_cons chk_nil))) da_nil)) (chk_cons (chk_cons chk_nil))) da_nil)) (chk_cons (chk_cons chk_nil))))) (fun _ _ _ q => q) (.inl rfl) (.inr rfl))))) (dss_one (ds_ret (de_callD h_ratio_product (hr.mono (by decide)) (da_cons (de_var (pv 2) rfl) (da_cons (de_var (pv 4) rfl) da_nil)) (chk_cons (chk_cons chk_nil)))))))), hm, F.binds fun _ _ _ _ _ _ us hl => match us, hl with | [_, _, _, _], _ => rfl⟩
abbrev s_slope_run : Stmt := stm 48
abbrev N_slope_run : List Str := ["rule", "polynomial", "size", "starts", "length", "pushes", "step"]
theorem sc_slope_run : FnScope N_slope_run ["rule", "polynomial", "size", "starts", "length"] (defScope s_slope_run) := ⟨rfl, rfl, rfl, by decide +kernel, rfl, by decide +kernel, by decide +kernel⟩
def den_slope_run : SF := (seqS (dropS (callE f_check_rule (consA (varE 0) nilA))) (seqS (dropS (callE f_check_polynomial (consA (varE 1) nilA))) (seqS (dropS (callE f_check_size (consA (varE 2) nilA))) (seqS (dropS (callE f_check_starts (consA (varE 0) (consA (varE 3) nilA)))) (seqS (dropS (callE f_check_number (consA (varE 4) (consA (cE (.int 0)) (consA (cE c_LONGEST) nilA))))) (seqS (asgS (lcE (rng1I (varE 4)) (nameG 6) yesB (callE f_push_of (consA (varE 0) (consA (varE 1) (consA (varE 2) (consA (varE 6) nilA))))) [6]) (nameG 5)) (retS (callE f_run_on (consA (varE 0) (consA (binE ixQ (varE 0) (cE (.int 0))) (consA (varE 3) (consA (varE 4) (consA (varE 5) nilA)))))))))))))
def f_slope_run : List D → Option D := funV 7 den_slope_run
theorem ok_slope_run (B : Blt mg) (h_check_number : DefOk P w K mg base 3 "check_number" s_check_number ["value", "low", "high"] (spV K 3 f_check_number)) (h_check_polynomial : DefOk P w K mg base 6 "check_polynomial" s_check_polynomial ["value"] (spV K 1 f_check_polynomial)) (h_check_rule : DefOk P w K mg base 6 "check_rule" s_check_rule ["value"] (spV K 1 f_check_rule)) (h_check_size : DefOk P w K mg base 4 "check_size" s_check_size ["value"] (spV K 1 f_check_size)) (h_check_starts : DefOk P w K mg base 4 "check_starts" s_check_starts ["rule", "value"] (spV K 2 f_check_starts)) (h_push_of : DefOk P w K mg base 5 "push_of" s_push_of ["rule", "polynomial", "size", "number"] (spV K 4 f_push_of)) (h_run_on : DefOk P w K mg base 4 "run_on" s_run_on ["rule", "numbers", "starts", "length", "pushes"] (spV K 5 f_run_on)) (g_LONGEST : GlD K mg "LONGEST" c_LONGEST) {fa : Addr} {fd : FuncData} (F : Fun K "slope_run" "slope_run" s_slope_run fa fd) (hm : mg "slope_run" = some (.ref fa)) : DefOk P w K mg base 7 "slope_run" s_slope_run ["rule", "polynomial", "size", "starts", "length"] (spV K 5 f_slope_run) :=
  ⟨fa, fd, F, fn_V (own' := []) (ol := []) F sc_slope_run (fun _ _ _ _ _ _ _ _ hr => (dss_cons (ds_drop (de_callD h_check_rule hr (da_cons (de_var (pv 0) rfl) da_nil) (chk_cons chk_nil))) (dss_cons (ds_drop (de_callD h_check_polynomial hr (da_cons (de_var (pv 1) rfl) da_nil) (chk_cons chk_nil))) (dss_cons (ds_drop (de_callD h_check_size (hr.mono (by decide)) (da_cons (de_var (pv 2) rfl) da_nil) (chk_cons chk_nil))) (dss_cons (ds_drop (de_callD h_check_starts (hr.mono (by decide)) (da_cons (de_var (pv 0) rfl) (da_cons (de_var (pv 3) rfl) da_nil)) (chk_cons (chk_cons chk_nil)))) (dss_cons (ds_drop (de_callD h_check_number (hr.mono (by decide)) (da_cons (de_var (pv 4) rfl) (da_cons de_int (da_cons (de_gl g_LONGEST) da_nil))) (chk_cons (chk_cons (chk_cons chk_nil))))) (dss_cons (asgK_of (k := false) (ps_setLc (i := 5) (own := [("step", 6)]) rfl sc_slope_run.nd rfl rfl (sw_true rfl rfl rfl (by decide +kernel)) (di_rng1 (top := false) rfl (pi_range1 rfl B.range (pa_cons (DE.up (de_var (pv 4) rfl)) pa_nil))) (blkOk_by (N := N_slope_run) (sc := defScope s_slope_run) (own := [("step", 6)]) (by decide +kernel)) (fun _ _ _ _ _ => (dg_name (pg_name (i := 6) sc_slope_run.nd rfl (.inl rfl)) rfl (.inl rfl))) (fun _ _ _ _ _ => pts_yes) (fun _ _ _ _ _ => (de_callD h_push_of (hr.mono (by decide)) (da_cons (de_var (pv 0) rfl) (da_cons (de_var (pv 1) rfl) (da_cons (de_var (pv 2) rfl) (da_cons (de_var (pv 6) rfl) da_nil)))) (chk_cons (chk_cons (chk_cons (chk_cons chk_nil))))))) (fun σ H Q q => lc_conv rfl (.inl rfl) σ H Q (k_convDN σ H Q q)) (.inl rfl) (.inr rfl)) (dss_one (ds_ret (de_callD h_run_on (hr.mono (by decide)) (da_cons (de_var (pv 0) rfl) (da_cons (de_ix (DE.up (de_var (pv 0) rfl)) (DE.up de_int)) (da_cons (de_var (pv 3) rfl) (da_cons (de_var (pv 4) rfl) (da_cons (de_var (pv 5) rfl) da_nil))))) (chk_cons (chk_cons (chk_cons (chk_cons (chk_cons chk_nil))))))))))))))), hm, F.binds fun _ _ _ _ _ _ us hl => match us, hl with | [_, _, _, _, _], _ => rfl⟩
abbrev s_order_of : Stmt := stm 50
abbrev N_order_of : List Str := ["rule"]
theorem sc_order_of : FnScope N_order_of ["rule"] (defScope s_order_of) := ⟨rfl, rfl, rfl, by decide +kernel, rfl, by decide +kernel, by decide +kernel⟩
def den_order_of : SF := (seqS (dropS (callE f_check_rule (consA (varE 0) nilA))) (retS (binE ixQ (callE f_order_told (consA (varE 0) nilA)) (cE (.int 0)))))
def f_order_of : List D → Option D := funV 1 den_order_of
theorem ok_order_of (B : Blt mg) (h_check_rule : DefOk P w K mg base 6 "check_rule" s_check_rule ["value"] (spV K 1 f_check_rule)) (h_order_told : DefOk P w K mg base 6 "order_told" s_order_told ["rule"] (spV K 1 f_order_told)) {fa : Addr} {fd : FuncData} (F : Fun K "order_of" "order_of" s_order_of fa fd) (hm : mg "order_of" = some (.ref fa)) : DefOk P w K mg base 7 "order_of" s_order_of ["rule"] (spV K 1 f_order_of) :=
  ⟨fa, fd, F, fn_V (own' := []) (ol := []) F sc_order_of (fun _ _ _ _ _ _ _ _ hr => (dss_cons (ds_drop (de_callD h_check_rule hr (da_cons (de_var (pv 0) rfl) da_nil) (chk_cons chk_nil))) (dss_one (ds_ret (de_ix (DE.up (de_callD h_order_told hr (da_cons (de_var (pv 0) rfl) da_nil) (chk_cons chk_nil))) (DE.up de_int)))))), hm, F.binds fun _ _ _ _ _ _ us hl => match us, hl with | [_], _ => rfl⟩
abbrev s_law_sack : Stmt := stm 52
abbrev N_law_sack : List Str := ["script", "turn", "mixed", "other", "cell", "own"]
theorem sc_law_sack : FnScope N_law_sack ["script", "turn"] (defScope s_law_sack) := ⟨rfl, rfl, rfl, by decide +kernel, rfl, by decide +kernel, by decide +kernel⟩
def den_law_sack : SF := (seqS (par2S 2 3 (binE addD (cE (.int 70001)) (binE mulD (cE (.int 5003)) (varE 1))) (binE addD (cE (.int 40009)) (binE mulD (cE (.int 7)) (varE 1)))) (seqS (forS (seqI (slE slQ (varE 0) noP (someP (cE (.int 12))))) (nameG 4) (seqS (asgS (binE modD (unE intQ (binE addD (binE addD (binE mulD (varE 2) (cE (.int 48611))) (unE intQ (varE 4))) (cE (.int 29)))) (cE (.int 2147483587))) (nameG 2)) (asgS (binE modD (unE intQ (binE addD (binE addD (binE mulD (varE 3) (cE (.int 30011))) (binE modD (unE intQ (varE 4)) (cE (.int 1999999973)))) (binE fdivD (varE 2) (cE (.int 16))))) (cE (.int 1999999973))) (nameG 3)))) (seqS (asgS (ifE (tstB (binE (cmpQ ltP) (varE 1) (unE lenQ (varE 0)))) (unE absQ (unE intQ (binE ixQ (varE 0) (varE 1)))) (cE (.int 0))) (nameG 5)) (retS (lstE (consA (ifE (tstB (binE (cmpQ geP) (varE 5) (binE powD (cE (.int 10)) (cE (.int 18))))) (varE 5) (cE (.int 0))) (consA (binE modD (unE intQ (binE addD (varE 2) (binE mulD (binE modD (unE intQ (varE 5)) (cE (.int 2147483587))) (cE (.int 6911))))) (cE (.int 2147483587))) (consA (varE 3) nilA))))))))
def f_law_sack : List D → Option D := funN 6 den_law_sack
theorem ok_law_sack (B : Blt mg) {fa : Addr} {fd : FuncData} (F : Fun K "_law_sack" "_law_sack" s_law_sack fa fd) (hm : mg "_law_sack" = some (.ref fa)) : DefOk P w K mg base 1 "_law_sack" s_law_sack ["script", "turn"] (spN K 2 f_law_sack) :=
  ⟨fa, fd, F, fn_N (own' := []) (ol := []) F sc_law_sack (fun _ _ _ _ _ _ _ _ hr => (dss_cons (par2_of (k1 := false) (k2 := false) (ps_par (i := 2) (j := 3) rfl sc_law_sack.nd rfl rfl (by decide) rfl rfl (pa_cons (dk_of (de_add (DE.up de_int) (DE.up (de_mul (DE.up de_int) (DE.up (de_var (pv 1) rfl)))))) (pa_cons (dk_of (de_add (DE.up de_int) (DE.up (de_mul (DE.up de_int) (DE.up (de_var (pv 1) rfl)))))) pa_nil)) rfl) (.inl rfl) (.inl rfl) (.inr rfl) (.inr rfl)) (dss_cons (ds_for PassesOwn.never rfl (di_seq (de_sl (DE.up (de_var (pv 0) rfl)) do_none (do_some (DE.up de_int)))) (dg_name (pg_name (i := 4) sc_law_sack.nd rfl (.inl rfl)) rfl (.inl rfl)) (dss_cons (asgK_of (k := false) (ps_set (i := 2) sc_law_sack.nd rfl (.inl rfl) (dk_of (de_mod (DE.up (de_b1 c1_int (pe_callTy call_int1 (by rfl) B.int (by decide +kernel) (pa_cons (DE.up (de_add (DE.up (de_add (DE.up (de_mul (DE.up (de_var (pv 2) rfl)) (DE.up de_int))) (DE.up (de_b1 c1_int (pe_callTy call_int1 (by rfl) B.int (by decide +kernel) (pa_cons (DE.up (de_var (pv 4) rfl)) pa_nil)))))) (DE.up de_int))) pa_nil)))) (DE.up de_int)))) (fun _ _ _ q => q) (.inl rfl) (.inr rfl)) (dss_one (asgK_of (k := false) (ps_set (i := 3) sc_law_sack.nd rfl (.inl rfl) (dk_of (de_mod (DE.up (de_b1 c1_int (pe_callTy call_int1 (by rfl) B.int (by decide +kernel) (pa_cons (DE.up (de_add (DE.up (de_add (DE.up (de_mul (DE.up (de_var (pv 3) rfl)) (DE.up de_int))) (DE.up (de_mod (DE.up (de_b1 c1_int (pe_callTy call_int1 (by rfl) B.int (by decide +kernel) (pa_cons (DE.up (de_var (pv 4) rfl)) pa_nil)))) (DE.up de_int))))) (DE.up (de_fdiv (DE.up (de_var (pv 2) rfl)) (DE.up de_int))))) pa_nil)))) (DE.up de_int)))) (fun _ _ _ q => q) (.inl rfl) (.inr rfl))))) (dss_cons (asgK_of (k := false) (ps_set (i := 5) sc_law_sack.nd rfl (.inl rfl) (dk_of (de_if (dt_lt (DE.up (de_var (pv 1) rfl)) (DE.up (de_b1 c1_len (pe_callB call_len (by rfl) B.len PySem.boot_len (pa_cons (DE.up (de_var (pv 0) rfl)) pa_nil))))) (de_b1 c1_abs (pe_callB call_abs (by rfl) B.abs (by decide +kernel) (pa_cons (DE.up (de_b1 c1_int (pe_callTy call_int1 (by rfl) B.int (by decide +kernel) (pa_cons (DE.up (de_ix (DE.up (de_var (pv 0) rfl)) (DE.up (de_var (pv 1) rfl)))) pa_nil)))) pa_nil))) de_int))) (fun _ _ _ q => q) (.inl rfl) (.inr rfl)) (dss_one (ds_retN (dn_lst (da_cons (de_if (dt_ge (DE.up (de_var (pv 5) rfl)) (DE.up (de_pow (DE.up de_int) (DE.up de_int)))) (de_var (pv 5) rfl) de_int) (da_cons (de_mod (DE.up (de_b1 c1_int (pe_callTy call_int1 (by rfl) B.int (by decide +kernel) (pa_cons (DE.up (de_add (DE.up (de_var (pv 2) rfl)) (DE.up (de_mul (DE.up (de_mod (DE.up (de_b1 c1_int (pe_callTy call_int1 (by rfl) B.int (by decide +kernel) (pa_cons (DE.up (de_var (pv 5) rfl)) pa_nil)))) (DE.up de_int))) (DE.up de_int))))) pa_nil)))) (DE.up de_int)) (da_cons (de_var (pv 3) rfl) da_nil)))))))))), hm, F.binds fun _ _ _ _ _ _ us hl => match us, hl with | [_, _], _ => rfl⟩
abbrev s_law_pull : Stmt := stm 53
abbrev N_law_pull : List Str := ["sack", "many", "digit"]
theorem sc_law_pull : FnScope N_law_pull ["sack", "many"] (defScope s_law_pull) := ⟨rfl, rfl, rfl, by decide +kernel, rfl, by decide +kernel, by decide +kernel⟩
def den_law_pull : SF := (seqS (ifS (tstB (binE (cmpQ gtP) (skixE (cE (.int 0))) (cE (.int 0)))) (seqS (asgXS (binE divmodQ (skixE (cE (.int 0))) (varE 1)) (tupX 2 (consX (subKX (cE (.int 0))) (consX (nameX 2) nilX)))) (retS (varE 2))) nxS) (seqS (setKS (cE (.int 2)) (binE modD (unE intQ (binE addD (binE mulD (skixE (cE (.int 2))) (cE (.int 69069))) (cE (.int 7)))) (cE (.int 1999999973)))) (seqS (setKS (cE (.int 1)) (binE modD (unE intQ (binE addD (binE addD (binE mulD (skixE (cE (.int 1))) (cE (.int 40503))) (binE fdivD (skixE (cE (.int 2))) (cE (.int 8)))) (cE (.int 1)))) (cE (.int 2147483587)))) (retS (binE modD (unE intQ (binE addD (binE fdivD (skixE (cE (.int 1))) (cE (.int 64))) (binE fdivD (skixE (cE (.int 2))) (cE (.int 128))))) (varE 1))))))
def f_law_pull : D → List D → Option (D × D) := funS 3 den_law_pull
theorem ok_law_pull (B : Blt mg) {fa : Addr} {fd : FuncData} (F : Fun K "_law_pull" "_law_pull" s_law_pull fa fd) (hm : mg "_law_pull" = some (.ref fa)) : DefOk P w K mg base 1 "_law_pull" s_law_pull ["sack", "many"] (spS K 1 f_law_pull) :=
  ⟨fa, fd, F, fn_S (own' := []) (ol := []) F sc_law_pull (by simp) (fun _ _ _ _ _ _ _ _ _ hr => (dss_cons (ds_if (dt_gt (DE.up (de_skix (DE.up de_int) (pv 0))) (DE.up de_int)) (dss_cons (asgX_of (ps_asg (de_b2 c2_divmod (pe_callB call_divmodW (by rfl) B.divmod (by decide +kernel) (pa_cons (DE.up (de_skix (DE.up de_int) (pv 0))) (pa_cons (DE.up (de_var (pv 1) rfl)) pa_nil)))) (dx_tup rfl (dxs_cons (dx_subK (pg_sub (pv 0) (DE.up de_int) set_list)) (dxs_cons (dx_name (pg_name (i := 2) sc_law_pull.nd rfl (.inl rfl)) rfl (.inr (by decide))) dxs_nil))))) (dss_one (ds_ret (de_var (pv 2) rfl)))) dss_nil) (dss_cons (ds_setK (ps_asg (de_mod (DE.up (de_b1 c1_int (pe_callTy call_int1 (by rfl) B.int (by decide +kernel) (pa_cons (DE.up (de_add (DE.up (de_mul (DE.up (de_skix (DE.up de_int) (pv 0))) (DE.up de_int))) (DE.up de_int))) pa_nil)))) (DE.up de_int)) (pg_sub (pv 0) (DE.up de_int) set_list))) (dss_cons (ds_setK (ps_asg (de_mod (DE.up (de_b1 c1_int (pe_callTy call_int1 (by rfl) B.int (by decide +kernel) (pa_cons (DE.up (de_add (DE.up (de_add (DE.up (de_mul (DE.up (de_skix (DE.up de_int) (pv 0))) (DE.up de_int))) (DE.up (de_fdiv (DE.up (de_skix (DE.up de_int) (pv 0))) (DE.up de_int))))) (DE.up de_int))) pa_nil)))) (DE.up de_int)) (pg_sub (pv 0) (DE.up de_int) set_list))) (dss_one (ds_ret (de_mod (DE.up (de_b1 c1_int (pe_callTy call_int1 (by rfl) B.int (by decide +kernel) (pa_cons (DE.up (de_add (DE.up (de_fdiv (DE.up (de_skix (DE.up de_int) (pv 0))) (DE.up de_int))) (DE.up (de_fdiv (DE.up (de_skix (DE.up de_int) (pv 0))) (DE.up de_int))))) pa_nil)))) (DE.up (de_var (pv 1) rfl))))))))), hm, F.binds fun _ _ _ _ _ _ us hl => match us, hl with | [_, _], _ => rfl⟩
abbrev s_law_pick : Stmt := stm 54
abbrev N_law_pick : List Str := ["sack", "some"]
theorem sc_law_pick : FnScope N_law_pick ["sack", "some"] (defScope s_law_pick) := ⟨rfl, rfl, rfl, by decide +kernel, rfl, by decide +kernel, by decide +kernel⟩
def den_law_pick : SF := (retS (binE ixQ (varE 1) (callS f_law_pull (consA (unE lenQ (varE 1)) nilA))))
def f_law_pick : D → List D → Option (D × D) := funS 2 den_law_pick
theorem ok_law_pick (B : Blt mg) (h_law_pull : DefOk P w K mg base 1 "_law_pull" s_law_pull ["sack", "many"] (spS K 1 f_law_pull)) {fa : Addr} {fd : FuncData} (F : Fun K "_law_pick" "_law_pick" s_law_pick fa fd) (hm : mg "_law_pick" = some (.ref fa)) : DefOk P w K mg base 2 "_law_pick" s_law_pick ["sack", "some"] (spS K 1 f_law_pick) :=
  ⟨fa, fd, F, fn_S (own' := []) (ol := []) F sc_law_pick (by simp) (fun _ _ _ _ _ _ _ _ _ hr => (dss_one (ds_ret (de_ix (DE.up (de_var (pv 1) rfl)) (DE.up (ds_callD h_law_pull hr (pv 0) (da_cons (de_b1 c1_len (pe_callB call_len (by rfl) B.len PySem.boot_len (pa_cons (DE.up (de_var (pv 1) rfl)) pa_nil))) da_nil) (chk_cons chk_nil))))))), hm, F.binds fun _ _ _ _ _ _ us hl => match us, hl with | [_, _], _ => rfl⟩
abbrev s_law_f : Stmt := stm 55
abbrev N_law_f : List Str := ["upper", "lower", "one", "two"]
theorem sc_law_f : FnScope N_law_f ["upper", "lower"] (defScope s_law_f) := ⟨rfl, rfl, rfl, by decide +kernel, rfl, by decide +kernel, by decide +kernel⟩
def den_law_f : SF := (seqS (ifS (tstB (binE (cmpQ ltP) (varE 1) (cE (.int 0)))) (par2S 0 1 (unE negQ (varE 0)) (unE negQ (varE 1))) nxS) (seqS (par2S 2 3 (unE absQ (varE 0)) (varE 1)) (seqS (whS (tstB (binE (cmpQ gtP) (varE 3) (cE (.int 0)))) (par2S 2 3 (varE 3) (binE modD (unE intQ (varE 2)) (varE 3)))) (retS (tupE (consA (binE fdivD (varE 0) (varE 2)) (consA (binE fdivD (varE 1) (varE 2)) nilA)))))))
def f_law_f : List D → Option D := funV 4 den_law_f
theorem ok_law_f (B : Blt mg) {fa : Addr} {fd : FuncData} (F : Fun K "_law_f" "_law_f" s_law_f fa fd) (hm : mg "_law_f" = some (.ref fa)) : DefOk P w K mg base 1 "_law_f" s_law_f ["upper", "lower"] (spV K 2 f_law_f) :=
  ⟨fa, fd, F, fn_V (own' := []) (ol := []) F sc_law_f (fun _ _ _ _ _ _ _ _ hr => (dss_cons (ds_if (dt_lt (DE.up (de_var (pv 1) rfl)) (DE.up de_int)) (dss_one (par2_of (k1 := false) (k2 := false) (ps_par (i := 0) (j := 1) rfl sc_law_f.nd rfl rfl (by decide) rfl rfl (pa_cons (dk_of (de_neg (DE.up (de_var (pv 0) rfl)))) (pa_cons (dk_of (de_neg (DE.up (de_var (pv 1) rfl)))) pa_nil)) rfl) (.inl rfl) (.inl rfl) (.inr rfl) (.inr rfl))) dss_nil) (dss_cons (par2_of (k1 := false) (k2 := false) (ps_par (i := 2) (j := 3) rfl sc_law_f.nd rfl rfl (by decide) rfl rfl (pa_cons (dk_of (de_b1 c1_abs (pe_callB call_abs (by rfl) B.abs (by decide +kernel) (pa_cons (DE.up (de_var (pv 0) rfl)) pa_nil)))) (pa_cons (dk_of (de_var (pv 1) rfl)) pa_nil)) rfl) (.inl rfl) (.inl rfl) (.inr rfl) (.inr rfl)) (dss_cons (ds_while PassesOwn.never (dt_gt (DE.up (de_var (pv 3) rfl)) (DE.up de_int)) (dss_one (par2_of (k1 := false) (k2 := false) (ps_par (i := 2) (j := 3) rfl sc_law_f.nd rfl rfl (by decide) rfl rfl (pa_cons (dk_of (de_var (pv 3) rfl)) (pa_cons (dk_of (de_mod (DE.up (de_b1 c1_int (pe_callTy call_int1 (by rfl) B.int (by decide +kernel) (pa_cons (DE.up (de_var (pv 2) rfl)) pa_nil)))) (DE.up (de_var (pv 3) rfl)))) pa_nil)) rfl) (.inl rfl) (.inl rfl) (.inr rfl) (.inr rfl)))) (dss_one (ds_ret (de_tup (da_cons (de_fdiv (DE.up (de_var (pv 0) rfl)) (DE.up (de_var (pv 2) rfl))) (da_cons (de_fdiv (DE.up (de_var (pv 1) rfl)) (DE.up (de_var (pv 2) rfl))) da_nil))))))))), hm, F.binds fun _ _ _ _ _ _ us hl => match us, hl with | [_, _], _ => rfl⟩
abbrev s_law_plus : Stmt := stm 56
abbrev N_law_plus : List Str := ["one", "two"]
theorem sc_law_plus : FnScope N_law_plus ["one", "two"] (defScope s_law_plus) := ⟨rfl, rfl, rfl, by decide +kernel, rfl, by decide +kernel, by decide +kernel⟩
def den_law_plus : SF := (retS (callE f_law_f (consA (binE addD (binE mulD (binE ixQ (varE 0) (cE (.int 0))) (binE ixQ (varE 1) (cE (.int 1)))) (binE mulD (binE ixQ (varE 1) (cE (.int 0))) (binE ixQ (varE 0) (cE (.int 1))))) (consA (binE mulD (binE ixQ (varE 0) (cE (.int 1))) (binE ixQ (varE 1) (cE (.int 1)))) nilA))))
def f_law_plus : List D → Option D := funV 2 den_law_plus
theorem ok_law_plus (B : Blt mg) (h_law_f : DefOk P w K mg base 1 "_law_f" s_law_f ["upper", "lower"] (spV K 2 f_law_f)) {fa : Addr} {fd : FuncData} (F : Fun K "_law_plus" "_law_plus" s_law_plus fa fd) (hm : mg "_law_plus" = some (.ref fa)) : DefOk P w K mg base 2 "_law_plus" s_law_plus ["one", "two"] (spV K 2 f_law_plus) :=
  ⟨fa, fd, F, fn_V (own' := []) (ol := []) F sc_law_plus (fun _ _ _ _ _ _ _ _ hr => (dss_one (ds_ret (de_callD h_law_f hr (da_cons (de_add (DE.up (de_mul (DE.up (de_ix (DE.up (de_var (pv 0) rfl)) (DE.up de_int))) (DE.up (de_ix (DE.up (de_var (pv 1) rfl)) (DE.up de_int))))) (DE.up (de_mul (DE.up (de_ix (DE.up (de_var (pv 1) rfl)) (DE.up de_int))) (DE.up (de_ix (DE.up (de_var (pv 0) rfl)) (DE.up de_int)))))) (da_cons (de_mul (DE.up (de_ix (DE.up (de_var (pv 0) rfl)) (DE.up de_int))) (DE.up (de_ix (DE.up (de_var (pv 1) rfl)) (DE.up de_int)))) da_nil)) (chk_cons (chk_cons chk_nil)))))), hm, F.binds fun _ _ _ _ _ _ us hl => match us, hl with | [_, _], _ => rfl⟩
abbrev s_law_less : Stmt := stm 57
abbrev N_law_less : List Str := ["one", "two"]
theorem sc_law_less : FnScope N_law_less ["one", "two"] (defScope s_law_less) := ⟨rfl, rfl, rfl, by decide +kernel, rfl, by decide +kernel, by decide +kernel⟩
def den_law_less : SF := (retS (callE f_law_f (consA (binE subD (binE mulD (binE ixQ (varE 0) (cE (.int 0))) (binE ixQ (varE 1) (cE (.int 1)))) (binE mulD (binE ixQ (varE 1) (cE (.int 0))) (binE ixQ (varE 0) (cE (.int 1))))) (consA (binE mulD (binE ixQ (varE 0) (cE (.int 1))) (binE ixQ (varE 1) (cE (.int 1)))) nilA))))
def f_law_less : List D → Option D := funV 2 den_law_less
theorem ok_law_less (B : Blt mg) (h_law_f : DefOk P w K mg base 1 "_law_f" s_law_f ["upper", "lower"] (spV K 2 f_law_f)) {fa : Addr} {fd : FuncData} (F : Fun K "_law_less" "_law_less" s_law_less fa fd) (hm : mg "_law_less" = some (.ref fa)) : DefOk P w K mg base 2 "_law_less" s_law_less ["one", "two"] (spV K 2 f_law_less) :=
  ⟨fa, fd, F, fn_V (own' := []) (ol := []) F sc_law_less (fun _ _ _ _ _ _ _ _ hr => (dss_one (ds_ret (de_callD h_law_f hr (da_cons (de_sub (DE.up (de_mul (DE.up (de_ix (DE.up (de_var (pv 0) rfl)) (DE.up de_int))) (DE.up (de_ix (DE.up (de_var (pv 1) rfl)) (DE.up de_int))))) (DE.up (de_mul (DE.up (de_ix (DE.up (de_var (pv 1) rfl)) (DE.up de_int))) (DE.up (de_ix (DE.up (de_var (pv 0) rfl)) (DE.up de_int)))))) (da_cons (de_mul (DE.up (de_ix (DE.up (de_var (pv 0) rfl)) (DE.up de_int))) (DE.up (de_ix (DE.up (de_var (pv 1) rfl)) (DE.up de_int)))) da_nil)) (chk_cons (chk_cons chk_nil)))))), hm, F.binds fun _ _ _ _ _ _ us hl => match us, hl with | [_, _], _ => rfl⟩
abbrev s_law_times : Stmt := stm 58
abbrev N_law_times : List Str := ["one", "two"]
theorem sc_law_times : FnScope N_law_times ["one", "two"] (defScope s_law_times) := ⟨rfl, rfl, rfl, by decide +kernel, rfl, by decide +kernel, by decide +kernel⟩
def den_law_times : SF := (retS (callE f_law_f (consA (binE mulD (binE ixQ (varE 0) (cE (.int 0))) (binE ixQ (varE 1) (cE (.int 0)))) (consA (binE mulD (binE ixQ (varE 0) (cE (.int 1))) (binE ixQ (varE 1) (cE (.int 1)))) nilA))))
def f_law_times : List D → Option D := funV 2 den_law_times
theorem ok_law_times (B : Blt mg) (h_law_f : DefOk P w K mg base 1 "_law_f" s_law_f ["upper", "lower"] (spV K 2 f_law_f)) {fa : Addr} {fd : FuncData} (F : Fun K "_law_times" "_law_times" s_law_times fa fd) (hm : mg "_law_times" = some (.ref fa)) : DefOk P w K mg base 2 "_law_times" s_law_times ["one", "two"] (spV K 2 f_law_times) :=
  ⟨fa, fd, F, fn_V (own' := []) (ol := []) F sc_law_times (fun _ _ _ _ _ _ _ _ hr => (dss_one (ds_ret (de_callD h_law_f hr (da_cons (de_mul (DE.up (de_ix (DE.up (de_var (pv 0) rfl)) (DE.up de_int))) (DE.up (de_ix (DE.up (de_var (pv 1) rfl)) (DE.up de_int)))) (da_cons (de_mul (DE.up (de_ix (DE.up (de_var (pv 0) rfl)) (DE.up de_int))) (DE.up (de_ix (DE.up (de_var (pv 1) rfl)) (DE.up de_int)))) da_nil)) (chk_cons (chk_cons chk_nil)))))), hm, F.binds fun _ _ _ _ _ _ us hl => match us, hl with | [_, _], _ => rfl⟩
abbrev s_law_over : Stmt := stm 59
abbrev N_law_over : List Str := ["one", "two"]
theorem sc_law_over : FnScope N_law_over ["one", "two"] (defScope s_law_over) := ⟨rfl, rfl, rfl, by decide +kernel, rfl, by decide +kernel, by decide +kernel⟩
def den_law_over : SF := (retS (callE f_law_f (consA (binE mulD (binE ixQ (varE 0) (cE (.int 0))) (binE ixQ (varE 1) (cE (.int 1)))) (consA (binE mulD (binE ixQ (varE 0) (cE (.int 1))) (binE ixQ (varE 1) (cE (.int 0)))) nilA))))
def f_law_over : List D → Option D := funV 2 den_law_over
theorem ok_law_over (B : Blt mg) (h_law_f : DefOk P w K mg base 1 "_law_f" s_law_f ["upper", "lower"] (spV K 2 f_law_f)) {fa : Addr} {fd : FuncData} (F : Fun K "_law_over" "_law_over" s_law_over fa fd) (hm : mg "_law_over" = some (.ref fa)) : DefOk P w K mg base 2 "_law_over" s_law_over ["one", "two"] (spV K 2 f_law_over) :=
  ⟨fa, fd, F, fn_V (own' := []) (ol := []) F sc_law_over (fun _ _ _ _ _ _ _ _ hr => (dss_one (ds_ret (de_callD h_law_f hr (da_cons (de_mul (DE.up (de_ix (DE.up (de_var (pv 0) rfl)) (DE.up de_int))) (DE.up (de_ix (DE.up (de_var (pv 1) rfl)) (DE.up de_int)))) (da_cons (de_mul (DE.up (de_ix (DE.up (de_var (pv 0) rfl)) (DE.up de_int))) (DE.up (de_ix (DE.up (de_var (pv 1) rfl)) (DE.up de_int)))) da_nil)) (chk_cons (chk_cons chk_nil)))))), hm, F.binds fun _ _ _ _ _ _ us hl => match us, hl with | [_, _], _ => rfl⟩
abbrev s_law_product : Stmt := stm 60
abbrev N_law_product : List Str := ["one", "two", "found", "at", "mine", "spot", "its"]
theorem sc_law_product : FnScope N_law_product ["one", "two"] (defScope s_law_product) := ⟨rfl, rfl, rfl, by decide +kernel, rfl, by decide +kernel, by decide +kernel⟩
def den_law_product : SF := (seqS (asgS (binE repD (lstE (consA (tupE (consA (cE (.int 0)) (consA (cE (.int 1)) nilA))) nilA)) (binE subD (binE addD (unE lenQ (varE 0)) (unE lenQ (varE 1))) (cE (.int 1)))) (nameG 2)) (seqS (forS (enumA (varE 0)) (tupG 2 (consG (nameG 3) (consG (nameG 4) nilG))) (forS (enumA (varE 1)) (tupG 2 (consG (nameG 5) (consG (nameG 6) nilG))) (setS 2 (binE addD (varE 3) (varE 5)) (callE f_law_plus (consA (binE ixQ (varE 2) (binE addD (varE 3) (varE 5))) (consA (callE f_law_times (consA (varE 4) (consA (varE 6) nilA))) nilA)))))) (retS (varE 2))))
def f_law_product : List D → Option D := funN 7 den_law_product
theorem ok_law_product (B : Blt mg) (h_law_plus : DefOk P w K mg base 2 "_law_plus" s_law_plus ["one", "two"] (spV K 2 f_law_plus)) (h_law_times : DefOk P w K mg base 2 "_law_times" s_law_times ["one", "two"] (spV K 2 f_law_times)) {fa : Addr} {fd : FuncData} (F : Fun K "_law_product" "_law_product" s_law_product fa fd) (hm : mg "_law_product" = some (.ref fa)) : DefOk P w K mg base 3 "_law_product" s_law_product ["one", "two"] (spN K 2 f_law_product) :=
  ⟨fa, fd, F, fn_N (own' := []) (ol := []) F sc_law_product (fun _ _ _ _ _ _ _ _ hr => (dss_cons (asgK_of (k := true) (ps_set (i := 2) sc_law_product.nd rfl (.inl rfl) (dk_ofN (dn_rep (DE.up (DN.de (dn_lst (da_cons (de_tup (da_cons de_int (da_cons de_int da_nil))) da_nil)))) (DE.up (de_sub (DE.up (de_add (DE.up (de_b1 c1_len (pe_callB call_len (by rfl) B.len PySem.boot_len (pa_cons (DE.up (de_var (pv 0) rfl)) pa_nil)))) (DE.up (de_b1 c1_len (pe_callB call_len (by rfl) B.len PySem.boot_len (pa_cons (DE.up (de_var (pv 1) rfl)) pa_nil)))))) (DE.up de_int)))))) (fun _ _ _ q => q) (.inl rfl) (.inl rfl)) (dss_cons (ds_for PassesOwn.never rfl (di_enumA rfl (pi_enumA rfl B.enumerate (pa_cons (de_var (pv 0) rfl) pa_nil))) (dg_tup rfl (dgs_cons (dg_name (pg_name (i := 3) sc_law_product.nd rfl (.inl rfl)) rfl (.inl rfl)) (dgs_cons (dg_name (pg_name (i := 4) sc_law_product.nd rfl (.inl rfl)) rfl (.inl rfl)) dgs_nil))) (dss_one (ds_for PassesOwn.never rfl (di_enumA rfl (pi_enumA rfl B.enumerate (pa_cons (de_var (pv 1) rfl) pa_nil))) (dg_tup rfl (dgs_cons (dg_name (pg_name (i := 5) sc_law_product.nd rfl (.inl rfl)) rfl (.inl rfl)) (dgs_cons (dg_name (pg_name (i := 6) sc_law_product.nd rfl (.inl rfl)) rfl (.inl rfl)) dgs_nil))) (dss_one (ds_set (ps_asg (de_callD h_law_plus hr (da_cons (de_ix (de_varO (pv 2) rfl) (DE.up (de_add (DE.up (de_var (pv 3) rfl)) (DE.up (de_var (pv 5) rfl))))) (da_cons (de_callD h_law_times hr (da_cons (de_var (pv 4) rfl) (da_cons (de_var (pv 6) rfl) da_nil)) (chk_cons (chk_cons chk_nil))) da_nil)) (chk_cons (chk_cons chk_nil))) (pg_sub (pv 2) (DE.up (de_add (DE.up (de_var (pv 3) rfl)) (DE.up (de_var (pv 5) rfl)))) set_list))))))) (dss_one (ds_retO (pv 2)))))), hm, F.binds fun _ _ _ _ _ _ us hl => match us, hl with | [_, _], _ => rfl⟩
abbrev s_law_known : Stmt := stm 61
abbrev N_law_known : List Str := ["nil", "one", "half", "step", "found"]
theorem sc_law_known : FnScope N_law_known [] (defScope s_law_known) := ⟨rfl, rfl, rfl, by decide +kernel, rfl, by decide +kernel, by decide +kernel⟩
def den_law_known : SF := (seqS (asgS (tupE (consA (tupE (consA (cE (.int 0)) (consA (cE (.int 1)) nilA))) (consA (tupE (consA (cE (.int 1)) (consA (cE (.int 1)) nilA))) (consA (tupE (consA (cE (.int 1)) (consA (cE (.int 2)) nilA))) nilA)))) (tupG 3 (consG (nameG 0) (consG (nameG 1) (consG (nameG 2) nilG))))) (seqS (asgS (tupE (consA (tupE (consA (unE negQ (cE (.int 1))) (consA (cE (.int 1)) nilA))) (consA (varE 1) nilA))) (nameG 3)) (seqS (asgS (lstE (consA (tupE (consA (varE 3) (consA (tupE (consA (varE 1) (consA (varE 0) nilA))) nilA))) (consA (tupE (consA (varE 3) (consA (tupE (consA (varE 0) (consA (varE 1) nilA))) nilA))) (consA (tupE (consA (varE 3) (consA (tupE (consA (varE 2) (consA (varE 2) nilA))) nilA))) (consA (tupE (consA (varE 3) (consA (tupE (consA (tupE (consA (cE (.int 1)) (consA (cE (.int 3)) nilA))) (consA (tupE (consA (cE (.int 2)) (consA (cE (.int 3)) nilA))) nilA))) nilA))) nilA))))) (nameG 4)) (seqS (asgS (binE catD (varE 4) (lstE (consA (tupE (consA (tupE (consA (tupE (consA (unE negQ (cE (.int 1))) (consA (cE (.int 1)) nilA))) (consA (varE 0) (consA (varE 1) nilA)))) (consA (tupE (consA (varE 0) (consA (tupE (consA (cE (.int 2)) (consA (cE (.int 1)) nilA))) (consA (varE 0) nilA)))) nilA))) (consA (tupE (consA (tupE (consA (varE 2) (consA (tupE (consA (unE negQ (cE (.int 2))) (consA (cE (.int 1)) nilA))) (consA (tupE (consA (cE (.int 3)) (consA (cE (.int 2)) nilA))) nilA)))) (consA (tupE (consA (varE 0) (consA (varE 0) (consA (varE 1) nilA)))) nilA))) nilA)))) (nameG 4)) (seqS (asgS (binE catD (varE 4) (lstE (consA (tupE (consA (tupE (consA (varE 0) (consA (tupE (consA (unE negQ (cE (.int 1))) (consA (cE (.int 1)) nilA))) (consA (varE 1) nilA)))) (consA (tupE (consA (tupE (consA (unE negQ (cE (.int 1))) (consA (cE (.int 2)) nilA))) (consA (tupE (consA (cE (.int 3)) (consA (cE (.int 2)) nilA))) (consA (varE 0) nilA)))) nilA))) (consA (tupE (consA (tupE (consA (varE 0) (consA (tupE (consA (unE negQ (cE (.int 1))) (consA (cE (.int 1)) nilA))) (consA (varE 1) nilA)))) (consA (tupE (consA (tupE (consA (unE negQ (cE (.int 1))) (consA (cE (.int 12)) nilA))) (consA (tupE (consA (cE (.int 2)) (consA (cE (.int 3)) nilA))) (consA (tupE (consA (cE (.int 5)) (consA (cE (.int 12)) nilA))) nilA)))) nilA))) nilA)))) (nameG 4)) (seqS (asgS (binE catD (varE 4) (lstE (consA (tupE (consA (tupE (consA (tupE (consA (unE negQ (cE (.int 1))) (consA (cE (.int 1)) nilA))) (consA (varE 0) (consA (varE 1) nilA)))) (consA (tupE (consA (tupE (consA (cE (.int 1)) (consA (cE (.int 3)) nilA))) (consA (tupE (consA (cE (.int 4)) (consA (cE (.int 3)) nilA))) (consA (tupE (consA (cE (.int 1)) (consA (cE (.int 3)) nilA))) nilA)))) nilA))) (consA (tupE (consA (tupE (consA (tupE (consA (unE negQ (cE (.int 5))) (consA (cE (.int 1)) nilA))) (consA (tupE (consA (cE (.int 4)) (consA (cE (.int 1)) nilA))) (consA (varE 1) nilA)))) (consA (tupE (consA (tupE (consA (cE (.int 2)) (consA (cE (.int 1)) nilA))) (consA (tupE (consA (cE (.int 4)) (consA (cE (.int 1)) nilA))) (consA (varE 0) nilA)))) nilA))) nilA)))) (nameG 4)) (seqS (appS 4 (tupE (consA (tupE (consA (tupE (consA (unE negQ (cE (.int 1))) (consA (cE (.int 3)) nilA))) (consA (tupE (consA (cE (.int 3)) (consA (cE (.int 2)) nilA))) (consA (tupE (consA (unE negQ (cE (.int 3))) (consA (cE (.int 1)) nilA))) (consA (tupE (consA (cE (.int 11)) (consA (cE (.int 6)) nilA))) nilA))))) (consA (tupE (consA (varE 0) (consA (varE 0) (consA (varE 0) (consA (varE 1) nilA))))) nilA)))) (seqS (appS 4 (tupE (consA (tupE (consA (varE 0) (consA (varE 0) (consA (tupE (consA (unE negQ (cE (.int 1))) (consA (cE (.int 1)) nilA))) (consA (varE 1) nilA))))) (consA (tupE (consA (tupE (consA (cE (.int 5)) (consA (cE (.int 12)) nilA))) (consA (tupE (consA (unE negQ (cE (.int 4))) (consA (cE (.int 3)) nilA))) (consA (tupE (consA (cE (.int 23)) (consA (cE (.int 12)) nilA))) (consA (varE 0) nilA))))) nilA)))) (seqS (appS 4 (tupE (consA (tupE (consA (tupE (consA (cE (.int 1)) (consA (cE (.int 4)) nilA))) (consA (tupE (consA (unE negQ (cE (.int 4))) (consA (cE (.int 3)) nilA))) (consA (tupE (consA (cE (.int 3)) (consA (cE (.int 1)) nilA))) (consA (tupE (consA (unE negQ (cE (.int 4))) (consA (cE (.int 1)) nilA))) (consA (tupE (consA (cE (.int 25)) (consA (cE (.int 12)) nilA))) nilA)))))) (consA (tupE (consA (varE 0) (consA (varE 0) (consA (varE 0) (consA (varE 0) (consA (varE 1) nilA)))))) nilA)))) (retS (varE 4)))))))))))
def f_law_known : List D → Option D := funN 5 den_law_known
theorem ok_law_known (B : Blt mg) {fa : Addr} {fd : FuncData} (F : Fun K "_law_known" "_law_known" s_law_known fa fd) (hm : mg "_law_known" = some (.ref fa)) : DefOk P w K mg base 1 "_law_known" s_law_known [] (spN K 0 f_law_known) :=
  ⟨fa, fd, F, fn_N (own' := []) (ol := []) F sc_law_known (fun _ _ _ _ _ _ _ _ hr => (dss_cons (asg_of (ps_asg (de_tup (da_cons (de_tup (da_cons de_int (da_cons de_int da_nil))) (da_cons (de_tup (da_cons de_int (da_cons de_int da_nil))) (da_cons (de_tup (da_cons de_int (da_cons de_int da_nil))) da_nil)))) (dg_tup rfl (dgs_cons (dg_name (pg_name (i := 0) sc_law_known.nd rfl (.inl rfl)) rfl (.inl rfl)) (dgs_cons (dg_name (pg_name (i := 1) sc_law_known.nd rfl (.inl rfl)) rfl (.inl rfl)) (dgs_cons (dg_name (pg_name (i := 2) sc_law_known.nd rfl (.inl rfl)) rfl (.inl rfl)) dgs_nil))))) (fun _ _ _ q => q) (fun _ _ _ _ q => q)) (dss_cons (asgK_of (k := false) (ps_set (i := 3) sc_law_known.nd rfl (.inl rfl) (dk_of (de_tup (da_cons (de_tup (da_cons (de_neg (DE.up de_int)) (da_cons de_int da_nil))) (da_cons (de_var (pv 1) rfl) da_nil))))) (fun _ _ _ q => q) (.inl rfl) (.inr rfl)) (dss_cons (asgK_of (k := true) (ps_set (i := 4) sc_law_known.nd rfl (.inl rfl) (dk_ofN (dn_lst (da_cons (de_tup (da_cons (de_var (pv 3) rfl) (da_cons (de_tup (da_cons (de_var (pv 1) rfl) (da_cons (de_var (pv 0) rfl) da_nil))) da_nil))) (da_cons (de_tup (da_cons (de_var (pv 3) rfl) (da_cons (de_tup (da_cons (de_var (pv 0) rfl) (da_cons (de_var (pv 1) rfl) da_nil))) da_nil))) (da_cons (de_tup (da_cons (de_var (pv 3) rfl) (da_cons (de_tup (da_cons (de_var (pv 2) rfl) (da_cons (de_var (pv 2) rfl) da_nil))) da_nil))) (da_cons (de_tup (da_cons (de_var (pv 3) rfl) (da_cons (de_tup (da_cons (de_tup (da_cons de_int (da_cons de_int da_nil))) (da_cons (de_tup (da_cons de_int (da_cons de_int da_nil))) da_nil))) da_nil))) da_nil))))))) (fun _ _ _ q => q) (.inl rfl) (.inl rfl)) (dss_cons (asgK_of (k := true) (ps_set (i := 4) sc_law_known.nd rfl (.inl rfl) (dk_ofN (dn_cat (de_varO (pv 4) rfl) (DE.up (DN.de (dn_lst (da_cons (de_tup (da_cons (de_tup (da_cons (de_tup (da_cons (de_neg (DE.up de_int)) (da_cons de_int da_nil))) (da_cons (de_var (pv 0) rfl) (da_cons (de_var (pv 1) rfl) da_nil)))) (da_cons (de_tup (da_cons (de_var (pv 0) rfl) (da_cons (de_tup (da_cons de_int (da_cons de_int da_nil))) (da_cons (de_var (pv 0) rfl) da_nil)))) da_nil))) (da_cons (de_tup (da_cons (de_tup (da_cons (de_var (pv 2) rfl) (da_cons (de_tup (da_cons (de_neg (DE.up de_int)) (da_cons de_int da_nil))) (da_cons (de_tup (da_cons de_int (da_cons de_int da_nil))) da_nil)))) (da_cons (de_tup (da_cons (de_var (pv 0) rfl) (da_cons (de_var (pv 0) rfl) (da_cons (de_var (pv 1) rfl) da_nil)))) da_nil))) da_nil)))))))) (fun _ _ _ q => q) (.inl rfl) (.inl rfl)) (dss_cons (asgK_of (k := true) (ps_set (i := 4) sc_law_known.nd rfl (.inl rfl) (dk_ofN (dn_cat (de_varO (pv 4) rfl) (DE.up (DN.de (dn_lst (da_cons (de_tup (da_cons (de_tup (da_cons (de_var (pv 0) rfl) (da_cons (de_tup (da_cons (de_neg (DE.up de_int)) (da_cons de_int da_nil))) (da_cons (de_var (pv 1) rfl) da_nil)))) (da_cons (de_tup (da_cons (de_tup (da_cons (de_neg (DE.up de_int)) (da_cons de_int da_nil))) (da_cons (de_tup (da_cons de_int (da_cons de_int da_nil))) (da_cons (de_var (pv 0) rfl) da_nil)))) da_nil))) (da_cons (de_tup (da_cons (de_tup (da_cons (de_var (pv 0) rfl) (da_cons (de_tup (da_cons (de_neg (DE.up de_int)) (da_cons de_int da_nil))) (da_cons (de_var (pv 1) rfl) da_nil)))) (da_cons (de_tup (da_cons (de_tup (da_cons (de_neg (DE.up de_int)) (da_cons de_int da_nil))) (da_cons (de_tup (da_cons de_int (da_cons de_int da_nil))) (da_cons (de_tup (da_cons de_int (da_cons de_int da_nil))) da_nil)))) da_nil))) da_nil)))))))) (fun _ _ _ q => q) (.inl rfl) (.inl rfl)) (dss_cons (asgK_of (k := true) (ps_set (i := 4) sc_law_known.nd rfl (.inl rfl) (dk_ofN (dn_cat (de_varO (pv 4) rfl) (DE.up (DN.de (dn_lst (da_cons (de_tup (da_cons (de_tup (da_cons (de_tup (da_cons (de_neg (DE.up de_int)) (da_cons de_int da_nil))) (da_cons (de_var (pv 0) rfl) (da_cons (de_var (pv 1) rfl) da_nil)))) (da_cons (de_tup (da_cons (de_tup (da_cons de_int (da_cons de_int da_nil))) (da_cons (de_tup (da_cons de_int (da_cons de_int da_nil))) (da_cons (de_tup (da_cons de_int (da_cons de_int da_nil))) da_nil)))) da_nil))) (da_cons (de_tup (da_cons (de_tup (da_cons (de_tup (da_cons (de_neg (DE.up de_int)) (da_cons de_int da_nil))) (da_cons (de_tup (da_cons de_int (da_cons de_int da_nil))) (da_cons (de_var (pv 1) rfl) da_nil)))) (da_cons (de_tup (da_cons (de_tup (da_cons de_int (da_cons de_int da_nil))) (da_cons (de_tup (da_cons de_int (da_cons de_int da_nil))) (da_cons (de_var (pv 0) rfl) da_nil)))) da_nil))) da_nil)))))))) (fun _ _ _ q => q) (.inl rfl) (.inl rfl)) (dss_cons (ds_app (ps_expr (pe_bm PySem.F.plainAttrs_list PySem.F.slot_list_append PySem.F.type_list_append mt_append (pv 4) (pa_cons (de_tup (da_cons (de_tup (da_cons (de_tup (da_cons (de_neg (DE.up de_int)) (da_cons de_int da_nil))) (da_cons (de_tup (da_cons de_int (da_cons de_int da_nil))) (da_cons (de_tup (da_cons (de_neg (DE.up de_int)) (da_cons de_int da_nil))) (da_cons (de_tup (da_cons de_int (da_cons de_int da_nil))) da_nil))))) (da_cons (de_tup (da_cons (de_var (pv 0) rfl) (da_cons (de_var (pv 0) rfl) (da_cons (de_var (pv 0) rfl) (da_cons (de_var (pv 1) rfl) da_nil))))) da_nil))) pa_nil)))) (dss_cons (ds_app (ps_expr (pe_bm PySem.F.plainAttrs_list PySem.F.slot_list_append PySem.F.type_list_append mt_append (pv 4) (pa_cons (de_tup (da_cons (de_tup (da_cons (de_var (pv 0) rfl) (da_cons (de_var (pv 0) rfl) (da_cons (de_tup (da_cons (de_neg (DE.up de_int)) (da_cons de_int da_nil))) (da_cons (de_var (pv 1) rfl) da_nil))))) (da_cons (de_tup (da_cons (de_tup (da_cons de_int (da_cons de_int da_nil))) (da_cons (de_tup (da_cons (de_neg (DE.up de_int)) (da_cons de_int da_nil))) (da_cons (de_tup (da_cons de_int (da_cons de_int da_nil))) (da_cons (de_var (pv 0) rfl) da_nil))))) da_nil))) pa_nil)))) (dss_cons (ds_app (ps_expr (pe_bm PySem.F.plainAttrs_list PySem.F.slot_list_append PySem.F.type_list_append mt_append (pv 4) (pa_cons (de_tup (da_cons (de_tup (da_cons (de_tup (da_cons de_int (da_cons de_int da_nil))) (da_cons (de_tup (da_cons (de_neg (DE.up de_int)) (da_cons de_int da_nil))) (da_cons (de_tup (da_cons de_int (da_cons de_int da_nil))) (da_cons (de_tup (da_cons (de_neg (DE.up de_int)) (da_cons de_int da_nil))) (da_cons (de_tup (da_cons de_int (da_cons de_int da_nil))) da_nil)))))) (da_cons (de_tup (da_cons (de_var (pv 0) rfl) (da_cons (de_var (pv 0) rfl) (da_cons (de_var (pv 0) rfl) (da_cons (de_var (pv 0) rfl) (da_cons (de_var (pv 1) rfl) da_nil)))))) da_nil))) pa_nil)))) (dss_one (ds_retO (pv 4))))))))))))), hm, F.binds fun _ _ _ _ _ _ us hl => match us, hl with | [], _ => rfl⟩
abbrev s_law_small : Stmt := stm 62
abbrev N_law_small : List Str := ["sack"]
theorem sc_law_small : FnScope N_law_small ["sack"] (defScope s_law_small) := ⟨rfl, rfl, rfl, by decide +kernel, rfl, by decide +kernel, by decide +kernel⟩
def den_law_small : SF := (retS (callE f_law_f (consA (binE subD (callS f_law_pull (consA (cE (.int 9)) nilA)) (cE (.int 4))) (consA (binE addD (cE (.int 1)) (callS f_law_pull (consA (cE (.int 3)) nilA))) nilA))))
def f_law_small : D → List D → Option (D × D) := funS 1 den_law_small
theorem ok_law_small (B : Blt mg) (h_law_f : DefOk P w K mg base 1 "_law_f" s_law_f ["upper", "lower"] (spV K 2 f_law_f)) (h_law_pull : DefOk P w K mg base 1 "_law_pull" s_law_pull ["sack", "many"] (spS K 1 f_law_pull)) {fa : Addr} {fd : FuncData} (F : Fun K "_law_small" "_law_small" s_law_small fa fd) (hm : mg "_law_small" = some (.ref fa)) : DefOk P w K mg base 2 "_law_small" s_law_small ["sack"] (spS K 0 f_law_small) :=
  ⟨fa, fd, F, fn_S (own' := []) (ol := []) F sc_law_small (by simp) (fun _ _ _ _ _ _ _ _ _ hr => (dss_one (ds_ret (de_callD h_law_f hr (da_cons (de_sub (DE.up (ds_callD h_law_pull hr (pv 0) (da_cons de_int da_nil) (chk_cons chk_nil))) (DE.up de_int)) (da_cons (de_add (DE.up de_int) (DE.up (ds_callD h_law_pull hr (pv 0) (da_cons de_int da_nil) (chk_cons chk_nil)))) da_nil)) (chk_cons (chk_cons chk_nil)))))), hm, F.binds fun _ _ _ _ _ _ us hl => match us, hl with | [_], _ => rfl⟩
abbrev s_law_drawn_first : Stmt := stm 63
abbrev N_law_drawn_first : List Str := ["sack", "steps", "found", "low", "middle", "root"]
theorem sc_law_drawn_first : FnScope N_law_drawn_first ["sack", "steps"] (defScope s_law_drawn_first) := ⟨rfl, rfl, rfl, by decide +kernel, rfl, by decide +kernel, by decide +kernel⟩
def den_law_drawn_first : SF := (seqS (asgS (lstE (consA (tupE (consA (unE negQ (cE (.int 1))) (consA (cE (.int 1)) nilA))) (consA (tupE (consA (cE (.int 1)) (consA (cE (.int 1)) nilA))) nilA))) (nameG 2)) (seqS (whS (tstB (binE (cmpQ leP) (unE lenQ (varE 2)) (varE 1))) (ifS (andB (tstB (binE (cmpQ ltP) (unE lenQ (varE 2)) (varE 1))) (tstB (binE eqQ (callS f_law_pull (consA (cE (.int 3)) nilA)) (cE (.int 0))))) (seqS (asgS (callS f_law_pick (consA (lstE (consA (tupE (consA (tupE (consA (cE (.int 1)) (consA (cE (.int 2)) nilA))) (consA (tupE (consA (cE (.int 0)) (consA (cE (.int 1)) nilA))) nilA))) (consA (tupE (consA (tupE (consA (cE (.int 1)) (consA (cE (.int 1)) nilA))) (consA (tupE (consA (cE (.int 0)) (consA (cE (.int 1)) nilA))) nilA))) (consA (tupE (consA (tupE (consA (cE (.int 1)) (consA (cE (.int 4)) nilA))) (consA (tupE (consA (cE (.int 1)) (consA (cE (.int 2)) nilA))) nilA))) (consA (tupE (consA (tupE (consA (cE (.int 1)) (consA (cE (.int 1)) nilA))) (consA (tupE (consA (cE (.int 6)) (consA (cE (.int 5)) nilA))) nilA))) (consA (tupE (consA (tupE (consA (cE (.int 3)) (consA (cE (.int 4)) nilA))) (consA (tupE (consA (unE negQ (cE (.int 1))) (consA (cE (.int 1)) nilA))) nilA))) nilA)))))) nilA)) (tupG 2 (consG (nameG 3) (consG (nameG 4) nilG)))) (asgS (callE f_law_product (consA (varE 2) (consA (lstE (consA (varE 3) (consA (varE 4) (consA (tupE (consA (cE (.int 1)) (consA (cE (.int 1)) nilA))) nilA)))) nilA))) (nameG 2))) (seqS (asgS (callS f_law_pick (consA (lstE (consA (tupE (consA (cE (.int 0)) (consA (cE (.int 1)) nilA))) (consA (tupE (consA (cE (.int 0)) (consA (cE (.int 1)) nilA))) (consA (tupE (consA (cE (.int 1)) (consA (cE (.int 2)) nilA))) (consA (tupE (consA (unE negQ (cE (.int 1))) (consA (cE (.int 2)) nilA))) (consA (tupE (consA (cE (.int 1)) (consA (cE (.int 3)) nilA))) (consA (tupE (consA (unE negQ (cE (.int 1))) (consA (cE (.int 3)) nilA))) (consA (tupE (consA (unE negQ (cE (.int 1))) (consA (cE (.int 1)) nilA))) (consA (tupE (consA (cE (.int 1)) (consA (cE (.int 1)) nilA))) (consA (tupE (consA (cE (.int 3)) (consA (cE (.int 2)) nilA))) (consA (tupE (consA (cE (.int 2)) (consA (cE (.int 5)) nilA))) nilA))))))))))) nilA)) (nameG 5)) (asgS (callE f_law_product (consA (varE 2) (consA (lstE (consA (tupE (consA (unE negQ (binE ixQ (varE 5) (cE (.int 0)))) (consA (binE ixQ (varE 5) (cE (.int 1))) nilA))) (consA (tupE (consA (cE (.int 1)) (consA (cE (.int 1)) nilA))) nilA))) nilA))) (nameG 2))))) (retS (varE 2))))
def f_law_drawn_first : D → List D → Option (D × D) := funS 6 den_law_drawn_first
theorem ok_law_drawn_first (B : Blt mg) (h_law_pick : DefOk P w K mg base 2 "_law_pick" s_law_pick ["sack", "some"] (spS K 1 f_law_pick)) (h_law_product : DefOk P w K mg base 3 "_law_product" s_law_product ["one", "two"] (spN K 2 f_law_product)) (h_law_pull : DefOk P w K mg base 1 "_law_pull" s_law_pull ["sack", "many"] (spS K 1 f_law_pull)) {fa : Addr} {fd : FuncData} (F : Fun K "_law_drawn_first" "_law_drawn_first" s_law_drawn_first fa fd) (hm : mg "_law_drawn_first" = some (.ref fa)) : DefOk P w K mg base 4 "_law_drawn_first" s_law_drawn_first ["sack", "steps"] (spS K 1 f_law_drawn_first) :=
  ⟨fa, fd, F, fn_S (own' := []) (ol := []) F sc_law_drawn_first (by simp) (fun _ _ _ _ _ _ _ _ _ hr => (dss_cons (asgK_of (k := false) (ps_set (i := 2) sc_law_drawn_first.nd rfl (.inl rfl) (dk_of (DN.de (dn_lst (da_cons (de_tup (da_cons (de_neg (DE.up de_int)) (da_cons de_int da_nil))) (da_cons (de_tup (da_cons de_int (da_cons de_int da_nil))) da_nil)))))) (fun _ _ _ q => q) (.inr (by decide)) (.inr rfl)) (dss_cons (ds_while PassesOwn.never (dt_le (DE.up (de_b1 c1_len (pe_callB call_len (by rfl) B.len PySem.boot_len (pa_cons (DE.up (de_var (pv 2) rfl)) pa_nil)))) (DE.up (de_var (pv 1) rfl))) (dss_one (ds_if (PW.pt (dw_and (dt_lt (DE.up (de_b1 c1_len (pe_callB call_len (by rfl) B.len PySem.boot_len (pa_cons (DE.up (de_var (pv 2) rfl)) pa_nil)))) (DE.up (de_var (pv 1) rfl))) (dw_and1 (dt_eq hr.units (DE.up (ds_callD h_law_pull (hr.mono (by decide)) (pv 0) (da_cons de_int da_nil) (chk_cons chk_nil))) (DE.up de_int))))) (dss_cons (asg_of (ps_asg (ds_callD h_law_pick (hr.mono (by decide)) (pv 0) (da_cons (DN.de (dn_lst (da_cons (de_tup (da_cons (de_tup (da_cons de_int (da_cons de_int da_nil))) (da_cons (de_tup (da_cons de_int (da_cons de_int da_nil))) da_nil))) (da_cons (de_tup (da_cons (de_tup (da_cons de_int (da_cons de_int da_nil))) (da_cons (de_tup (da_cons de_int (da_cons de_int da_nil))) da_nil))) (da_cons (de_tup (da_cons (de_tup (da_cons de_int (da_cons de_int da_nil))) (da_cons (de_tup (da_cons de_int (da_cons de_int da_nil))) da_nil))) (da_cons (de_tup (da_cons (de_tup (da_cons de_int (da_cons de_int da_nil))) (da_cons (de_tup (da_cons de_int (da_cons de_int da_nil))) da_nil))) (da_cons (de_tup (da_cons (de_tup (da_cons de_int (da_cons de_int da_nil))) (da_cons (de_tup (da_cons (de_neg (DE.up de_int)) (da_cons de_int da_nil))) da_nil))) da_nil))))))) da_nil) (chk_cons chk_nil)) (dg_tup rfl (dgs_cons (dg_name (pg_name (i := 3) sc_law_drawn_first.nd rfl (.inl rfl)) rfl (.inr (by decide))) (dgs_cons (dg_name (pg_name (i := 4) sc_law_drawn_first.nd rfl (.inl rfl)) rfl (.inr (by decide))) dgs_nil)))) (fun _ _ _ q => q) (fun _ _ _ _ q => q)) (dss_one (asgK_of (k := false) (ps_set (i := 2) sc_law_drawn_first.nd rfl (.inl rfl) (dk_of (DN.de (dn_callD h_law_product hr (da_cons (de_var (pv 2) rfl) (da_cons (DN.de (dn_lst (da_cons (de_var (pv 3) rfl) (da_cons (de_var (pv 4) rfl) (da_cons (de_tup (da_cons de_int (da_cons de_int da_nil))) da_nil))))) da_nil)) (chk_cons (chk_cons chk_nil)))))) (fun _ _ _ q => q) (.inr (by decide)) (.inr rfl)))) (dss_cons (asgK_of (k := false) (ps_set (i := 5) sc_law_drawn_first.nd rfl (.inl rfl) (dk_of (ds_callD h_law_pick (hr.mono (by decide)) (pv 0) (da_cons (DN.de (dn_lst (da_cons (de_tup (da_cons de_int (da_cons de_int da_nil))) (da_cons (de_tup (da_cons de_int (da_cons de_int da_nil))) (da_cons (de_tup (da_cons de_int (da_cons de_int da_nil))) (da_cons (de_tup (da_cons (de_neg (DE.up de_int)) (da_cons de_int da_nil))) (da_cons (de_tup (da_cons de_int (da_cons de_int da_nil))) (da_cons (de_tup (da_cons (de_neg (DE.up de_int)) (da_cons de_int da_nil))) (da_cons (de_tup (da_cons (de_neg (DE.up de_int)) (da_cons de_int da_nil))) (da_cons (de_tup (da_cons de_int (da_cons de_int da_nil))) (da_cons (de_tup (da_cons de_int (da_cons de_int da_nil))) (da_cons (de_tup (da_cons de_int (da_cons de_int da_nil))) da_nil)))))))))))) da_nil) (chk_cons chk_nil)))) (fun _ _ _ q => q) (.inr (by decide)) (.inr rfl)) (dss_one (asgK_of (k := false) (ps_set (i := 2) sc_law_drawn_first.nd rfl (.inl rfl) (dk_of (DN.de (dn_callD h_law_product hr (da_cons (de_var (pv 2) rfl) (da_cons (DN.de (dn_lst (da_cons (de_tup (da_cons (de_neg (DE.up (de_ix (DE.up (de_var (pv 5) rfl)) (DE.up de_int)))) (da_cons (de_ix (DE.up (de_var (pv 5) rfl)) (DE.up de_int)) da_nil))) (da_cons (de_tup (da_cons de_int (da_cons de_int da_nil))) da_nil)))) da_nil)) (chk_cons (chk_cons chk_nil)))))) (fun _ _ _ q => q) (.inr (by decide)) (.inr rfl))))))) (dss_one (ds_ret (de_var (pv 2) rfl)))))), hm, F.binds fun _ _ _ _ _ _ us hl => match us, hl with | [_, _], _ => rfl⟩
abbrev s_law_drawn_rule : Stmt := stm 64
abbrev N_law_drawn_rule : List Str := ["sack", "most", "way", "steps", "first", "second", "left", "at", "spot", "by", "rule", "each"]
theorem sc_law_drawn_rule : FnScope N_law_drawn_rule ["sack", "most"] (defScope s_law_drawn_rule) := ⟨rfl, rfl, rfl, by decide +kernel, rfl, by decide +kernel, by decide +kernel⟩
def den_law_drawn_rule : SF := (seqS (asgS (callS f_law_pull (consA (cE (.int 6)) nilA)) (nameG 2)) (seqS (ifS (tstB (binE eqQ (varE 2) (cE (.int 0)))) (retS (callS f_law_pick (consA (lcE (seqI (callE f_law_known nilA)) (nameG 10) (tstB (binE (cmpQ leP) (unE lenQ (binE ixQ (varE 10) (cE (.int 0)))) (binE addD (varE 1) (cE (.int 1))))) (varE 10) [10]) nilA))) nxS) (seqS (asgS (binE addD (cE (.int 1)) (callS f_law_pull (consA (varE 1) nilA))) (nameG 3)) (seqS (asgS (callS f_law_drawn_first (consA (varE 3) nilA)) (nameG 4)) (seqS (ifS (tstB (binE eqQ (varE 2) (cE (.int 5)))) (asgS (binE catD (lcE (rng1I (varE 3)) (nameG 11) yesB (callS f_law_small nilA) [11]) (lstE (consA (callE f_law_f (consA (binE addD (cE (.int 1)) (callS f_law_pull (consA (cE (.int 4)) nilA))) (consA (binE addD (cE (.int 1)) (callS f_law_pull (consA (cE (.int 2)) nilA))) nilA))) nilA))) (nameG 4)) nxS) (seqS (asgS (lcE (seqI (varE 4)) (nameG 11) yesB (callS f_law_small nilA) [11]) (nameG 5)) (seqS (ifS (tstB (binE eqQ (varE 2) (cE (.int 1)))) (setS 5 (unE negQ (cE (.int 1))) (tupE (consA (cE (.int 0)) (consA (cE (.int 1)) nilA)))) nxS) (seqS (ifS (tstB (binE eqQ (varE 2) (cE (.int 2)))) (asgS (binE catD (binE repD (lstE (consA (tupE (consA (cE (.int 0)) (consA (cE (.int 1)) nilA))) nilA)) (varE 3)) (lstE (consA (callE f_law_f (consA (binE addD (cE (.int 1)) (callS f_law_pull (consA (cE (.int 4)) nilA))) (consA (binE addD (cE (.int 1)) (callS f_law_pull (consA (cE (.int 3)) nilA))) nilA))) nilA))) (nameG 5)) nxS) (seqS (ifS (andB (tstB (binE (cmpQ gtP) (varE 2) (cE (.int 1)))) (tstB (binE (cmpQ ltP) (varE 2) (cE (.int 5))))) (seqS (asgS (tupE (consA (cE (.int 0)) (consA (cE (.int 1)) nilA))) (nameG 6)) (seqS (forS (rng1I (unE lenQ (varE 4))) (nameG 7) (asgS (callE f_law_less (consA (callE f_law_plus (consA (varE 6) (consA (callE f_law_times (consA (binE ixQ (varE 4) (varE 7)) (consA (tupE (consA (varE 7) (consA (cE (.int 1)) nilA))) nilA))) nilA))) (consA (binE ixQ (varE 5) (varE 7)) nilA))) (nameG 6))) (seqS (asgS (ifE (tstB (binE eqQ (varE 2) (cE (.int 2)))) (varE 3) (callS f_law_pull (consA (unE lenQ (varE 5)) nilA))) (nameG 8)) (setS 5 (varE 8) (callE f_law_plus (consA (binE ixQ (varE 5) (varE 8)) (consA (varE 6) nilA))))))) nxS) (seqS (asgS (callS f_law_pick (consA (lstE (consA (tupE (consA (cE (.int 1)) (consA (cE (.int 1)) nilA))) (consA (tupE (consA (cE (.int 1)) (consA (cE (.int 1)) nilA))) (consA (tupE (consA (cE (.int 2)) (consA (cE (.int 1)) nilA))) (consA (tupE (consA (unE negQ (cE (.int 1))) (consA (cE (.int 2)) nilA))) nilA))))) nilA)) (nameG 9)) (retS (tupE (consA (unE tupQ (lcE (seqI (varE 4)) (nameG 11) yesB (callE f_law_times (consA (varE 11) (consA (varE 9) nilA))) [11])) (consA (unE tupQ (lcE (seqI (varE 5)) (nameG 11) yesB (callE f_law_times (consA (varE 11) (consA (varE 9) nilA))) [11])) nilA))))))))))))))
def f_law_drawn_rule : D → List D → Option (D × D) := funS 12 den_law_drawn_rule
theorem ok_law_drawn_rule (B : Blt mg) (h_law_drawn_first : DefOk P w K mg base 4 "_law_drawn_first" s_law_drawn_first ["sack", "steps"] (spS K 1 f_law_drawn_first)) (h_law_f : DefOk P w K mg base 1 "_law_f" s_law_f ["upper", "lower"] (spV K 2 f_law_f)) (h_law_known : DefOk P w K mg base 1 "_law_known" s_law_known [] (spN K 0 f_law_known)) (h_law_less : DefOk P w K mg base 2 "_law_less" s_law_less ["one", "two"] (spV K 2 f_law_less)) (h_law_pick : DefOk P w K mg base 2 "_law_pick" s_law_pick ["sack", "some"] (spS K 1 f_law_pick)) (h_law_plus : DefOk P w K mg base 2 "_law_plus" s_law_plus ["one", "two"] (spV K 2 f_law_plus)) (h_law_pull : DefOk P w K mg base 1 "_law_pull" s_law_pull ["sack", "many"] (spS K 1 f_law_pull)) (h_law_small : DefOk P w K mg base 2 "_law_small" s_law_small ["sack"] (spS K 0 f_law_small)) (h_law_times : DefOk P w K mg base 2 "_law_times" s_law_times ["one", "two"] (spV K 2 f_law_times)) {fa : Addr} {fd : FuncData} (F : Fun K "_law_drawn_rule" "_law_drawn_rule" s_law_drawn_rule fa fd) (hm : mg "_law_drawn_rule" = some (.ref fa)) : DefOk P w K mg base 5 "_law_drawn_rule" s_law_drawn_rule ["sack", "most"] (spS K 1 f_law_drawn_rule) :=
  ⟨fa, fd, F, fn_S (own' := []) (ol := []) F sc_law_drawn_rule (by simp) (fun _ _ _ _ _ _ _ _ _ hr => (dss_cons (asgK_of (k := false) (ps_set (i := 2) sc_law_drawn_rule.nd rfl (.inl rfl) (dk_of (ds_callD h_law_pull (hr.mono (by decide)) (pv 0) (da_cons de_int da_nil) (chk_cons chk_nil)))) (fun _ _ _ q => q) (.inr (by decide)) (.inr rfl)) (dss_cons (ds_if (dt_eq hr.units (DE.up (de_var (pv 2) rfl)) (DE.up de_int)) (dss_one (ds_ret (ds_callD h_law_pick (hr.mono (by decide)) (pv 0) (da_cons (DN.de (dn_lc (pe_lc (own := [("rule", 10)]) rfl sc_law_drawn_rule.nd (di_seq (DN.de (dn_callD0 h_law_known (hr.mono (by decide))))) (blkOk_by (N := N_law_drawn_rule) (sc := defScope s_law_drawn_rule) (own := [("rule", 10)]) (by decide +kernel)) (fun _ _ _ _ _ => (dg_name (pg_name (i := 10) sc_law_drawn_rule.nd rfl (.inl rfl)) rfl (.inr (by decide)))) (fun _ _ _ _ _ => (pts_one (dt_le (DE.up (de_b1 c1_len (pe_callB call_len (by rfl) B.len PySem.boot_len (pa_cons (DE.up (de_ix (DE.up (de_var (pv 10) rfl)) (DE.up de_int))) pa_nil)))) (DE.up (de_add (DE.up (de_var (pv 1) rfl)) (DE.up de_int)))))) (fun _ _ _ _ _ => (de_var (pv 10) rfl))) rfl (.inr (by decide)))) da_nil) (chk_cons chk_nil)))) dss_nil) (dss_cons (asgK_of (k := false) (ps_set (i := 3) sc_law_drawn_rule.nd rfl (.inl rfl) (dk_of (de_add (DE.up de_int) (DE.up (ds_callD h_law_pull (hr.mono (by decide)) (pv 0) (da_cons (de_var (pv 1) rfl) da_nil) (chk_cons chk_nil)))))) (fun _ _ _ q => q) (.inr (by decide)) (.inr rfl)) (dss_cons (asgK_of (k := false) (ps_set (i := 4) sc_law_drawn_rule.nd rfl (.inl rfl) (dk_of (ds_callD h_law_drawn_first hr (pv 0) (da_cons (de_var (pv 3) rfl) da_nil) (chk_cons chk_nil)))) (fun _ _ _ q => q) (.inr (by decide)) (.inr rfl)) (dss_cons (ds_if (dt_eq hr.units (DE.up (de_var (pv 2) rfl)) (DE.up de_int)) (dss_one (asgK_of (k := false) (ps_set (i := 4) sc_law_drawn_rule.nd rfl (.inl rfl) (dk_of (DN.de (dn_cat (DE.up (DN.de (dn_lc (pe_lc (own := [("each", 11)]) rfl sc_law_drawn_rule.nd (di_rng1 (top := false) rfl (pi_range1 rfl B.range (pa_cons (DE.up (de_var (pv 3) rfl)) pa_nil))) (blkOk_by (N := N_law_drawn_rule) (sc := defScope s_law_drawn_rule) (own := [("each", 11)]) (by decide +kernel)) (fun _ _ _ _ _ => (dg_name (pg_name (i := 11) sc_law_drawn_rule.nd rfl (.inl rfl)) rfl (.inr (by decide)))) (fun _ _ _ _ _ => pts_yes) (fun _ _ _ _ _ => (ds_callD h_law_small (hr.mono (by decide)) (pv 0) da_nil chk_nil))) rfl (.inr (by decide))))) (DE.up (DN.de (dn_lst (da_cons (de_callD h_law_f (hr.mono (by decide)) (da_cons (de_add (DE.up de_int) (DE.up (ds_callD h_law_pull (hr.mono (by decide)) (pv 0) (da_cons de_int da_nil) (chk_cons chk_nil)))) (da_cons (de_add (DE.up de_int) (DE.up (ds_callD h_law_pull (hr.mono (by decide)) (pv 0) (da_cons de_int da_nil) (chk_cons chk_nil)))) da_nil)) (chk_cons (chk_cons chk_nil))) da_nil)))))))) (fun _ _ _ q => q) (.inr (by decide)) (.inr rfl))) dss_nil) (dss_cons (asgK_of (k := true) (ps_setLc (i := 5) (own := [("each", 11)]) rfl sc_law_drawn_rule.nd rfl rfl (sw_true rfl rfl rfl (by decide +kernel)) (di_seq (de_var (pv 4) rfl)) (blkOk_by (N := N_law_drawn_rule) (sc := defScope s_law_drawn_rule) (own := [("each", 11)]) (by decide +kernel)) (fun _ _ _ _ _ => (dg_name (pg_name (i := 11) sc_law_drawn_rule.nd rfl (.inl rfl)) rfl (.inr (by decide)))) (fun _ _ _ _ _ => pts_yes) (fun _ _ _ _ _ => (ds_callD h_law_small (hr.mono (by decide)) (pv 0) da_nil chk_nil))) (fun σ H Q q => lc_conv rfl (.inr (by decide)) σ H Q (k_convN σ H Q q)) (.inr (by decide)) (.inl rfl)) (dss_cons (ds_if (dt_eq hr.units (DE.up (de_var (pv 2) rfl)) (DE.up de_int)) (dss_one (ds_set (ps_asg (de_tup (da_cons de_int (da_cons de_int da_nil))) (pg_sub (pv 5) (DE.up (de_neg (DE.up de_int))) set_list)))) dss_nil) (dss_cons (ds_if (dt_eq hr.units (DE.up (de_var (pv 2) rfl)) (DE.up de_int)) (dss_one (asgK_of (k := true) (ps_set (i := 5) sc_law_drawn_rule.nd rfl (.inl rfl) (dk_ofN (dn_cat (DE.up (DN.de (dn_rep (DE.up (DN.de (dn_lst (da_cons (de_tup (da_cons de_int (da_cons de_int da_nil))) da_nil)))) (DE.up (de_var (pv 3) rfl))))) (DE.up (DN.de (dn_lst (da_cons (de_callD h_law_f (hr.mono (by decide)) (da_cons (de_add (DE.up de_int) (DE.up (ds_callD h_law_pull (hr.mono (by decide)) (pv 0) (da_cons de_int da_nil) (chk_cons chk_nil)))) (da_cons (de_add (DE.up de_int) (DE.up (ds_callD h_law_pull (hr.mono (by decide)) (pv 0) (da_cons de_int da_nil) (chk_cons chk_nil)))) da_nil)) (chk_cons (chk_cons chk_nil))) da_nil))))))) (fun _ _ _ q => q) (.inr (by decide)) (.inl rfl))) dss_nil) (dss_cons (ds_if (PW.pt (dw_and (dt_gt (DE.up (de_var (pv 2) rfl)) (DE.up de_int)) (dw_and1 (dt_lt (DE.up (de_var (pv 2) rfl)) (DE.up de_int))))) (dss_cons (asgK_of (k := false) (ps_set (i := 6) sc_law_drawn_rule.nd rfl (.inl rfl) (dk_of (de_tup (da_cons de_int (da_cons de_int da_nil))))) (fun _ _ _ q => q) (.inr (by decide)) (.inr rfl)) (dss_cons (ds_for PassesOwn.never rfl (di_rng1 (top := false) rfl (pi_range1 rfl B.range (pa_cons (DE.up (de_b1 c1_len (pe_callB call_len (by rfl) B.len PySem.boot_len (pa_cons (DE.up (de_var (pv 4) rfl)) pa_nil)))) pa_nil))) (dg_name (pg_name (i := 7) sc_law_drawn_rule.nd rfl (.inl rfl)) rfl (.inr (by decide))) (dss_one (asgK_of (k := false) (ps_set (i := 6) sc_law_drawn_rule.nd rfl (.inl rfl) (dk_of (de_callD h_law_less (hr.mono (by decide)) (da_cons (de_callD h_law_plus (hr.mono (by decide)) (da_cons (de_var (pv 6) rfl) (da_cons (de_callD h_law_times (hr.mono (by decide)) (da_cons (de_ix (DE.up (de_var (pv 4) rfl)) (DE.up (de_var (pv 7) rfl))) (da_cons (de_tup (da_cons (de_var (pv 7) rfl) (da_cons de_int da_nil))) da_nil)) (chk_cons (chk_cons chk_nil))) da_nil)) (chk_cons (chk_cons chk_nil))) (da_cons (de_ix (de_varO (pv 5) rfl) (DE.up (de_var (pv 7) rfl))) da_nil)) (chk_cons (chk_cons chk_nil))))) (fun _ _ _ q => q) (.inr (by decide)) (.inr rfl)))) (dss_cons (asgK_of (k := false) (ps_set (i := 8) sc_law_drawn_rule.nd rfl (.inl rfl) (dk_of (de_if (dt_eq hr.units (DE.up (de_var (pv 2) rfl)) (DE.up de_int)) (de_var (pv 3) rfl) (ds_callD h_law_pull (hr.mono (by decide)) (pv 0) (da_cons (de_b1 c1_len (pe_callB call_len (by rfl) B.len PySem.boot_len (pa_cons (de_varO (pv 5) rfl) pa_nil))) da_nil) (chk_cons chk_nil))))) (fun _ _ _ q => q) (.inr (by decide)) (.inr rfl)) (dss_one (ds_set (ps_asg (de_callD h_law_plus (hr.mono (by decide)) (da_cons (de_ix (de_varO (pv 5) rfl) (DE.up (de_var (pv 8) rfl))) (da_cons (de_var (pv 6) rfl) da_nil)) (chk_cons (chk_cons chk_nil))) (pg_sub (pv 5) (DE.up (de_var (pv 8) rfl)) set_list))))))) dss_nil) (dss_cons (asgK_of (k := false) (ps_set (i := 9) sc_law_drawn_rule.nd rfl (.inr rfl) (dk_of (ds_callD h_law_pick (hr.mono (by decide)) (pv 0) (da_cons (DN.de (dn_lst (da_cons (de_tup (da_cons de_int (da_cons de_int da_nil))) (da_cons (de_tup (da_cons de_int (da_cons de_int da_nil))) (da_cons (de_tup (da_cons de_int (da_cons de_int da_nil))) (da_cons (de_tup (da_cons (de_neg (DE.up de_int)) (da_cons de_int da_nil))) da_nil)))))) da_nil) (chk_cons chk_nil)))) (fun _ _ _ q => q) (.inr (by decide)) (.inr rfl)) (dss_one (ds_ret (de_tup (da_cons (de_b1 c1_tuple (pe_callTy call_tuple_of (by rfl) B.tuple (by decide +kernel) (pa_cons (DE.up (DN.de (dn_lc (pe_lc (own := [("each", 11)]) rfl sc_law_drawn_rule.nd (di_seq (de_var (pv 4) rfl)) (blkOk_by (N := N_law_drawn_rule) (sc := defScope s_law_drawn_rule) (own := [("each", 11)]) (by decide +kernel)) (fun _ _ _ _ _ => (dg_name (pg_name (i := 11) sc_law_drawn_rule.nd rfl (.inl rfl)) rfl (.inr (by decide)))) (fun _ _ _ _ _ => pts_yes) (fun _ _ _ _ _ => (de_callD h_law_times (hr.mono (by decide)) (da_cons (de_var (pv 11) rfl) (da_cons (de_var (pv 9) rfl) da_nil)) (chk_cons (chk_cons chk_nil))))) rfl (.inr (by decide))))) pa_nil))) (da_cons (de_b1 c1_tuple (pe_callTy call_tuple_of (by rfl) B.tuple (by decide +kernel) (pa_cons (DE.up (DN.de (dn_lc (pe_lc (own := [("each", 11)]) rfl sc_law_drawn_rule.nd (di_seq (de_varO (pv 5) rfl)) (blkOk_by (N := N_law_drawn_rule) (sc := defScope s_law_drawn_rule) (own := [("each", 11)]) (by decide +kernel)) (fun _ _ _ _ _ => (dg_name (pg_name (i := 11) sc_law_drawn_rule.nd rfl (.inl rfl)) rfl (.inr (by decide)))) (fun _ _ _ _ _ => pts_yes) (fun _ _ _ _ _ => (de_callD h_law_times (hr.mono (by decide)) (da_cons (de_var (pv 11) rfl) (da_cons (de_var (pv 9) rfl) da_nil)) (chk_cons (chk_cons chk_nil))))) rfl (.inr (by decide))))) pa_nil))) da_nil)))))))))))))))), hm, F.binds fun _ _ _ _ _ _ us hl => match us, hl with | [_, _], _ => rfl⟩
abbrev s_law_at : Stmt := stm 65
abbrev N_law_at : List Str := ["poly", "moment", "found", "each"]
theorem sc_law_at : FnScope N_law_at ["poly", "moment"] (defScope s_law_at) := ⟨rfl, rfl, rfl, by decide +kernel, rfl, by decide +kernel, by decide +kernel⟩
def den_law_at : SF := (seqS (asgS (tupE (consA (cE (.int 0)) (consA (cE (.int 1)) nilA))) (nameG 2)) (seqS (forS (revI (varE 0)) (nameG 3) (asgS (callE f_law_plus (consA (callE f_law_times (consA (varE 2) (consA (varE 1) nilA))) (consA (varE 3) nilA))) (nameG 2))) (retS (varE 2))))
def f_law_at : List D → Option D := funV 4 den_law_at
theorem ok_law_at (B : Blt mg) (h_law_plus : DefOk P w K mg base 2 "_law_plus" s_law_plus ["one", "two"] (spV K 2 f_law_plus)) (h_law_times : DefOk P w K mg base 2 "_law_times" s_law_times ["one", "two"] (spV K 2 f_law_times)) {fa : Addr} {fd : FuncData} (F : Fun K "_law_at" "_law_at" s_law_at fa fd) (hm : mg "_law_at" = some (.ref fa)) : DefOk P w K mg base 3 "_law_at" s_law_at ["poly", "moment"] (spV K 2 f_law_at) :=
  ⟨fa, fd, F, fn_V (own' := []) (ol := []) F sc_law_at (fun _ _ _ _ _ _ _ _ hr => (dss_cons (asgK_of (k := false) (ps_set (i := 2) sc_law_at.nd rfl (.inl rfl) (dk_of (de_tup (da_cons de_int (da_cons de_int da_nil))))) (fun _ _ _ q => q) (.inl rfl) (.inr rfl)) (dss_cons (ds_for PassesOwn.never rfl (di_rev rfl (RT.pi_revA rfl B.reversed (de_var (pv 0) rfl))) (dg_name (pg_name (i := 3) sc_law_at.nd rfl (.inl rfl)) rfl (.inl rfl)) (dss_one (asgK_of (k := false) (ps_set (i := 2) sc_law_at.nd rfl (.inl rfl) (dk_of (de_callD h_law_plus hr (da_cons (de_callD h_law_times hr (da_cons (de_var (pv 2) rfl) (da_cons (de_var (pv 1) rfl) da_nil)) (chk_cons (chk_cons chk_nil))) (da_cons (de_var (pv 3) rfl) da_nil)) (chk_cons (chk_cons chk_nil))))) (fun _ _ _ q => q) (.inl rfl) (.inr rfl)))) (dss_one (ds_ret (de_var (pv 2) rfl)))))), hm, F.binds fun _ _ _ _ _ _ us hl => match us, hl with | [_, _], _ => rfl⟩
abbrev s_law_grown : Stmt := stm 66
abbrev N_law_grown : List Str := ["rule", "starts", "length", "slopes", "number", "a", "b", "found", "steps", "turn", "whole", "lead", "at"]
theorem sc_law_grown : FnScope N_law_grown ["rule", "starts", "length", "slopes", "number"] (defScope s_law_grown) := ⟨rfl, rfl, rfl, by decide +kernel, rfl, by decide +kernel, by decide +kernel⟩
def den_law_grown : SF := (seqS (asgS (varE 0) (tupG 2 (consG (nameG 5) (consG (nameG 6) nilG)))) (seqS (par2S 7 8 (unE lstQ (varE 1)) (binE subD (unE lenQ (varE 5)) (cE (.int 1)))) (seqS (forS (rng1I (varE 2)) (nameG 9) (seqS (par2S 10 11 (tupE (consA (cE (.int 0)) (consA (cE (.int 1)) nilA))) (ifE (tstB (binE neQ (varE 3) (lstE nilA))) (binE ixQ (varE 5) (unE negQ (cE (.int 1)))) (callE f_law_less (consA (binE ixQ (varE 5) (unE negQ (cE (.int 1)))) (consA (callE f_law_times (consA (varE 4) (consA (binE ixQ (varE 6) (unE negQ (cE (.int 1)))) nilA))) nilA))))) (seqS (forS (rng1I (binE addD (varE 8) (cE (.int 1)))) (nameG 12) (seqS (ifS (tstB (binE neQ (varE 3) (lstE nilA))) (asgS (callE f_law_plus (consA (varE 10) (consA (callE f_law_times (consA (binE ixQ (varE 6) (varE 12)) (consA (binE ixQ (varE 3) (binE addD (varE 9) (varE 12))) nilA))) nilA))) (nameG 10)) (ifS (tstB (binE (cmpQ ltP) (varE 12) (varE 8))) (asgS (callE f_law_plus (consA (varE 10) (consA (callE f_law_times (consA (callE f_law_times (consA (varE 4) (consA (binE ixQ (varE 6) (varE 12)) nilA))) (consA (binE ixQ (varE 7) (binE addD (varE 9) (varE 12))) nilA))) nilA))) (nameG 10)) nxS)) (ifS (tstB (binE (cmpQ ltP) (varE 12) (varE 8))) (asgS (callE f_law_less (consA (varE 10) (consA (callE f_law_times (consA (binE ixQ (varE 5) (varE 12)) (consA (binE ixQ (varE 7) (binE addD (varE 9) (varE 12))) nilA))) nilA))) (nameG 10)) nxS))) (appS 7 (callE f_law_over (consA (varE 10) (consA (varE 11) nilA))))))) (retS (unE tupQ (varE 7))))))
def f_law_grown : List D → Option D := funV 13 den_law_grown
theorem ok_law_grown (B : Blt mg) (h_law_less : DefOk P w K mg base 2 "_law_less" s_law_less ["one", "two"] (spV K 2 f_law_less)) (h_law_over : DefOk P w K mg base 2 "_law_over" s_law_over ["one", "two"] (spV K 2 f_law_over)) (h_law_plus : DefOk P w K mg base 2 "_law_plus" s_law_plus ["one", "two"] (spV K 2 f_law_plus)) (h_law_times : DefOk P w K mg base 2 "_law_times" s_law_times ["one", "two"] (spV K 2 f_law_times)) {fa : Addr} {fd : FuncData} (F : Fun K "_law_grown" "_law_grown" s_law_grown fa fd) (hm : mg "_law_grown" = some (.ref fa)) : DefOk P w K mg base 3 "_law_grown" s_law_grown ["rule", "starts", "length", "slopes", "number"] (spV K 5 f_law_grown) :=
  ⟨fa, fd, F, fn_V (own' := []) (ol := []) F sc_law_grown (fun _ _ _ _ _ _ _ _ hr => (dss_cons (asg_of (ps_asg (de_var (pv 0) rfl) (dg_tup rfl (dgs_cons (dg_name (pg_name (i := 5) sc_law_grown.nd rfl (.inl rfl)) rfl (.inl rfl)) (dgs_cons (dg_name (pg_name (i := 6) sc_law_grown.nd rfl (.inl rfl)) rfl (.inl rfl)) dgs_nil)))) (fun _ _ _ q => q) (fun _ _ _ _ q => q)) (dss_cons (par2_of (k1 := true) (k2 := false) (ps_par (i := 7) (j := 8) rfl sc_law_grown.nd rfl rfl (by decide) rfl rfl (pa_cons (dk_ofN (dn_b1 c1_list (pe_callTy call_list_of (by rfl) B.list (by decide +kernel) (pa_cons (DE.up (de_var (pv 1) rfl)) pa_nil)))) (pa_cons (dk_of (de_sub (DE.up (de_b1 c1_len (pe_callB call_len (by rfl) B.len PySem.boot_len (pa_cons (DE.up (de_var (pv 5) rfl)) pa_nil)))) (DE.up de_int))) pa_nil)) rfl) (.inl rfl) (.inl rfl) (.inl rfl) (.inr rfl)) (dss_cons (ds_for PassesOwn.never rfl (di_rng1 (top := false) rfl (pi_range1 rfl B.range (pa_cons (DE.up (de_var (pv 2) rfl)) pa_nil))) (dg_name (pg_name (i := 9) sc_law_grown.nd rfl (.inl rfl)) rfl (.inl rfl)) (dss_cons (par2_of (k1 := false) (k2 := false) (ps_par (i := 10) (j := 11) rfl sc_law_grown.nd rfl rfl (by decide) rfl rfl (pa_cons (dk_of (de_tup (da_cons de_int (da_cons de_int da_nil)))) (pa_cons (dk_of (de_if (dt_ne hr.units (DE.up (de_var (pv 3) rfl)) (DE.up (DN.de (dn_lst da_nil)))) (de_ix (DE.up (de_var (pv 5) rfl)) (DE.up (de_neg (DE.up de_int)))) (de_callD h_law_less hr (da_cons (de_ix (DE.up (de_var (pv 5) rfl)) (DE.up (de_neg (DE.up de_int)))) (da_cons (de_callD h_law_times hr (da_cons (de_var (pv 4) rfl) (da_cons (de_ix (DE.up (de_var (pv 6) rfl)) (DE.up (de_neg (DE.up de_int)))) da_nil)) (chk_cons (chk_cons chk_nil))) da_nil)) (chk_cons (chk_cons chk_nil))))) pa_nil)) rfl) (.inl rfl) (.inl rfl) (.inr rfl) (.inr rfl)) (dss_cons (ds_for PassesOwn.never rfl (di_rng1 (top := false) rfl (pi_range1 rfl B.range (pa_cons (DE.up (de_add (DE.up (de_var (pv 8) rfl)) (DE.up de_int))) pa_nil))) (dg_name (pg_name (i := 12) sc_law_grown.nd rfl (.inl rfl)) rfl (.inl rfl)) (dss_cons (ds_if (dt_ne hr.units (DE.up (de_var (pv 3) rfl)) (DE.up (DN.de (dn_lst da_nil)))) (dss_one (asgK_of (k := false) (ps_set (i := 10) sc_law_grown.nd rfl (.inl rfl) (dk_of (de_callD h_law_plus hr (da_cons (de_var (pv 10) rfl) (da_cons (de_callD h_law_times hr (da_cons (de_ix (DE.up (de_var (pv 6) rfl)) (DE.up (de_var (pv 12) rfl))) (da_cons (de_ix (DE.up (de_var (pv 3) rfl)) (DE.up (de_add (DE.up (de_var (pv 9) rfl)) (DE.up (de_var (pv 12) rfl))))) da_nil)) (chk_cons (chk_cons chk_nil))) da_nil)) (chk_cons (chk_cons chk_nil))))) (fun _ _ _ q => q) (.inl rfl) (.inr rfl))) (dss_one (ds_if (dt_lt (DE.up (de_var (pv 12) rfl)) (DE.up (de_var (pv 8) rfl))) (dss_one (asgK_of (k := false) (ps_set (i := 10) sc_law_grown.nd rfl (.inl rfl) (dk_of (de_callD h_law_plus hr (da_cons (de_var (pv 10) rfl) (da_cons (de_callD h_law_times hr (da_cons (de_callD h_law_times hr (da_cons (de_var (pv 4) rfl) (da_cons (de_ix (DE.up (de_var (pv 6) rfl)) (DE.up (de_var (pv 12) rfl))) da_nil)) (chk_cons (chk_cons chk_nil))) (da_cons (de_ix (de_varO (pv 7) rfl) (DE.up (de_add (DE.up (de_var (pv 9) rfl)) (DE.up (de_var (pv 12) rfl))))) da_nil)) (chk_cons (chk_cons chk_nil))) da_nil)) (chk_cons (chk_cons chk_nil))))) (fun _ _ _ q => q) (.inl rfl) (.inr rfl))) dss_nil))) (dss_one (ds_if (dt_lt (DE.up (de_var (pv 12) rfl)) (DE.up (de_var (pv 8) rfl))) (dss_one (asgK_of (k := false) (ps_set (i := 10) sc_law_grown.nd rfl (.inl rfl) (dk_of (de_callD h_law_less hr (da_cons (de_var (pv 10) rfl) (da_cons (de_callD h_law_times hr (da_cons (de_ix (DE.up (de_var (pv 5) rfl)) (DE.up (de_var (pv 12) rfl))) (da_cons (de_ix (de_varO (pv 7) rfl) (DE.up (de_add (DE.up (de_var (pv 9) rfl)) (DE.up (de_var (pv 12) rfl))))) da_nil)) (chk_cons (chk_cons chk_nil))) da_nil)) (chk_cons (chk_cons chk_nil))))) (fun _ _ _ q => q) (.inl rfl) (.inr rfl))) dss_nil)))) (dss_one (ds_app (ps_expr (pe_bm PySem.F.plainAttrs_list PySem.F.slot_list_append PySem.F.type_list_append mt_append (pv 7) (pa_cons (de_callD h_law_over hr (da_cons (de_var (pv 10) rfl) (da_cons (de_var (pv 11) rfl) da_nil)) (chk_cons (chk_cons chk_nil))) pa_nil)))))))) (dss_one (ds_ret (de_b1 c1_tuple (pe_callTy call_tuple_of (by rfl) B.tuple (by decide +kernel) (pa_cons (de_varO (pv 7) rfl) pa_nil))))))))), hm, F.binds fun _ _ _ _ _ _ us hl => match us, hl with | [_, _, _, _, _], _ => rfl⟩
abbrev s_law_told : Stmt := stm 67
abbrev N_law_told : List Str := ["rule", "number", "starts", "length", "found"]
theorem sc_law_told : FnScope N_law_told ["rule", "number", "starts", "length"] (defScope s_law_told) := ⟨rfl, rfl, rfl, by decide +kernel, rfl, by decide +kernel, by decide +kernel⟩
def den_law_told : SF := (seqS (tryS 4 f_test_runX (consA (varE 0) (consA (varE 1) (consA (varE 2) (consA (varE 3) nilA)))) "LostStep" (asgS (cE (.str "lost")) (nameG 4))) (retS (varE 4)))
def f_law_told : List D → Option D := funV 5 den_law_told
theorem ok_law_told (B : Blt mg) {ca_LostStep : Addr} (e_LostStep : ExcC K mg "LostStep" ca_LostStep) (h_test_runX : DefOkX P w K mg base 7 "test_run" s_test_run ["rule", "fraction", "starts", "length"] (spVX K mg 4 f_test_runX)) {fa : Addr} {fd : FuncData} (F : Fun K "_law_told" "_law_told" s_law_told fa fd) (hm : mg "_law_told" = some (.ref fa)) : DefOk P w K mg base 8 "_law_told" s_law_told ["rule", "number", "starts", "length"] (spV K 4 f_law_told) :=
  ⟨fa, fd, F, fn_V (own' := []) (ol := []) F sc_law_told (fun _ _ _ _ _ _ _ _ hr => (dss_cons (ds_tryCall (i := 4) rfl rfl e_LostStep h_test_runX (fun _ _ => hr) (by rfl) (by rfl) sc_law_told.nd rfl (.inl rfl) (.inl rfl) rfl (chk_cons (chk_cons (chk_cons (chk_cons chk_nil)))) (fun _ _ => (da_cons (de_var (pv 0) rfl) (da_cons (de_var (pv 1) rfl) (da_cons (de_var (pv 2) rfl) (da_cons (de_var (pv 3) rfl) da_nil))))) (fun _ _ => (dss_one (asgK_of (k := false) (ps_set (i := 4) sc_law_told.nd rfl (.inl rfl) (dk_of de_str)) (fun _ _ _ q => q) (.inl rfl) (.inr rfl))))) (dss_one (ds_ret (de_var (pv 4) rfl))))), hm, F.binds fun _ _ _ _ _ _ us hl => match us, hl with | [_, _, _, _], _ => rfl⟩
abbrev s_law_right : Stmt := stm 68
abbrev N_law_right : List Str := ["sack", "rule", "steps", "length", "number", "starts", "due", "poly", "size", "times", "told", "order", "curve", "slope", "worths", "each", "at"]
theorem sc_law_right : FnScope N_law_right ["sack"] (defScope s_law_right) := ⟨rfl, rfl, rfl, by decide +kernel, rfl, by decide +kernel, by decide +kernel⟩
def den_law_right : SF := (seqS (asgS (callS f_law_drawn_rule (consA (cE (.int 4)) nilA)) (nameG 1)) (seqS (par3S 2 3 4 (binE subD (unE lenQ (binE ixQ (varE 1) (cE (.int 0)))) (cE (.int 1))) (callS f_law_pull (consA (cE (.int 9)) nilA)) (callS f_law_small nilA)) (seqS (ifS (andB (tstB (binE eqQ (callS f_law_pull (consA (cE (.int 6)) nilA)) (cE (.int 0)))) (tstB (binE neQ (binE ixQ (binE ixQ (binE ixQ (varE 1) (cE (.int 1))) (unE negQ (cE (.int 1)))) (cE (.int 0))) (cE (.int 0))))) (asgS (callE f_law_over (consA (binE ixQ (binE ixQ (varE 1) (cE (.int 0))) (unE negQ (cE (.int 1)))) (consA (binE ixQ (binE ixQ (varE 1) (cE (.int 1))) (unE negQ (cE (.int 1)))) nilA))) (nameG 4)) nxS) (seqS (asgS (unE tupQ (lcE (rng1I (varE 2)) (nameG 15) yesB (callS f_law_small nilA) [15])) (nameG 5)) (seqS (asgS (cE (.str "lost")) (nameG 6)) (seqS (ifS (tstB (binE neQ (callE f_law_times (consA (varE 4) (consA (binE ixQ (binE ixQ (varE 1) (cE (.int 1))) (unE negQ (cE (.int 1)))) nilA))) (binE ixQ (binE ixQ (varE 1) (cE (.int 0))) (unE negQ (cE (.int 1)))))) (asgS (callE f_law_grown (consA (varE 1) (consA (varE 5) (consA (varE 3) (consA (lstE nilA) (consA (varE 4) nilA)))))) (nameG 6)) nxS) (seqS (ifS (tstB (binE neS (unE reprQ (callE f_law_told (consA (varE 1) (consA (varE 4) (consA (varE 5) (consA (varE 3) nilA)))))) (unE reprQ (varE 6)))) (retS (cE (.bl false))) nxS) (seqS (ifS (andB (tstB (binE neQ (varE 6) (cE (.str "lost")))) (tstB (binE neS (unE reprQ (callE f_test_run (permA [3, 2, 1, 0] (appA nilA (consA (varE 3) (consA (varE 5) (consA (varE 4) (consA (varE 1) nilA)))))))) (unE reprQ (varE 6))))) (retS (cE (.bl false))) nxS) (seqS (asgS (binE catD (lcE (rng1I (callS f_law_pull (consA (cE (.int 4)) nilA))) (nameG 15) yesB (callS f_law_small nilA) [15]) (lstE (consA (callE f_law_f (consA (binE addD (cE (.int 1)) (callS f_law_pull (consA (cE (.int 3)) nilA))) (consA (cE (.int 2)) nilA))) nilA))) (nameG 7)) (seqS (asgS (ifE (tstB (binE (cmpQ gtP) (callS f_law_pull (consA (cE (.int 6)) nilA)) (cE (.int 0)))) (varE 7) (lstE nilA)) (nameG 7)) (seqS (asgS (callE f_law_f (consA (binE addD (cE (.int 1)) (callS f_law_pull (consA (cE (.int 5)) nilA))) (consA (binE addD (cE (.int 1)) (callS f_law_pull (consA (cE (.int 3)) nilA))) nilA))) (nameG 8)) (seqS (asgS (lcE (rng1I (binE addD (binE addD (varE 2) (varE 3)) (cE (.int 1)))) (nameG 16) yesB (callE f_law_times (consA (tupE (consA (varE 16) (consA (cE (.int 1)) nilA))) (consA (varE 8) nilA))) [16]) (nameG 9)) (seqS (asgS (callE f_law_grown (consA (varE 1) (consA (varE 5) (consA (varE 3) (consA (lcE (seqI (varE 9)) (nameG 15) yesB (callE f_law_times (consA (varE 8) (consA (callE f_law_at (consA (varE 7) (consA (varE 15) nilA))) nilA))) [15]) (consA (tupE (consA (cE (.int 0)) (consA (cE (.int 1)) nilA))) nilA)))))) (nameG 6)) (seqS (asgS (lstE (consA (callE f_slope_run (consA (varE 1) (consA (unE tupQ (varE 7)) (consA (varE 8) (consA (varE 5) (consA (varE 3) nilA)))))) nilA)) (nameG 10)) (seqS (appS 10 (callE f_slope_run (permA [4, 3, 2, 1, 0] (appA nilA (consA (varE 3) (consA (varE 5) (consA (varE 8) (consA (unE tupQ (varE 7)) (consA (varE 1) nilA))))))))) (seqS (ifS (tstB (binE neS (unE reprQ (varE 10)) (unE reprQ (lstE (consA (varE 6) (consA (varE 6) nilA)))))) (retS (cE (.bl false))) nxS) (seqS (asgS (callE f_order_of (consA (varE 1) nilA)) (nameG 11)) (seqS (ifS (orB (notB (tstB (unE (isQ "int" isi_int) (varE 11)))) (tstB (binE (cmpQ ltP) (varE 11) (cE (.int 0))))) (retS (cE (.bl true))) nxS) (seqS (asgS (binE catD (lcE (rng1I (binE minQ (varE 11) (cE (.int 4)))) (nameG 15) yesB (callS f_law_small nilA) [15]) (lstE (consA (tupE (consA (cE (.int 2)) (consA (cE (.int 3)) nilA))) nilA))) (nameG 12)) (seqS (asgS (unE tupQ (slE slQ (lcE (enumA (varE 12)) (tupG 2 (consG (nameG 16) (consG (nameG 15) nilG))) yesB (callE f_law_times (consA (tupE (consA (varE 16) (consA (cE (.int 1)) nilA))) (consA (varE 15) nilA))) [16, 15]) (someP (cE (.int 1))) noP)) (nameG 13)) (seqS (asgS (unE tupQ (lcE (seqI (slE slQ (varE 9) noP (someP (binE addD (varE 2) (varE 3))))) (nameG 15) yesB (callE f_law_at (consA (varE 12) (consA (varE 15) nilA))) [15])) (nameG 14)) (retS (binE eqS (unE reprQ (callE f_slope_run (consA (varE 1) (consA (varE 13) (consA (varE 8) (consA (slE slQ (varE 14) noP (someP (varE 2))) (consA (varE 3) nilA))))))) (unE reprQ (varE 14)))))))))))))))))))))))))
def f_law_right : D → List D → Option (D × D) := funS 17 den_law_right
theorem ok_law_right (B : Blt mg) (h_law_at : DefOk P w K mg base 3 "_law_at" s_law_at ["poly", "moment"] (spV K 2 f_law_at)) (h_law_drawn_rule : DefOk P w K mg base 5 "_law_drawn_rule" s_law_drawn_rule ["sack", "most"] (spS K 1 f_law_drawn_rule)) (h_law_f : DefOk P w K mg base 1 "_law_f" s_law_f ["upper", "lower"] (spV K 2 f_law_f)) (h_law_grown : DefOk P w K mg base 3 "_law_grown" s_law_grown ["rule", "starts", "length", "slopes", "number"] (spV K 5 f_law_grown)) (h_law_over : DefOk P w K mg base 2 "_law_over" s_law_over ["one", "two"] (spV K 2 f_law_over)) (h_law_pull : DefOk P w K mg base 1 "_law_pull" s_law_pull ["sack", "many"] (spS K 1 f_law_pull)) (h_law_small : DefOk P w K mg base 2 "_law_small" s_law_small ["sack"] (spS K 0 f_law_small)) (h_law_times : DefOk P w K mg base 2 "_law_times" s_law_times ["one", "two"] (spV K 2 f_law_times)) (h_law_told : DefOk P w K mg base 8 "_law_told" s_law_told ["rule", "number", "starts", "length"] (spV K 4 f_law_told)) (h_order_of : DefOk P w K mg base 7 "order_of" s_order_of ["rule"] (spV K 1 f_order_of)) (h_slope_run : DefOk P w K mg base 7 "slope_run" s_slope_run ["rule", "polynomial", "size", "starts", "length"] (spV K 5 f_slope_run)) (h_test_run : DefOk P w K mg base 7 "test_run" s_test_run ["rule", "fraction", "starts", "length"] (spV K 4 f_test_run)) {fa : Addr} {fd : FuncData} (F : Fun K "_law_right" "_law_right" s_law_right fa fd) (hm : mg "_law_right" = some (.ref fa)) : DefG P w K mg base 9 "_law_right" s_law_right ["sack"] (spS K 0 f_law_right) :=
  ⟨fa, fd, F, fn_SG (own' := []) (ol := []) F sc_law_right (by simp) (fun _ _ _ _ _ _ _ _ _ hg hr => (dss_cons (asgK_of (k := false) (ps_set (i := 1) sc_law_right.nd rfl (.inl rfl) (dk_of (ds_callD h_law_drawn_rule (hr.mono (by decide)) (pv 0) (da_cons de_int da_nil) (chk_cons chk_nil)))) (fun _ _ _ q => q) (.inr (by decide)) (.inr rfl)) (dss_cons (par3_of (k1 := false) (k2 := false) (k3 := false) (ps_par3 (i := 2) (j := 3) (l := 4) rfl sc_law_right.nd rfl rfl rfl (by decide) (by decide) (by decide) rfl rfl rfl (pa_cons (dk_of (de_sub (DE.up (de_b1 c1_len (pe_callB call_len (by rfl) B.len PySem.boot_len (pa_cons (DE.up (de_ix (DE.up (de_var (pv 1) rfl)) (DE.up de_int))) pa_nil)))) (DE.up de_int))) (pa_cons (dk_of (ds_callD h_law_pull (hr.mono (by decide)) (pv 0) (da_cons de_int da_nil) (chk_cons chk_nil))) (pa_cons (dk_of (ds_callD h_law_small (hr.mono (by decide)) (pv 0) da_nil chk_nil)) pa_nil))) rfl) (.inr (by decide)) (.inr (by decide)) (.inr (by decide)) (.inr rfl) (.inr rfl) (.inr rfl)) (dss_cons (ds_if (PW.pt (dw_and (dt_eq hr.units (DE.up (ds_callD h_law_pull (hr.mono (by decide)) (pv 0) (da_cons de_int da_nil) (chk_cons chk_nil))) (DE.up de_int)) (dw_and1 (dt_ne hr.units (DE.up (de_ix (DE.up (de_ix (DE.up (de_ix (DE.up (de_var (pv 1) rfl)) (DE.up de_int))) (DE.up (de_neg (DE.up de_int))))) (DE.up de_int))) (DE.up de_int))))) (dss_one (asgK_of (k := false) (ps_set (i := 4) sc_law_right.nd rfl (.inl rfl) (dk_of (de_callD h_law_over (hr.mono (by decide)) (da_cons (de_ix (DE.up (de_ix (DE.up (de_var (pv 1) rfl)) (DE.up de_int))) (DE.up (de_neg (DE.up de_int)))) (da_cons (de_ix (DE.up (de_ix (DE.up (de_var (pv 1) rfl)) (DE.up de_int))) (DE.up (de_neg (DE.up de_int)))) da_nil)) (chk_cons (chk_cons chk_nil))))) (fun _ _ _ q => q) (.inr (by decide)) (.inr rfl))) dss_nil) (dss_cons (asgK_of (k := false) (ps_set (i := 5) sc_law_right.nd rfl (.inl rfl) (dk_of (de_b1 c1_tuple (pe_callTy call_tuple_of (by rfl) B.tuple (by decide +kernel) (pa_cons (DE.up (DN.de (dn_lc (pe_lc (own := [("each", 15)]) rfl sc_law_right.nd (di_rng1 (top := false) rfl (pi_range1 rfl B.range (pa_cons (DE.up (de_var (pv 2) rfl)) pa_nil))) (blkOk_by (N := N_law_right) (sc := defScope s_law_right) (own := [("each", 15)]) (by decide +kernel)) (fun _ _ _ _ _ => (dg_name (pg_name (i := 15) sc_law_right.nd rfl (.inl rfl)) rfl (.inr (by decide)))) (fun _ _ _ _ _ => pts_yes) (fun _ _ _ _ _ => (ds_callD h_law_small (hr.mono (by decide)) (pv 0) da_nil chk_nil))) rfl (.inr (by decide))))) pa_nil))))) (fun _ _ _ q => q) (.inr (by decide)) (.inr rfl)) (dss_cons (asgK_of (k := false) (ps_set (i := 6) sc_law_right.nd rfl (.inl rfl) (dk_of de_str)) (fun _ _ _ q => q) (.inr (by decide)) (.inr rfl)) (dss_cons (ds_if (dt_ne hr.units (DE.up (de_callD h_law_times (hr.mono (by decide)) (da_cons (de_var (pv 4) rfl) (da_cons (de_ix (DE.up (de_ix (DE.up (de_var (pv 1) rfl)) (DE.up de_int))) (DE.up (de_neg (DE.up de_int)))) da_nil)) (chk_cons (chk_cons chk_nil)))) (DE.up (de_ix (DE.up (de_ix (DE.up (de_var (pv 1) rfl)) (DE.up de_int))) (DE.up (de_neg (DE.up de_int)))))) (dss_one (asgK_of (k := false) (ps_set (i := 6) sc_law_right.nd rfl (.inl rfl) (dk_of (de_callD h_law_grown (hr.mono (by decide)) (da_cons (de_var (pv 1) rfl) (da_cons (de_var (pv 5) rfl) (da_cons (de_var (pv 3) rfl) (da_cons (DN.de (dn_lst da_nil)) (da_cons (de_var (pv 4) rfl) da_nil))))) (chk_cons (chk_cons (chk_cons (chk_cons (chk_cons chk_nil)))))))) (fun _ _ _ q => q) (.inr (by decide)) (.inr rfl))) dss_nil) (dss_cons (ds_if (dt_neS (DE.up (de_b1 c1_repr (pe_callB (call_show hg hr.units) (by rfl) B.repr (by decide +kernel) (pa_cons (DE.up (de_callD h_law_told hr (da_cons (de_var (pv 1) rfl) (da_cons (de_var (pv 4) rfl) (da_cons (de_var (pv 5) rfl) (da_cons (de_var (pv 3) rfl) da_nil)))) (chk_cons (chk_cons (chk_cons (chk_cons chk_nil)))))) pa_nil)))) (DE.up (de_b1 c1_repr (pe_callB (call_show hg hr.units) (by rfl) B.repr (by decide +kernel) (pa_cons (DE.up (de_var (pv 6) rfl)) pa_nil))))) (dss_one (ds_ret de_bl)) dss_nil) (dss_cons (ds_if (PW.pt (dw_and (dt_ne hr.units (DE.up (de_var (pv 6) rfl)) (DE.up de_str)) (dw_and1 (dt_neS (DE.up (de_b1 c1_repr (pe_callB (call_show hg hr.units) (by rfl) B.repr (by decide +kernel) (pa_cons (DE.up (de_callKD0 (pm := [3, 2, 1, 0]) (ks := ["length", "starts", "fraction", "rule"]) h_test_run (hr.mono (by decide)) (dkw_cons (de_var (pv 3) rfl) (dkw_cons (de_var (pv 5) rfl) (dkw_cons (de_var (pv 4) rfl) (dkw_cons (de_var (pv 1) rfl) dkw_nil)))) (chk_cons (chk_cons (chk_cons (chk_cons chk_nil)))) (fun _ _ _ _ _ _ us ws h1 h2 => match us, ws, h1, h2 with | [], [_, _, _, _], _, _ => rfl))) pa_nil)))) (DE.up (de_b1 c1_repr (pe_callB (call_show hg hr.units) (by rfl) B.repr (by decide +kernel) (pa_cons (DE.up (de_var (pv 6) rfl)) pa_nil)))))))) (dss_one (ds_ret de_bl)) dss_nil) (dss_cons (asgK_of (k := false) (ps_set (i := 7) sc_law_right.nd rfl (.inr rfl) (dk_of (DN.de (dn_cat (DE.up (DN.de (dn_lc (pe_lc (own := [("each", 15)]) rfl sc_law_right.nd (di_rng1 (top := false) rfl (pi_range1 rfl B.range (pa_cons (DE.up (ds_callD h_law_pull (hr.mono (by decide)) (pv 0) (da_cons de_int da_nil) (chk_cons chk_nil))) pa_nil))) (blkOk_by (N := N_law_right) (sc := defScope s_law_right) (own := [("each", 15)]) (by decide +kernel)) (fun _ _ _ _ _ => (dg_name (pg_name (i := 15) sc_law_right.nd rfl (.inl rfl)) rfl (.inr (by decide)))) (fun _ _ _ _ _ => pts_yes) (fun _ _ _ _ _ => (ds_callD h_law_small (hr.mono (by decide)) (pv 0) da_nil chk_nil))) rfl (.inr (by decide))))) (DE.up (DN.de (dn_lst (da_cons (de_callD h_law_f (hr.mono (by decide)) (da_cons (de_add (DE.up de_int) (DE.up (ds_callD h_law_pull (hr.mono (by decide)) (pv 0) (da_cons de_int da_nil) (chk_cons chk_nil)))) (da_cons de_int da_nil)) (chk_cons (chk_cons chk_nil))) da_nil)))))))) (fun _ _ _ q => q) (.inr (by decide)) (.inr rfl)) (dss_cons (asgK_of (k := false) (ps_set (i := 7) sc_law_right.nd rfl (.inr rfl) (dk_of (de_if (dt_gt (DE.up (ds_callD h_law_pull (hr.mono (by decide)) (pv 0) (da_cons de_int da_nil) (chk_cons chk_nil))) (DE.up de_int)) (de_var (pv 7) rfl) (DN.de (dn_lst da_nil))))) (fun _ _ _ q => q) (.inr (by decide)) (.inr rfl)) (dss_cons (asgK_of (k := false) (ps_set (i := 8) sc_law_right.nd rfl (.inr rfl) (dk_of (de_callD h_law_f (hr.mono (by decide)) (da_cons (de_add (DE.up de_int) (DE.up (ds_callD h_law_pull (hr.mono (by decide)) (pv 0) (da_cons de_int da_nil) (chk_cons chk_nil)))) (da_cons (de_add (DE.up de_int) (DE.up (ds_callD h_law_pull (hr.mono (by decide)) (pv 0) (da_cons de_int da_nil) (chk_cons chk_nil)))) da_nil)) (chk_cons (chk_cons chk_nil))))) (fun _ _ _ q => q) (.inr (by decide)) (.inr rfl)) (dss_cons (asgK_of (k := false) (ps_setLc (i := 9) (own := [("at", 16)]) rfl sc_law_right.nd rfl rfl (sw_true rfl rfl rfl (by decide +kernel)) (di_rng1 (top := false) rfl (pi_range1 rfl B.range (pa_cons (DE.up (de_add (DE.up (de_add (DE.up (de_var (pv 2) rfl)) (DE.up (de_var (pv 3) rfl)))) (DE.up de_int))) pa_nil))) (blkOk_by (N := N_law_right) (sc := defScope s_law_right) (own := [("at", 16)]) (by decide +kernel)) (fun _ _ _ _ _ => (dg_name (pg_name (i := 16) sc_law_right.nd rfl (.inl rfl)) rfl (.inr (by decide)))) (fun _ _ _ _ _ => pts_yes) (fun _ _ _ _ _ => (de_callD h_law_times (hr.mono (by decide)) (da_cons (de_tup (da_cons (de_var (pv 16) rfl) (da_cons de_int da_nil))) (da_cons (de_var (pv 8) rfl) da_nil)) (chk_cons (chk_cons chk_nil))))) (fun σ H Q q => lc_conv rfl (.inr (by decide)) σ H Q (k_convDN σ H Q q)) (.inr (by decide)) (.inr rfl)) (dss_cons (asgK_of (k := false) (ps_set (i := 6) sc_law_right.nd rfl (.inl rfl) (dk_of (de_callD h_law_grown (hr.mono (by decide)) (da_cons (de_var (pv 1) rfl) (da_cons (de_var (pv 5) rfl) (da_cons (de_var (pv 3) rfl) (da_cons (DN.de (dn_lc (pe_lc (own := [("each", 15)]) rfl sc_law_right.nd (di_seq (de_var (pv 9) rfl)) (blkOk_by (N := N_law_right) (sc := defScope s_law_right) (own := [("each", 15)]) (by decide +kernel)) (fun _ _ _ _ _ => (dg_name (pg_name (i := 15) sc_law_right.nd rfl (.inl rfl)) rfl (.inr (by decide)))) (fun _ _ _ _ _ => pts_yes) (fun _ _ _ _ _ => (de_callD h_law_times (hr.mono (by decide)) (da_cons (de_var (pv 8) rfl) (da_cons (de_callD h_law_at (hr.mono (by decide)) (da_cons (de_var (pv 7) rfl) (da_cons (de_var (pv 15) rfl) da_nil)) (chk_cons (chk_cons chk_nil))) da_nil)) (chk_cons (chk_cons chk_nil))))) rfl (.inr (by decide)))) (da_cons (de_tup (da_cons de_int (da_cons de_int da_nil))) da_nil))))) (chk_cons (chk_cons (chk_cons (chk_cons (chk_cons chk_nil)))))))) (fun _ _ _ q => q) (.inr (by decide)) (.inr rfl)) (dss_cons (asgK_of (k := true) (ps_set (i := 10) sc_law_right.nd rfl (.inl rfl) (dk_ofN (dn_lst (da_cons (de_callD h_slope_run (hr.mono (by decide)) (da_cons (de_var (pv 1) rfl) (da_cons (de_b1 c1_tuple (pe_callTy call_tuple_of (by rfl) B.tuple (by decide +kernel) (pa_cons (DE.up (de_var (pv 7) rfl)) pa_nil))) (da_cons (de_var (pv 8) rfl) (da_cons (de_var (pv 5) rfl) (da_cons (de_var (pv 3) rfl) da_nil))))) (chk_cons (chk_cons (chk_cons (chk_cons (chk_cons chk_nil)))))) da_nil)))) (fun _ _ _ q => q) (.inr (by decide)) (.inl rfl)) (dss_cons (ds_app (ps_expr (pe_bm PySem.F.plainAttrs_list PySem.F.slot_list_append PySem.F.type_list_append mt_append (pv 10) (pa_cons (de_callKD0 (pm := [4, 3, 2, 1, 0]) (ks := ["length", "starts", "size", "polynomial", "rule"]) h_slope_run (hr.mono (by decide)) (dkw_cons (de_var (pv 3) rfl) (dkw_cons (de_var (pv 5) rfl) (dkw_cons (de_var (pv 8) rfl) (dkw_cons (de_b1 c1_tuple (pe_callTy call_tuple_of (by rfl) B.tuple (by decide +kernel) (pa_cons (DE.up (de_var (pv 7) rfl)) pa_nil))) (dkw_cons (de_var (pv 1) rfl) dkw_nil))))) (chk_cons (chk_cons (chk_cons (chk_cons (chk_cons chk_nil))))) (fun _ _ _ _ _ _ us ws h1 h2 => match us, ws, h1, h2 with | [], [_, _, _, _, _], _, _ => rfl)) pa_nil)))) (dss_cons (ds_if (dt_neS (DE.up (de_b1 c1_repr (pe_callB (call_show hg hr.units) (by rfl) B.repr (by decide +kernel) (pa_cons (de_varO (pv 10) rfl) pa_nil)))) (DE.up (de_b1 c1_repr (pe_callB (call_show hg hr.units) (by rfl) B.repr (by decide +kernel) (pa_cons (DE.up (DN.de (dn_lst (da_cons (de_var (pv 6) rfl) (da_cons (de_var (pv 6) rfl) da_nil))))) pa_nil))))) (dss_one (ds_ret de_bl)) dss_nil) (dss_cons (asgK_of (k := false) (ps_set (i := 11) sc_law_right.nd rfl (.inl rfl) (dk_of (de_callD h_order_of (hr.mono (by decide)) (da_cons (de_var (pv 1) rfl) da_nil) (chk_cons chk_nil)))) (fun _ _ _ q => q) (.inr (by decide)) (.inr rfl)) (dss_cons (ds_if (PW.pt (dw_or (dt_not (dt_val (de_isi (p := isi_int) (by decide +kernel) (pe_callB call_isi (by rfl) B.isinstance (by decide +kernel) (pa_cons (DE.up (de_var (pv 11) rfl)) (pa_cons (pe_bltn (by rfl) B.int (by decide +kernel) rfl) pa_nil)))))) (dw_or1 (dt_lt (DE.up (de_var (pv 11) rfl)) (DE.up de_int))))) (dss_one (ds_ret de_bl)) dss_nil) (dss_cons (asgK_of (k := false) (ps_set (i := 12) sc_law_right.nd rfl (.inr rfl) (dk_of (DN.de (dn_cat (DE.up (DN.de (dn_lc (pe_lc (own := [("each", 15)]) rfl sc_law_right.nd (di_rng1 (top := false) rfl (pi_range1 rfl B.range (pa_cons (DE.up (de_b2 c2_min (pe_callB (call_min2 rfl) (by rfl) B.min (by decide +kernel) (pa_cons (DE.up (de_var (pv 11) rfl)) (pa_cons (DE.up de_int) pa_nil))))) pa_nil))) (blkOk_by (N := N_law_right) (sc := defScope s_law_right) (own := [("each", 15)]) (by decide +kernel)) (fun _ _ _ _ _ => (dg_name (pg_name (i := 15) sc_law_right.nd rfl (.inl rfl)) rfl (.inr (by decide)))) (fun _ _ _ _ _ => pts_yes) (fun _ _ _ _ _ => (ds_callD h_law_small (hr.mono (by decide)) (pv 0) da_nil chk_nil))) rfl (.inr (by decide))))) (DE.up (DN.de (dn_lst (da_cons (de_tup (da_cons de_int (da_cons de_int da_nil))) da_nil)))))))) (fun _ _ _ q => q) (.inr (by decide)) (.inr rfl)) (dss_cons (asgK_of (k := false) (ps_set (i := 13) sc_law_right.nd rfl (.inl rfl) (dk_of (de_b1 c1_tuple (pe_callTy call_tuple_of (by rfl) B.tuple (by decide +kernel) (pa_cons (DE.up (de_sl (DE.up (DN.de (dn_lc (pe_lc (own := [("at", 16), ("each", 15)]) rfl sc_law_right.nd (di_enumA rfl (pi_enumA rfl B.enumerate (pa_cons (de_var (pv 12) rfl) pa_nil))) (blkOk_by (N := N_law_right) (sc := defScope s_law_right) (own := [("at", 16), ("each", 15)]) (by decide +kernel)) (fun _ _ _ _ _ => (dg_tup rfl (dgs_cons (dg_name (pg_name (i := 16) sc_law_right.nd rfl (.inl rfl)) rfl (.inr (by decide))) (dgs_cons (dg_name (pg_name (i := 15) sc_law_right.nd rfl (.inl rfl)) rfl (.inr (by decide))) dgs_nil)))) (fun _ _ _ _ _ => pts_yes) (fun _ _ _ _ _ => (de_callD h_law_times (hr.mono (by decide)) (da_cons (de_tup (da_cons (de_var (pv 16) rfl) (da_cons de_int da_nil))) (da_cons (de_var (pv 15) rfl) da_nil)) (chk_cons (chk_cons chk_nil))))) rfl (.inr (by decide))))) (do_some (DE.up de_int)) do_none)) pa_nil))))) (fun _ _ _ q => q) (.inr (by decide)) (.inr rfl)) (dss_cons (asgK_of (k := false) (ps_set (i := 14) sc_law_right.nd rfl (.inl rfl) (dk_of (de_b1 c1_tuple (pe_callTy call_tuple_of (by rfl) B.tuple (by decide +kernel) (pa_cons (DE.up (DN.de (dn_lc (pe_lc (own := [("each", 15)]) rfl sc_law_right.nd (di_seq (de_sl (DE.up (de_var (pv 9) rfl)) do_none (do_some (DE.up (de_add (DE.up (de_var (pv 2) rfl)) (DE.up (de_var (pv 3) rfl))))))) (blkOk_by (N := N_law_right) (sc := defScope s_law_right) (own := [("each", 15)]) (by decide +kernel)) (fun _ _ _ _ _ => (dg_name (pg_name (i := 15) sc_law_right.nd rfl (.inl rfl)) rfl (.inr (by decide)))) (fun _ _ _ _ _ => pts_yes) (fun _ _ _ _ _ => (de_callD h_law_at (hr.mono (by decide)) (da_cons (de_var (pv 12) rfl) (da_cons (de_var (pv 15) rfl) da_nil)) (chk_cons (chk_cons chk_nil))))) rfl (.inr (by decide))))) pa_nil))))) (fun _ _ _ q => q) (.inr (by decide)) (.inr rfl)) (dss_one (ds_ret (de_eqS (DE.up (de_b1 c1_repr (pe_callB (call_show hg hr.units) (by rfl) B.repr (by decide +kernel) (pa_cons (DE.up (de_callD h_slope_run (hr.mono (by decide)) (da_cons (de_var (pv 1) rfl) (da_cons (de_var (pv 13) rfl) (da_cons (de_var (pv 8) rfl) (da_cons (de_sl (DE.up (de_var (pv 14) rfl)) do_none (do_some (DE.up (de_var (pv 2) rfl)))) (da_cons (de_var (pv 3) rfl) da_nil))))) (chk_cons (chk_cons (chk_cons (chk_cons (chk_cons chk_nil))))))) pa_nil)))) (DE.up (de_b1 c1_repr (pe_callB (call_show hg hr.units) (by rfl) B.repr (by decide +kernel) (pa_cons (DE.up (de_var (pv 14) rfl)) pa_nil))))))))))))))))))))))))))))), hm, F.binds fun _ _ _ _ _ _ us hl => match us, hl with | [_], _ => rfl⟩
abbrev s_law : Stmt := stm 69
abbrev N_law : List Str := ["script", "turn"]
theorem sc_law : FnScope N_law ["script"] (defScope s_law) := ⟨rfl, rfl, rfl, by decide +kernel, rfl, by decide +kernel, by decide +kernel⟩
def den_law : SF := (retS (unE allQ (lcE (rng1I (binE maxQ (cE (.int 1)) (binE minQ (unE lenQ (varE 0)) (cE (.int 3))))) (nameG 1) yesB (callX f_law_right (callE f_law_sack (consA (varE 0) (consA (varE 1) nilA)))) [1])))
def f_law : List D → Option D := funV 2 den_law
theorem okG_law (B : Blt mg) (h_law_right : DefG P w K mg base 9 "_law_right" s_law_right ["sack"] (spS K 0 f_law_right)) (h_law_sack : DefOk P w K mg base 1 "_law_sack" s_law_sack ["script", "turn"] (spN K 2 f_law_sack)) {fa : Addr} {fd : FuncData} (F : Fun K "law" "law" s_law fa fd) : FnG P w K mg base 10 fa fd ["script"] (spV K 1 f_law) :=
  fn_VG (own' := []) (ol := []) F sc_law (fun _ _ _ _ _ _ _ _ hg hr => (dss_one (ds_ret (de_b1 c1_all (pe_callB (cr_all rfl) (by rfl) B.all (by decide +kernel) (pa_cons (DE.up (DN.de (dn_lc (pe_lc (own := [("turn", 1)]) rfl sc_law.nd (di_rng1 (top := false) rfl (pi_range1 rfl B.range (pa_cons (DE.up (de_b2 c2_max (pe_callB (call_max2 rfl) (by rfl) B.max (by decide +kernel) (pa_cons (DE.up de_int) (pa_cons (DE.up (de_b2 c2_min (pe_callB (call_min2 rfl) (by rfl) B.min (by decide +kernel) (pa_cons (DE.up (de_b1 c1_len (pe_callB call_len (by rfl) B.len PySem.boot_len (pa_cons (DE.up (de_var (pv 0) rfl)) pa_nil)))) (pa_cons (DE.up de_int) pa_nil))))) pa_nil))))) pa_nil))) (blkOk_by (N := N_law) (sc := defScope s_law) (own := [("turn", 1)]) (by decide +kernel)) (fun _ _ _ _ _ => (dg_name (pg_name (i := 1) sc_law.nd rfl (.inl rfl)) rfl (.inl rfl))) (fun _ _ _ _ _ => pts_yes) (fun _ _ _ _ _ => (de_callGX h_law_right hg hr (dn_callD h_law_sack (hr.mono (by decide)) (da_cons (de_var (pv 0) rfl) (da_cons (de_var (pv 1) rfl) da_nil)) (chk_cons (chk_cons chk_nil)))))) rfl (.inl rfl)))) pa_nil))))))
end
section
theorem top {l : PySem.W.OpenLaw} {w : World} {K : PySem.W.Frag} {h : Heap} {mg : Str → Option Value} {fa : Addr} (X : K.In h) (G : h.Ns mainGlobals mg) (hfa : mg "law" = some (.ref fa))
    {fa_is_whole : Addr} {oc_is_whole kV_is_whole dc_is_whole pm_is_whole cd_is_whole ct_is_whole : Value} {od_is_whole an_is_whole : Option Addr} {sl_is_whole : Array (Option Value)}
    {fa_are_wholes : Addr} {oc_are_wholes kV_are_wholes dc_are_wholes pm_are_wholes cd_are_wholes ct_are_wholes : Value} {od_are_wholes an_are_wholes : Option Addr} {sl_are_wholes : Array (Option Value)}
    {fa_is_between : Addr} {oc_is_between kV_is_between dc_is_between pm_is_between cd_is_between ct_is_between : Value} {od_is_between an_is_between : Option Addr} {sl_is_between : Array (Option Value)}
    {fa_divisor_of : Addr} {oc_divisor_of kV_divisor_of dc_divisor_of pm_divisor_of cd_divisor_of ct_divisor_of : Value} {od_divisor_of an_divisor_of : Option Addr} {sl_divisor_of : Array (Option Value)}
    {fa_is_reduced : Addr} {oc_is_reduced kV_is_reduced dc_is_reduced pm_is_reduced cd_is_reduced ct_is_reduced : Value} {od_is_reduced an_is_reduced : Option Addr} {sl_is_reduced : Array (Option Value)}
    {fa_raised : Addr} {oc_raised kV_raised dc_raised pm_raised cd_raised ct_raised : Value} {od_raised an_raised : Option Addr} {sl_raised : Array (Option Value)}
    {fa_is_ratio : Addr} {oc_is_ratio kV_is_ratio dc_is_ratio pm_is_ratio cd_is_ratio ct_is_ratio : Value} {od_is_ratio an_is_ratio : Option Addr} {sl_is_ratio : Array (Option Value)}
    {fa_ratio_with : Addr} {oc_ratio_with kV_ratio_with dc_ratio_with pm_ratio_with cd_ratio_with ct_ratio_with : Value} {od_ratio_with an_ratio_with : Option Addr} {sl_ratio_with : Array (Option Value)}
    {fa_ratio_sum : Addr} {oc_ratio_sum kV_ratio_sum dc_ratio_sum pm_ratio_sum cd_ratio_sum ct_ratio_sum : Value} {od_ratio_sum an_ratio_sum : Option Addr} {sl_ratio_sum : Array (Option Value)}
    {fa_ratio_less : Addr} {oc_ratio_less kV_ratio_less dc_ratio_less pm_ratio_less cd_ratio_less ct_ratio_less : Value} {od_ratio_less an_ratio_less : Option Addr} {sl_ratio_less : Array (Option Value)}
    {fa_ratio_product : Addr} {oc_ratio_product kV_ratio_product dc_ratio_product pm_ratio_product cd_ratio_product ct_ratio_product : Value} {od_ratio_product an_ratio_product : Option Addr} {sl_ratio_product : Array (Option Value)}
    {fa_ratio_over : Addr} {oc_ratio_over kV_ratio_over dc_ratio_over pm_ratio_over cd_ratio_over ct_ratio_over : Value} {od_ratio_over an_ratio_over : Option Addr} {sl_ratio_over : Array (Option Value)}
    {fa_are_ratios : Addr} {oc_are_ratios kV_are_ratios dc_are_ratios pm_are_ratios cd_are_ratios ct_are_ratios : Value} {od_are_ratios an_are_ratios : Option Addr} {sl_are_ratios : Array (Option Value)}
    {fa_is_parts : Addr} {oc_is_parts kV_is_parts dc_is_parts pm_is_parts cd_is_parts ct_is_parts : Value} {od_is_parts an_is_parts : Option Addr} {sl_is_parts : Array (Option Value)}
    {fa_sum_of_parts : Addr} {oc_sum_of_parts kV_sum_of_parts dc_sum_of_parts pm_sum_of_parts cd_sum_of_parts ct_sum_of_parts : Value} {od_sum_of_parts an_sum_of_parts : Option Addr} {sl_sum_of_parts : Array (Option Value)}
    {fa_is_ruled : Addr} {oc_is_ruled kV_is_ruled dc_is_ruled pm_is_ruled cd_is_ruled ct_is_ruled : Value} {od_is_ruled an_is_ruled : Option Addr} {sl_is_ruled : Array (Option Value)}
    {fa_many_steps : Addr} {oc_many_steps kV_many_steps dc_many_steps pm_many_steps cd_many_steps ct_many_steps : Value} {od_many_steps an_many_steps : Option Addr} {sl_many_steps : Array (Option Value)}
    {fa_defect : Addr} {oc_defect kV_defect dc_defect pm_defect cd_defect ct_defect : Value} {od_defect an_defect : Option Addr} {sl_defect : Array (Option Value)}
    {fa_order_told : Addr} {oc_order_told kV_order_told dc_order_told pm_order_told cd_order_told ct_order_told : Value} {od_order_told an_order_told : Option Addr} {sl_order_told : Array (Option Value)}
    {fa_check_fraction : Addr} {oc_check_fraction kV_check_fraction dc_check_fraction pm_check_fraction cd_check_fraction ct_check_fraction : Value} {od_check_fraction an_check_fraction : Option Addr} {sl_check_fraction : Array (Option Value)}
    {fa_check_polynomial : Addr} {oc_check_polynomial kV_check_polynomial dc_check_polynomial pm_check_polynomial cd_check_polynomial ct_check_polynomial : Value} {od_check_polynomial an_check_polynomial : Option Addr} {sl_check_polynomial : Array (Option Value)}
    {fa_check_rule : Addr} {oc_check_rule kV_check_rule dc_check_rule pm_check_rule cd_check_rule ct_check_rule : Value} {od_check_rule an_check_rule : Option Addr} {sl_check_rule : Array (Option Value)}
    {fa_check_number : Addr} {oc_check_number kV_check_number dc_check_number pm_check_number cd_check_number ct_check_number : Value} {od_check_number an_check_number : Option Addr} {sl_check_number : Array (Option Value)}
    {fa_check_starts : Addr} {oc_check_starts kV_check_starts dc_check_starts pm_check_starts cd_check_starts ct_check_starts : Value} {od_check_starts an_check_starts : Option Addr} {sl_check_starts : Array (Option Value)}
    {fa_check_size : Addr} {oc_check_size kV_check_size dc_check_size pm_check_size cd_check_size ct_check_size : Value} {od_check_size an_check_size : Option Addr} {sl_check_size : Array (Option Value)}
    {fa_told_at : Addr} {oc_told_at kV_told_at dc_told_at pm_told_at cd_told_at ct_told_at : Value} {od_told_at an_told_at : Option Addr} {sl_told_at : Array (Option Value)}
    {fa_run_on : Addr} {oc_run_on kV_run_on dc_run_on pm_run_on cd_run_on ct_run_on : Value} {od_run_on an_run_on : Option Addr} {sl_run_on : Array (Option Value)}
    {fa_test_run : Addr} {oc_test_run kV_test_run dc_test_run pm_test_run cd_test_run ct_test_run : Value} {od_test_run an_test_run : Option Addr} {sl_test_run : Array (Option Value)}
    {fa_push_of : Addr} {oc_push_of kV_push_of dc_push_of pm_push_of cd_push_of ct_push_of : Value} {od_push_of an_push_of : Option Addr} {sl_push_of : Array (Option Value)}
    {fa_slope_run : Addr} {oc_slope_run kV_slope_run dc_slope_run pm_slope_run cd_slope_run ct_slope_run : Value} {od_slope_run an_slope_run : Option Addr} {sl_slope_run : Array (Option Value)}
    {fa_order_of : Addr} {oc_order_of kV_order_of dc_order_of pm_order_of cd_order_of ct_order_of : Value} {od_order_of an_order_of : Option Addr} {sl_order_of : Array (Option Value)}
    {fa_law_sack : Addr} {oc_law_sack kV_law_sack dc_law_sack pm_law_sack cd_law_sack ct_law_sack : Value} {od_law_sack an_law_sack : Option Addr} {sl_law_sack : Array (Option Value)}
    {fa_law_pull : Addr} {oc_law_pull kV_law_pull dc_law_pull pm_law_pull cd_law_pull ct_law_pull : Value} {od_law_pull an_law_pull : Option Addr} {sl_law_pull : Array (Option Value)}
    {fa_law_pick : Addr} {oc_law_pick kV_law_pick dc_law_pick pm_law_pick cd_law_pick ct_law_pick : Value} {od_law_pick an_law_pick : Option Addr} {sl_law_pick : Array (Option Value)}
    {fa_law_f : Addr} {oc_law_f kV_law_f dc_law_f pm_law_f cd_law_f ct_law_f : Value} {od_law_f an_law_f : Option Addr} {sl_law_f : Array (Option Value)}
    {fa_law_plus : Addr} {oc_law_plus kV_law_plus dc_law_plus pm_law_plus cd_law_plus ct_law_plus : Value} {od_law_plus an_law_plus : Option Addr} {sl_law_plus : Array (Option Value)}
    {fa_law_less : Addr} {oc_law_less kV_law_less dc_law_less pm_law_less cd_law_less ct_law_less : Value} {od_law_less an_law_less : Option Addr} {sl_law_less : Array (Option Value)}
    {fa_law_times : Addr} {oc_law_times kV_law_times dc_law_times pm_law_times cd_law_times ct_law_times : Value} {od_law_times an_law_times : Option Addr} {sl_law_times : Array (Option Value)}
    {fa_law_over : Addr} {oc_law_over kV_law_over dc_law_over pm_law_over cd_law_over ct_law_over : Value} {od_law_over an_law_over : Option Addr} {sl_law_over : Array (Option Value)}
    {fa_law_product : Addr} {oc_law_product kV_law_product dc_law_product pm_law_product cd_law_product ct_law_product : Value} {od_law_product an_law_product : Option Addr} {sl_law_product : Array (Option Value)}
    {fa_law_known : Addr} {oc_law_known kV_law_known dc_law_known pm_law_known cd_law_known ct_law_known : Value} {od_law_known an_law_known : Option Addr} {sl_law_known : Array (Option Value)}
    {fa_law_small : Addr} {oc_law_small kV_law_small dc_law_small pm_law_small cd_law_small ct_law_small : Value} {od_law_small an_law_small : Option Addr} {sl_law_small : Array (Option Value)}
    {fa_law_drawn_first : Addr} {oc_law_drawn_first kV_law_drawn_first dc_law_drawn_first pm_law_drawn_first cd_law_drawn_first ct_law_drawn_first : Value} {od_law_drawn_first an_law_drawn_first : Option Addr} {sl_law_drawn_first : Array (Option Value)}
    {fa_law_drawn_rule : Addr} {oc_law_drawn_rule kV_law_drawn_rule dc_law_drawn_rule pm_law_drawn_rule cd_law_drawn_rule ct_law_drawn_rule : Value} {od_law_drawn_rule an_law_drawn_rule : Option Addr} {sl_law_drawn_rule : Array (Option Value)}
    {fa_law_at : Addr} {oc_law_at kV_law_at dc_law_at pm_law_at cd_law_at ct_law_at : Value} {od_law_at an_law_at : Option Addr} {sl_law_at : Array (Option Value)}
    {fa_law_grown : Addr} {oc_law_grown kV_law_grown dc_law_grown pm_law_grown cd_law_grown ct_law_grown : Value} {od_law_grown an_law_grown : Option Addr} {sl_law_grown : Array (Option Value)}
    {fa_law_told : Addr} {oc_law_told kV_law_told dc_law_told pm_law_told cd_law_told ct_law_told : Value} {od_law_told an_law_told : Option Addr} {sl_law_told : Array (Option Value)}
    {fa_law_right : Addr} {oc_law_right kV_law_right dc_law_right pm_law_right cd_law_right ct_law_right : Value} {od_law_right an_law_right : Option Addr} {sl_law_right : Array (Option Value)}
    {fa_law : Addr} {oc_law kV_law dc_law pm_law cd_law ct_law : Value} {od_law an_law : Option Addr} {sl_law : Array (Option Value)}
    {ga_ZERO : Addr} {gd_ZERO : Option Addr} {gi_ZERO : Array Value} {gn_ZERO : Nat} {gs_ZERO : Array (Option Value)}
    {tk_MOST_STEPS : Tok}
    {tk_LONGEST : Tok}
    {ca_LostStep : Addr}
    (z_len : PySem.W.nsIn K mainGlobals "len" = some none)
    (z_range : PySem.W.nsIn K mainGlobals "range" = some none)
    (z_zip : PySem.W.nsIn K mainGlobals "zip" = some none)
    (z_enumerate : PySem.W.nsIn K mainGlobals "enumerate" = some none)
    (z_reversed : PySem.W.nsIn K mainGlobals "reversed" = some none)
    (z_list : PySem.W.nsIn K mainGlobals "list" = some none)
    (z_tuple : PySem.W.nsIn K mainGlobals "tuple" = some none)
    (z_abs : PySem.W.nsIn K mainGlobals "abs" = some none)
    (z_max : PySem.W.nsIn K mainGlobals "max" = some none)
    (z_min : PySem.W.nsIn K mainGlobals "min" = some none)
    (z_int : PySem.W.nsIn K mainGlobals "int" = some none)
    (z_bool : PySem.W.nsIn K mainGlobals "bool" = some none)
    (z_str : PySem.W.nsIn K mainGlobals "str" = some none)
    (z_isinstance : PySem.W.nsIn K mainGlobals "isinstance" = some none)
    (z_all : PySem.W.nsIn K mainGlobals "all" = some none)
    (z_any : PySem.W.nsIn K mainGlobals "any" = some none)
    (z_sum : PySem.W.nsIn K mainGlobals "sum" = some none)
    (z_repr : PySem.W.nsIn K mainGlobals "repr" = some none)
    (z_divmod : PySem.W.nsIn K mainGlobals "divmod" = some none)
    (z_gcd : PySem.W.nsIn K mainGlobals "gcd" = some (some (.builtin "math.gcd")))
    (a_is_whole : PySem.W.nsIn K mainGlobals "is_whole" = some (some (.ref fa_is_whole)))
    (l_is_whole : K.lookup fa_is_whole = some ⟨oc_is_whole, od_is_whole, .func (PySem.W.fnOf "is_whole" "is_whole" (defArgs s_is_whole) (defBody s_is_whole) (defScope s_is_whole) .none kV_is_whole dc_is_whole pm_is_whole an_is_whole cd_is_whole ct_is_whole), sl_is_whole⟩)
    (c_is_whole : PySem.W.codeIn K cd_is_whole "is_whole" = true) (k_is_whole : PySem.W.keepIn K (.ref fa_is_whole) = true)
    (a_are_wholes : PySem.W.nsIn K mainGlobals "are_wholes" = some (some (.ref fa_are_wholes)))
    (l_are_wholes : K.lookup fa_are_wholes = some ⟨oc_are_wholes, od_are_wholes, .func (PySem.W.fnOf "are_wholes" "are_wholes" (defArgs s_are_wholes) (defBody s_are_wholes) (defScope s_are_wholes) .none kV_are_wholes dc_are_wholes pm_are_wholes an_are_wholes cd_are_wholes ct_are_wholes), sl_are_wholes⟩)
    (c_are_wholes : PySem.W.codeIn K cd_are_wholes "are_wholes" = true) (k_are_wholes : PySem.W.keepIn K (.ref fa_are_wholes) = true)
    (a_is_between : PySem.W.nsIn K mainGlobals "is_between" = some (some (.ref fa_is_between)))
    (l_is_between : K.lookup fa_is_between = some ⟨oc_is_between, od_is_between, .func (PySem.W.fnOf "is_between" "is_between" (defArgs s_is_between) (defBody s_is_between) (defScope s_is_between) .none kV_is_between dc_is_between pm_is_between an_is_between cd_is_between ct_is_between), sl_is_between⟩)
    (c_is_between : PySem.W.codeIn K cd_is_between "is_between" = true) (k_is_between : PySem.W.keepIn K (.ref fa_is_between) = true)
    (a_divisor_of : PySem.W.nsIn K mainGlobals "divisor_of" = some (some (.ref fa_divisor_of)))
    (l_divisor_of : K.lookup fa_divisor_of = some ⟨oc_divisor_of, od_divisor_of, .func (PySem.W.fnOf "divisor_of" "divisor_of" (defArgs s_divisor_of) (defBody s_divisor_of) (defScope s_divisor_of) .none kV_divisor_of dc_divisor_of pm_divisor_of an_divisor_of cd_divisor_of ct_divisor_of), sl_divisor_of⟩)
    (c_divisor_of : PySem.W.codeIn K cd_divisor_of "divisor_of" = true) (k_divisor_of : PySem.W.keepIn K (.ref fa_divisor_of) = true)
    (a_is_reduced : PySem.W.nsIn K mainGlobals "is_reduced" = some (some (.ref fa_is_reduced)))
    (l_is_reduced : K.lookup fa_is_reduced = some ⟨oc_is_reduced, od_is_reduced, .func (PySem.W.fnOf "is_reduced" "is_reduced" (defArgs s_is_reduced) (defBody s_is_reduced) (defScope s_is_reduced) .none kV_is_reduced dc_is_reduced pm_is_reduced an_is_reduced cd_is_reduced ct_is_reduced), sl_is_reduced⟩)
    (c_is_reduced : PySem.W.codeIn K cd_is_reduced "is_reduced" = true) (k_is_reduced : PySem.W.keepIn K (.ref fa_is_reduced) = true)
    (a_raised : PySem.W.nsIn K mainGlobals "raised" = some (some (.ref fa_raised)))
    (l_raised : K.lookup fa_raised = some ⟨oc_raised, od_raised, .func (PySem.W.fnOf "raised" "raised" (defArgs s_raised) (defBody s_raised) (defScope s_raised) .none kV_raised dc_raised pm_raised an_raised cd_raised ct_raised), sl_raised⟩)
    (c_raised : PySem.W.codeIn K cd_raised "raised" = true) (k_raised : PySem.W.keepIn K (.ref fa_raised) = true)
    (a_is_ratio : PySem.W.nsIn K mainGlobals "is_ratio" = some (some (.ref fa_is_ratio)))
    (l_is_ratio : K.lookup fa_is_ratio = some ⟨oc_is_ratio, od_is_ratio, .func (PySem.W.fnOf "is_ratio" "is_ratio" (defArgs s_is_ratio) (defBody s_is_ratio) (defScope s_is_ratio) .none kV_is_ratio dc_is_ratio pm_is_ratio an_is_ratio cd_is_ratio ct_is_ratio), sl_is_ratio⟩)
    (c_is_ratio : PySem.W.codeIn K cd_is_ratio "is_ratio" = true) (k_is_ratio : PySem.W.keepIn K (.ref fa_is_ratio) = true)
    (a_ratio_with : PySem.W.nsIn K mainGlobals "ratio_with" = some (some (.ref fa_ratio_with)))
    (l_ratio_with : K.lookup fa_ratio_with = some ⟨oc_ratio_with, od_ratio_with, .func (PySem.W.fnOf "ratio_with" "ratio_with" (defArgs s_ratio_with) (defBody s_ratio_with) (defScope s_ratio_with) .none kV_ratio_with dc_ratio_with pm_ratio_with an_ratio_with cd_ratio_with ct_ratio_with), sl_ratio_with⟩)
    (c_ratio_with : PySem.W.codeIn K cd_ratio_with "ratio_with" = true) (k_ratio_with : PySem.W.keepIn K (.ref fa_ratio_with) = true)
    (a_ratio_sum : PySem.W.nsIn K mainGlobals "ratio_sum" = some (some (.ref fa_ratio_sum)))
    (l_ratio_sum : K.lookup fa_ratio_sum = some ⟨oc_ratio_sum, od_ratio_sum, .func (PySem.W.fnOf "ratio_sum" "ratio_sum" (defArgs s_ratio_sum) (defBody s_ratio_sum) (defScope s_ratio_sum) .none kV_ratio_sum dc_ratio_sum pm_ratio_sum an_ratio_sum cd_ratio_sum ct_ratio_sum), sl_ratio_sum⟩)
    (c_ratio_sum : PySem.W.codeIn K cd_ratio_sum "ratio_sum" = true) (k_ratio_sum : PySem.W.keepIn K (.ref fa_ratio_sum) = true)
    (a_ratio_less : PySem.W.nsIn K mainGlobals "ratio_less" = some (some (.ref fa_ratio_less)))
    (l_ratio_less : K.lookup fa_ratio_less = some ⟨oc_ratio_less, od_ratio_less, .func (PySem.W.fnOf "ratio_less" "ratio_less" (defArgs s_ratio_less) (defBody s_ratio_less) (defScope s_ratio_less) .none kV_ratio_less dc_ratio_less pm_ratio_less an_ratio_less cd_ratio_less ct_ratio_less), sl_ratio_less⟩)
    (c_ratio_less : PySem.W.codeIn K cd_ratio_less "ratio_less" = true) (k_ratio_less : PySem.W.keepIn K (.ref fa_ratio_less) = true)
    (a_ratio_product : PySem.W.nsIn K mainGlobals "ratio_product" = some (some (.ref fa_ratio_product)))
    (l_ratio_product : K.lookup fa_ratio_product = some ⟨oc_ratio_product, od_ratio_product, .func (PySem.W.fnOf "ratio_product" "ratio_product" (defArgs s_ratio_product) (defBody s_ratio_product) (defScope s_ratio_product) .none kV_ratio_product dc_ratio_product pm_ratio_product an_ratio_product cd_ratio_product ct_ratio_product), sl_ratio_product⟩)
    (c_ratio_product : PySem.W.codeIn K cd_ratio_product "ratio_product" = true) (k_ratio_product : PySem.W.keepIn K (.ref fa_ratio_product) = true)
    (a_ratio_over : PySem.W.nsIn K mainGlobals "ratio_over" = some (some (.ref fa_ratio_over)))
    (l_ratio_over : K.lookup fa_ratio_over = some ⟨oc_ratio_over, od_ratio_over, .func (PySem.W.fnOf "ratio_over" "ratio_over" (defArgs s_ratio_over) (defBody s_ratio_over) (defScope s_ratio_over) .none kV_ratio_over dc_ratio_over pm_ratio_over an_ratio_over cd_ratio_over ct_ratio_over), sl_ratio_over⟩)
    (c_ratio_over : PySem.W.codeIn K cd_ratio_over "ratio_over" = true) (k_ratio_over : PySem.W.keepIn K (.ref fa_ratio_over) = true)
    (a_are_ratios : PySem.W.nsIn K mainGlobals "are_ratios" = some (some (.ref fa_are_ratios)))
    (l_are_ratios : K.lookup fa_are_ratios = some ⟨oc_are_ratios, od_are_ratios, .func (PySem.W.fnOf "are_ratios" "are_ratios" (defArgs s_are_ratios) (defBody s_are_ratios) (defScope s_are_ratios) .none kV_are_ratios dc_are_ratios pm_are_ratios an_are_ratios cd_are_ratios ct_are_ratios), sl_are_ratios⟩)
    (c_are_ratios : PySem.W.codeIn K cd_are_ratios "are_ratios" = true) (k_are_ratios : PySem.W.keepIn K (.ref fa_are_ratios) = true)
    (a_is_parts : PySem.W.nsIn K mainGlobals "is_parts" = some (some (.ref fa_is_parts)))
    (l_is_parts : K.lookup fa_is_parts = some ⟨oc_is_parts, od_is_parts, .func (PySem.W.fnOf "is_parts" "is_parts" (defArgs s_is_parts) (defBody s_is_parts) (defScope s_is_parts) .none kV_is_parts dc_is_parts pm_is_parts an_is_parts cd_is_parts ct_is_parts), sl_is_parts⟩)
    (c_is_parts : PySem.W.codeIn K cd_is_parts "is_parts" = true) (k_is_parts : PySem.W.keepIn K (.ref fa_is_parts) = true)
    (a_sum_of_parts : PySem.W.nsIn K mainGlobals "sum_of_parts" = some (some (.ref fa_sum_of_parts)))
    (l_sum_of_parts : K.lookup fa_sum_of_parts = some ⟨oc_sum_of_parts, od_sum_of_parts, .func (PySem.W.fnOf "sum_of_parts" "sum_of_parts" (defArgs s_sum_of_parts) (defBody s_sum_of_parts) (defScope s_sum_of_parts) .none kV_sum_of_parts dc_sum_of_parts pm_sum_of_parts an_sum_of_parts cd_sum_of_parts ct_sum_of_parts), sl_sum_of_parts⟩)
    (c_sum_of_parts : PySem.W.codeIn K cd_sum_of_parts "sum_of_parts" = true) (k_sum_of_parts : PySem.W.keepIn K (.ref fa_sum_of_parts) = true)
    (a_is_ruled : PySem.W.nsIn K mainGlobals "is_ruled" = some (some (.ref fa_is_ruled)))
    (l_is_ruled : K.lookup fa_is_ruled = some ⟨oc_is_ruled, od_is_ruled, .func (PySem.W.fnOf "is_ruled" "is_ruled" (defArgs s_is_ruled) (defBody s_is_ruled) (defScope s_is_ruled) .none kV_is_ruled dc_is_ruled pm_is_ruled an_is_ruled cd_is_ruled ct_is_ruled), sl_is_ruled⟩)
    (c_is_ruled : PySem.W.codeIn K cd_is_ruled "is_ruled" = true) (k_is_ruled : PySem.W.keepIn K (.ref fa_is_ruled) = true)
    (a_many_steps : PySem.W.nsIn K mainGlobals "many_steps" = some (some (.ref fa_many_steps)))
    (l_many_steps : K.lookup fa_many_steps = some ⟨oc_many_steps, od_many_steps, .func (PySem.W.fnOf "many_steps" "many_steps" (defArgs s_many_steps) (defBody s_many_steps) (defScope s_many_steps) .none kV_many_steps dc_many_steps pm_many_steps an_many_steps cd_many_steps ct_many_steps), sl_many_steps⟩)
    (c_many_steps : PySem.W.codeIn K cd_many_steps "many_steps" = true) (k_many_steps : PySem.W.keepIn K (.ref fa_many_steps) = true)
    (a_defect : PySem.W.nsIn K mainGlobals "defect" = some (some (.ref fa_defect)))
    (l_defect : K.lookup fa_defect = some ⟨oc_defect, od_defect, .func (PySem.W.fnOf "defect" "defect" (defArgs s_defect) (defBody s_defect) (defScope s_defect) .none kV_defect dc_defect pm_defect an_defect cd_defect ct_defect), sl_defect⟩)
    (c_defect : PySem.W.codeIn K cd_defect "defect" = true) (k_defect : PySem.W.keepIn K (.ref fa_defect) = true)
    (a_order_told : PySem.W.nsIn K mainGlobals "order_told" = some (some (.ref fa_order_told)))
    (l_order_told : K.lookup fa_order_told = some ⟨oc_order_told, od_order_told, .func (PySem.W.fnOf "order_told" "order_told" (defArgs s_order_told) (defBody s_order_told) (defScope s_order_told) .none kV_order_told dc_order_told pm_order_told an_order_told cd_order_told ct_order_told), sl_order_told⟩)
    (c_order_told : PySem.W.codeIn K cd_order_told "order_told" = true) (k_order_told : PySem.W.keepIn K (.ref fa_order_told) = true)
    (a_check_fraction : PySem.W.nsIn K mainGlobals "check_fraction" = some (some (.ref fa_check_fraction)))
    (l_check_fraction : K.lookup fa_check_fraction = some ⟨oc_check_fraction, od_check_fraction, .func (PySem.W.fnOf "check_fraction" "check_fraction" (defArgs s_check_fraction) (defBody s_check_fraction) (defScope s_check_fraction) .none kV_check_fraction dc_check_fraction pm_check_fraction an_check_fraction cd_check_fraction ct_check_fraction), sl_check_fraction⟩)
    (c_check_fraction : PySem.W.codeIn K cd_check_fraction "check_fraction" = true) (k_check_fraction : PySem.W.keepIn K (.ref fa_check_fraction) = true)
    (a_check_polynomial : PySem.W.nsIn K mainGlobals "check_polynomial" = some (some (.ref fa_check_polynomial)))
    (l_check_polynomial : K.lookup fa_check_polynomial = some ⟨oc_check_polynomial, od_check_polynomial, .func (PySem.W.fnOf "check_polynomial" "check_polynomial" (defArgs s_check_polynomial) (defBody s_check_polynomial) (defScope s_check_polynomial) .none kV_check_polynomial dc_check_polynomial pm_check_polynomial an_check_polynomial cd_check_polynomial ct_check_polynomial), sl_check_polynomial⟩)
    (c_check_polynomial : PySem.W.codeIn K cd_check_polynomial "check_polynomial" = true) (k_check_polynomial : PySem.W.keepIn K (.ref fa_check_polynomial) = true)
    (a_check_rule : PySem.W.nsIn K mainGlobals "check_rule" = some (some (.ref fa_check_rule)))
    (l_check_rule : K.lookup fa_check_rule = some ⟨oc_check_rule, od_check_rule, .func (PySem.W.fnOf "check_rule" "check_rule" (defArgs s_check_rule) (defBody s_check_rule) (defScope s_check_rule) .none kV_check_rule dc_check_rule pm_check_rule an_check_rule cd_check_rule ct_check_rule), sl_check_rule⟩)
    (c_check_rule : PySem.W.codeIn K cd_check_rule "check_rule" = true) (k_check_rule : PySem.W.keepIn K (.ref fa_check_rule) = true)
    (a_check_number : PySem.W.nsIn K mainGlobals "check_number" = some (some (.ref fa_check_number)))
    (l_check_number : K.lookup fa_check_number = some ⟨oc_check_number, od_check_number, .func (PySem.W.fnOf "check_number" "check_number" (defArgs s_check_number) (defBody s_check_number) (defScope s_check_number) .none kV_check_number dc_check_number pm_check_number an_check_number cd_check_number ct_check_number), sl_check_number⟩)
    (c_check_number : PySem.W.codeIn K cd_check_number "check_number" = true) (k_check_number : PySem.W.keepIn K (.ref fa_check_number) = true)
    (a_check_starts : PySem.W.nsIn K mainGlobals "check_starts" = some (some (.ref fa_check_starts)))
    (l_check_starts : K.lookup fa_check_starts = some ⟨oc_check_starts, od_check_starts, .func (PySem.W.fnOf "check_starts" "check_starts" (defArgs s_check_starts) (defBody s_check_starts) (defScope s_check_starts) .none kV_check_starts dc_check_starts pm_check_starts an_check_starts cd_check_starts ct_check_starts), sl_check_starts⟩)
    (c_check_starts : PySem.W.codeIn K cd_check_starts "check_starts" = true) (k_check_starts : PySem.W.keepIn K (.ref fa_check_starts) = true)
    (a_check_size : PySem.W.nsIn K mainGlobals "check_size" = some (some (.ref fa_check_size)))
    (l_check_size : K.lookup fa_check_size = some ⟨oc_check_size, od_check_size, .func (PySem.W.fnOf "check_size" "check_size" (defArgs s_check_size) (defBody s_check_size) (defScope s_check_size) .none kV_check_size dc_check_size pm_check_size an_check_size cd_check_size ct_check_size), sl_check_size⟩)
    (c_check_size : PySem.W.codeIn K cd_check_size "check_size" = true) (k_check_size : PySem.W.keepIn K (.ref fa_check_size) = true)
    (a_told_at : PySem.W.nsIn K mainGlobals "told_at" = some (some (.ref fa_told_at)))
    (l_told_at : K.lookup fa_told_at = some ⟨oc_told_at, od_told_at, .func (PySem.W.fnOf "told_at" "told_at" (defArgs s_told_at) (defBody s_told_at) (defScope s_told_at) .none kV_told_at dc_told_at pm_told_at an_told_at cd_told_at ct_told_at), sl_told_at⟩)
    (c_told_at : PySem.W.codeIn K cd_told_at "told_at" = true) (k_told_at : PySem.W.keepIn K (.ref fa_told_at) = true)
    (a_run_on : PySem.W.nsIn K mainGlobals "run_on" = some (some (.ref fa_run_on)))
    (l_run_on : K.lookup fa_run_on = some ⟨oc_run_on, od_run_on, .func (PySem.W.fnOf "run_on" "run_on" (defArgs s_run_on) (defBody s_run_on) (defScope s_run_on) .none kV_run_on dc_run_on pm_run_on an_run_on cd_run_on ct_run_on), sl_run_on⟩)
    (c_run_on : PySem.W.codeIn K cd_run_on "run_on" = true) (k_run_on : PySem.W.keepIn K (.ref fa_run_on) = true)
    (a_test_run : PySem.W.nsIn K mainGlobals "test_run" = some (some (.ref fa_test_run)))
    (l_test_run : K.lookup fa_test_run = some ⟨oc_test_run, od_test_run, .func (PySem.W.fnOf "test_run" "test_run" (defArgs s_test_run) (defBody s_test_run) (defScope s_test_run) .none kV_test_run dc_test_run pm_test_run an_test_run cd_test_run ct_test_run), sl_test_run⟩)
    (c_test_run : PySem.W.codeIn K cd_test_run "test_run" = true) (k_test_run : PySem.W.keepIn K (.ref fa_test_run) = true)
    (a_push_of : PySem.W.nsIn K mainGlobals "push_of" = some (some (.ref fa_push_of)))
    (l_push_of : K.lookup fa_push_of = some ⟨oc_push_of, od_push_of, .func (PySem.W.fnOf "push_of" "push_of" (defArgs s_push_of) (defBody s_push_of) (defScope s_push_of) .none kV_push_of dc_push_of pm_push_of an_push_of cd_push_of ct_push_of), sl_push_of⟩)
    (c_push_of : PySem.W.codeIn K cd_push_of "push_of" = true) (k_push_of : PySem.W.keepIn K (.ref fa_push_of) = true)
    (a_slope_run : PySem.W.nsIn K mainGlobals "slope_run" = some (some (.ref fa_slope_run)))
    (l_slope_run : K.lookup fa_slope_run = some ⟨oc_slope_run, od_slope_run, .func (PySem.W.fnOf "slope_run" "slope_run" (defArgs s_slope_run) (defBody s_slope_run) (defScope s_slope_run) .none kV_slope_run dc_slope_run pm_slope_run an_slope_run cd_slope_run ct_slope_run), sl_slope_run⟩)
    (c_slope_run : PySem.W.codeIn K cd_slope_run "slope_run" = true) (k_slope_run : PySem.W.keepIn K (.ref fa_slope_run) = true)
    (a_order_of : PySem.W.nsIn K mainGlobals "order_of" = some (some (.ref fa_order_of)))
    (l_order_of : K.lookup fa_order_of = some ⟨oc_order_of, od_order_of, .func (PySem.W.fnOf "order_of" "order_of" (defArgs s_order_of) (defBody s_order_of) (defScope s_order_of) .none kV_order_of dc_order_of pm_order_of an_order_of cd_order_of ct_order_of), sl_order_of⟩)
    (c_order_of : PySem.W.codeIn K cd_order_of "order_of" = true) (k_order_of : PySem.W.keepIn K (.ref fa_order_of) = true)
    (a_law_sack : PySem.W.nsIn K mainGlobals "_law_sack" = some (some (.ref fa_law_sack)))
    (l_law_sack : K.lookup fa_law_sack = some ⟨oc_law_sack, od_law_sack, .func (PySem.W.fnOf "_law_sack" "_law_sack" (defArgs s_law_sack) (defBody s_law_sack) (defScope s_law_sack) .none kV_law_sack dc_law_sack pm_law_sack an_law_sack cd_law_sack ct_law_sack), sl_law_sack⟩)
    (c_law_sack : PySem.W.codeIn K cd_law_sack "_law_sack" = true) (k_law_sack : PySem.W.keepIn K (.ref fa_law_sack) = true)
    (a_law_pull : PySem.W.nsIn K mainGlobals "_law_pull" = some (some (.ref fa_law_pull)))
    (l_law_pull : K.lookup fa_law_pull = some ⟨oc_law_pull, od_law_pull, .func (PySem.W.fnOf "_law_pull" "_law_pull" (defArgs s_law_pull) (defBody s_law_pull) (defScope s_law_pull) .none kV_law_pull dc_law_pull pm_law_pull an_law_pull cd_law_pull ct_law_pull), sl_law_pull⟩)
    (c_law_pull : PySem.W.codeIn K cd_law_pull "_law_pull" = true) (k_law_pull : PySem.W.keepIn K (.ref fa_law_pull) = true)
    (a_law_pick : PySem.W.nsIn K mainGlobals "_law_pick" = some (some (.ref fa_law_pick)))
    (l_law_pick : K.lookup fa_law_pick = some ⟨oc_law_pick, od_law_pick, .func (PySem.W.fnOf "_law_pick" "_law_pick" (defArgs s_law_pick) (defBody s_law_pick) (defScope s_law_pick) .none kV_law_pick dc_law_pick pm_law_pick an_law_pick cd_law_pick ct_law_pick), sl_law_pick⟩)
    (c_law_pick : PySem.W.codeIn K cd_law_pick "_law_pick" = true) (k_law_pick : PySem.W.keepIn K (.ref fa_law_pick) = true)
    (a_law_f : PySem.W.nsIn K mainGlobals "_law_f" = some (some (.ref fa_law_f)))
    (l_law_f : K.lookup fa_law_f = some ⟨oc_law_f, od_law_f, .func (PySem.W.fnOf "_law_f" "_law_f" (defArgs s_law_f) (defBody s_law_f) (defScope s_law_f) .none kV_law_f dc_law_f pm_law_f an_law_f cd_law_f ct_law_f), sl_law_f⟩)
    (c_law_f : PySem.W.codeIn K cd_law_f "_law_f" = true) (k_law_f : PySem.W.keepIn K (.ref fa_law_f) = true)
    (a_law_plus : PySem.W.nsIn K mainGlobals "_law_plus" = some (some (.ref fa_law_plus)))
    (l_law_plus : K.lookup fa_law_plus = some ⟨oc_law_plus, od_law_plus, .func (PySem.W.fnOf "_law_plus" "_law_plus" (defArgs s_law_plus) (defBody s_law_plus) (defScope s_law_plus) .none kV_law_plus dc_law_plus pm_law_plus an_law_plus cd_law_plus ct_law_plus), sl_law_plus⟩)
    (c_law_plus : PySem.W.codeIn K cd_law_plus "_law_plus" = true) (k_law_plus : PySem.W.keepIn K (.ref fa_law_plus) = true)
    (a_law_less : PySem.W.nsIn K mainGlobals "_law_less" = some (some (.ref fa_law_less)))
    (l_law_less : K.lookup fa_law_less = some ⟨oc_law_less, od_law_less, .func (PySem.W.fnOf "_law_less" "_law_less" (defArgs s_law_less) (defBody s_law_less) (defScope s_law_less) .none kV_law_less dc_law_less pm_law_less an_law_less cd_law_less ct_law_less), sl_law_less⟩)
    (c_law_less : PySem.W.codeIn K cd_law_less "_law_less" = true) (k_law_less : PySem.W.keepIn K (.ref fa_law_less) = true)
    (a_law_times : PySem.W.nsIn K mainGlobals "_law_times" = some (some (.ref fa_law_times)))
    (l_law_times : K.lookup fa_law_times = some ⟨oc_law_times, od_law_times, .func (PySem.W.fnOf "_law_times" "_law_times" (defArgs s_law_times) (defBody s_law_times) (defScope s_law_times) .none kV_law_times dc_law_times pm_law_times an_law_times cd_law_times ct_law_times), sl_law_times⟩)
    (c_law_times : PySem.W.codeIn K cd_law_times "_law_times" = true) (k_law_times : PySem.W.keepIn K (.ref fa_law_times) = true)
    (a_law_over : PySem.W.nsIn K mainGlobals "_law_over" = some (some (.ref fa_law_over)))
    (l_law_over : K.lookup fa_law_over = some ⟨oc_law_over, od_law_over, .func (PySem.W.fnOf "_law_over" "_law_over" (defArgs s_law_over) (defBody s_law_over) (defScope s_law_over) .none kV_law_over dc_law_over pm_law_over an_law_over cd_law_over ct_law_over), sl_law_over⟩)
    (c_law_over : PySem.W.codeIn K cd_law_over "_law_over" = true) (k_law_over : PySem.W.keepIn K (.ref fa_law_over) = true)
    (a_law_product : PySem.W.nsIn K mainGlobals "_law_product" = some (some (.ref fa_law_product)))
    (l_law_product : K.lookup fa_law_product = some ⟨oc_law_product, od_law_product, .func (PySem.W.fnOf "_law_product" "_law_product" (defArgs s_law_product) (defBody s_law_product) (defScope s_law_product) .none kV_law_product dc_law_product pm_law_product an_law_product cd_law_product ct_law_product), sl_law_product⟩)
    (c_law_product : PySem.W.codeIn K cd_law_product "_law_product" = true) (k_law_product : PySem.W.keepIn K (.ref fa_law_product) = true)
    (a_law_known : PySem.W.nsIn K mainGlobals "_law_known" = some (some (.ref fa_law_known)))
    (l_law_known : K.lookup fa_law_known = some ⟨oc_law_known, od_law_known, .func (PySem.W.fnOf "_law_known" "_law_known" (defArgs s_law_known) (defBody s_law_known) (defScope s_law_known) .none kV_law_known dc_law_known pm_law_known an_law_known cd_law_known ct_law_known), sl_law_known⟩)
    (c_law_known : PySem.W.codeIn K cd_law_known "_law_known" = true) (k_law_known : PySem.W.keepIn K (.ref fa_law_known) = true)
    (a_law_small : PySem.W.nsIn K mainGlobals "_law_small" = some (some (.ref fa_law_small)))
    (l_law_small : K.lookup fa_law_small = some ⟨oc_law_small, od_law_small, .func (PySem.W.fnOf "_law_small" "_law_small" (defArgs s_law_small) (defBody s_law_small) (defScope s_law_small) .none kV_law_small dc_law_small pm_law_small an_law_small cd_law_small ct_law_small), sl_law_small⟩)
    (c_law_small : PySem.W.codeIn K cd_law_small "_law_small" = true) (k_law_small : PySem.W.keepIn K (.ref fa_law_small) = true)
    (a_law_drawn_first : PySem.W.nsIn K mainGlobals "_law_drawn_first" = some (some (.ref fa_law_drawn_first)))
    (l_law_drawn_first : K.lookup fa_law_drawn_first = some ⟨oc_law_drawn_first, od_law_drawn_first, .func (PySem.W.fnOf "_law_drawn_first" "_law_drawn_first" (defArgs s_law_drawn_first) (defBody s_law_drawn_first) (defScope s_law_drawn_first) .none kV_law_drawn_first dc_law_drawn_first pm_law_drawn_first an_law_drawn_first cd_law_drawn_first ct_law_drawn_first), sl_law_drawn_first⟩)
    (c_law_drawn_first : PySem.W.codeIn K cd_law_drawn_first "_law_drawn_first" = true) (k_law_drawn_first : PySem.W.keepIn K (.ref fa_law_drawn_first) = true)
    (a_law_drawn_rule : PySem.W.nsIn K mainGlobals "_law_drawn_rule" = some (some (.ref fa_law_drawn_rule)))
    (l_law_drawn_rule : K.lookup fa_law_drawn_rule = some ⟨oc_law_drawn_rule, od_law_drawn_rule, .func (PySem.W.fnOf "_law_drawn_rule" "_law_drawn_rule" (defArgs s_law_drawn_rule) (defBody s_law_drawn_rule) (defScope s_law_drawn_rule) .none kV_law_drawn_rule dc_law_drawn_rule pm_law_drawn_rule an_law_drawn_rule cd_law_drawn_rule ct_law_drawn_rule), sl_law_drawn_rule⟩)
    (c_law_drawn_rule : PySem.W.codeIn K cd_law_drawn_rule "_law_drawn_rule" = true) (k_law_drawn_rule : PySem.W.keepIn K (.ref fa_law_drawn_rule) = true)
    (a_law_at : PySem.W.nsIn K mainGlobals "_law_at" = some (some (.ref fa_law_at)))
    (l_law_at : K.lookup fa_law_at = some ⟨oc_law_at, od_law_at, .func (PySem.W.fnOf "_law_at" "_law_at" (defArgs s_law_at) (defBody s_law_at) (defScope s_law_at) .none kV_law_at dc_law_at pm_law_at an_law_at cd_law_at ct_law_at), sl_law_at⟩)
    (c_law_at : PySem.W.codeIn K cd_law_at "_law_at" = true) (k_law_at : PySem.W.keepIn K (.ref fa_law_at) = true)
    (a_law_grown : PySem.W.nsIn K mainGlobals "_law_grown" = some (some (.ref fa_law_grown)))
    (l_law_grown : K.lookup fa_law_grown = some ⟨oc_law_grown, od_law_grown, .func (PySem.W.fnOf "_law_grown" "_law_grown" (defArgs s_law_grown) (defBody s_law_grown) (defScope s_law_grown) .none kV_law_grown dc_law_grown pm_law_grown an_law_grown cd_law_grown ct_law_grown), sl_law_grown⟩)
    (c_law_grown : PySem.W.codeIn K cd_law_grown "_law_grown" = true) (k_law_grown : PySem.W.keepIn K (.ref fa_law_grown) = true)
    (a_law_told : PySem.W.nsIn K mainGlobals "_law_told" = some (some (.ref fa_law_told)))
    (l_law_told : K.lookup fa_law_told = some ⟨oc_law_told, od_law_told, .func (PySem.W.fnOf "_law_told" "_law_told" (defArgs s_law_told) (defBody s_law_told) (defScope s_law_told) .none kV_law_told dc_law_told pm_law_told an_law_told cd_law_told ct_law_told), sl_law_told⟩)
    (c_law_told : PySem.W.codeIn K cd_law_told "_law_told" = true) (k_law_told : PySem.W.keepIn K (.ref fa_law_told) = true)
    (a_law_right : PySem.W.nsIn K mainGlobals "_law_right" = some (some (.ref fa_law_right)))
    (l_law_right : K.lookup fa_law_right = some ⟨oc_law_right, od_law_right, .func (PySem.W.fnOf "_law_right" "_law_right" (defArgs s_law_right) (defBody s_law_right) (defScope s_law_right) .none kV_law_right dc_law_right pm_law_right an_law_right cd_law_right ct_law_right), sl_law_right⟩)
    (c_law_right : PySem.W.codeIn K cd_law_right "_law_right" = true) (k_law_right : PySem.W.keepIn K (.ref fa_law_right) = true)
    (a_law : PySem.W.nsIn K mainGlobals "law" = some (some (.ref fa_law)))
    (l_law : K.lookup fa_law = some ⟨oc_law, od_law, .func (PySem.W.fnOf "law" "law" (defArgs s_law) (defBody s_law) (defScope s_law) .none kV_law dc_law pm_law an_law cd_law ct_law), sl_law⟩)
    (c_law : PySem.W.codeIn K cd_law "law" = true) (k_law : PySem.W.keepIn K (.ref fa_law) = true)
    (y_ZERO : PySem.W.nsIn K mainGlobals "ZERO" = some (some (.ref ga_ZERO))) (w_ZERO : K.lookup ga_ZERO = some ⟨.type "tuple", gd_ZERO, .seq gi_ZERO gn_ZERO, gs_ZERO⟩) (u_ZERO : (decide (gi_ZERO.size ≤ 1000) && decide ((gi_ZERO.toList.map fun v => match v with | .int i _ => some i | _ => none) = ([0, 1] : List Int).map some)) = true)
    (y_MOST_STEPS : PySem.W.nsIn K mainGlobals "MOST_STEPS" = some (some (.int 8 tk_MOST_STEPS)))
    (y_LONGEST : PySem.W.nsIn K mainGlobals "LONGEST" = some (some (.int 60 tk_LONGEST)))
    (a_LostStep : PySem.W.nsIn K mainGlobals "LostStep" = some (some (.ref ca_LostStep))) (k_LostStep : PySem.W.keepIn K (.ref ca_LostStep) = true) (x_LostStep : PySem.W.excIn K ca_LostStep [.type "ValueError", .type "Exception", .type "BaseException", .type "object"] "ValueError.__new__" = true) (s_LostStep : PySem.W.subIn K (.ref ca_LostStep) (.type "BaseException") = some true) (t_LostStep : PySem.W.typeIn K (.ref ca_LostStep) = some (.type "type")) (m_LostStep : PySem.W.subIn K (.ref ca_LostStep) (.ref ca_LostStep) = some true) :
    ∃ fd : FuncData, (∀ (s : Shared) (u : Value), BindsTo s fd ⟨[u], []⟩ [("script", u)]) ∧ ∀ base : Heap, K.In base → base.Ns mainGlobals mg → FnG l.prog w K mg base 10 fa fd ["script"] (spV K 1 f_law) := by
  have B : Blt mg := ⟨PySem.W.mg_none_of X G z_len, PySem.W.mg_none_of X G z_range, PySem.W.mg_none_of X G z_zip, PySem.W.mg_none_of X G z_enumerate, PySem.W.mg_none_of X G z_reversed, PySem.W.mg_none_of X G z_list, PySem.W.mg_none_of X G z_tuple, PySem.W.mg_none_of X G z_abs, PySem.W.mg_none_of X G z_max, PySem.W.mg_none_of X G z_min, PySem.W.mg_none_of X G z_int, PySem.W.mg_none_of X G z_bool, PySem.W.mg_none_of X G z_str, PySem.W.mg_none_of X G z_isinstance, PySem.W.mg_none_of X G z_all, PySem.W.mg_none_of X G z_any, PySem.W.mg_none_of X G z_sum, PySem.W.mg_none_of X G z_repr, PySem.W.mg_none_of X G z_divmod, PySem.W.mg_of X G z_gcd⟩
  have v_ZERO : VD K c_ZERO (.ref ga_ZERO) := by
    simp only [Bool.and_eq_true, decide_eq_true_eq] at u_ZERO
    exact VD.tup w_ZERO rfl rfl u_ZERO.1 (VD.ints [0, 1] _ u_ZERO.2)
  have g_ZERO : GlD K mg "ZERO" c_ZERO := GlD.of (PySem.W.mg_of X G y_ZERO) v_ZERO
  have g_MOST_STEPS : GlD K mg "MOST_STEPS" c_MOST_STEPS := GlD.int (PySem.W.mg_of X G y_MOST_STEPS)
  have g_LONGEST : GlD K mg "LONGEST" c_LONGEST := GlD.int (PySem.W.mg_of X G y_LONGEST)
  have e_LostStep : ExcC K mg "LostStep" ca_LostStep := ⟨PySem.W.mg_of X G a_LostStep, k_LostStep, x_LostStep, s_LostStep, t_LostStep, m_LostStep⟩
  have e := hfa.symm.trans (PySem.W.mg_of X G a_law)
  cases e
  refine ⟨PySem.W.fnOf "law" "law" (defArgs s_law) (defBody s_law) (defScope s_law) .none kV_law dc_law pm_law an_law cd_law ct_law, fun s v => .of_eq rfl, fun base _ _ => ?_⟩
  have h_is_whole := ok_is_whole (P := l.prog) (w := w) (base := base) B  (fun_mk (st := s_is_whole) l_is_whole c_is_whole k_is_whole) (PySem.W.mg_of X G a_is_whole)
  have h_divisor_of := ok_divisor_of (P := l.prog) (w := w) (base := base) B  (fun_mk (st := s_divisor_of) l_divisor_of c_divisor_of k_divisor_of) (PySem.W.mg_of X G a_divisor_of)
  have h_raised := ok_raised (P := l.prog) (w := w) (base := base) B  (fun_mk (st := s_raised) l_raised c_raised k_raised) (PySem.W.mg_of X G a_raised)
  have h_many_steps := ok_many_steps (P := l.prog) (w := w) (base := base) B  (fun_mk (st := s_many_steps) l_many_steps c_many_steps k_many_steps) (PySem.W.mg_of X G a_many_steps)
  have h_law_sack := ok_law_sack (P := l.prog) (w := w) (base := base) B  (fun_mk (st := s_law_sack) l_law_sack c_law_sack k_law_sack) (PySem.W.mg_of X G a_law_sack)
  have h_law_pull := ok_law_pull (P := l.prog) (w := w) (base := base) B  (fun_mk (st := s_law_pull) l_law_pull c_law_pull k_law_pull) (PySem.W.mg_of X G a_law_pull)
  have h_law_f := ok_law_f (P := l.prog) (w := w) (base := base) B  (fun_mk (st := s_law_f) l_law_f c_law_f k_law_f) (PySem.W.mg_of X G a_law_f)
  have h_law_known := ok_law_known (P := l.prog) (w := w) (base := base) B  (fun_mk (st := s_law_known) l_law_known c_law_known k_law_known) (PySem.W.mg_of X G a_law_known)
  have h_are_wholes := ok_are_wholes (P := l.prog) (w := w) (base := base) B h_is_whole (fun_mk (st := s_are_wholes) l_are_wholes c_are_wholes k_are_wholes) (PySem.W.mg_of X G a_are_wholes)
  have h_is_between := ok_is_between (P := l.prog) (w := w) (base := base) B h_is_whole (fun_mk (st := s_is_between) l_is_between c_is_between k_is_between) (PySem.W.mg_of X G a_is_between)
  have h_is_reduced := ok_is_reduced (P := l.prog) (w := w) (base := base) B h_divisor_of (fun_mk (st := s_is_reduced) l_is_reduced c_is_reduced k_is_reduced) (PySem.W.mg_of X G a_is_reduced)
  have h_ratio_with := ok_ratio_with (P := l.prog) (w := w) (base := base) B h_divisor_of (fun_mk (st := s_ratio_with) l_ratio_with c_ratio_with k_ratio_with) (PySem.W.mg_of X G a_ratio_with)
  have h_law_pick := ok_law_pick (P := l.prog) (w := w) (base := base) B h_law_pull (fun_mk (st := s_law_pick) l_law_pick c_law_pick k_law_pick) (PySem.W.mg_of X G a_law_pick)
  have h_law_plus := ok_law_plus (P := l.prog) (w := w) (base := base) B h_law_f (fun_mk (st := s_law_plus) l_law_plus c_law_plus k_law_plus) (PySem.W.mg_of X G a_law_plus)
  have h_law_less := ok_law_less (P := l.prog) (w := w) (base := base) B h_law_f (fun_mk (st := s_law_less) l_law_less c_law_less k_law_less) (PySem.W.mg_of X G a_law_less)
  have h_law_times := ok_law_times (P := l.prog) (w := w) (base := base) B h_law_f (fun_mk (st := s_law_times) l_law_times c_law_times k_law_times) (PySem.W.mg_of X G a_law_times)
  have h_law_over := ok_law_over (P := l.prog) (w := w) (base := base) B h_law_f (fun_mk (st := s_law_over) l_law_over c_law_over k_law_over) (PySem.W.mg_of X G a_law_over)
  have h_law_small := ok_law_small (P := l.prog) (w := w) (base := base) B h_law_f h_law_pull (fun_mk (st := s_law_small) l_law_small c_law_small k_law_small) (PySem.W.mg_of X G a_law_small)
  have h_is_ratio := ok_is_ratio (P := l.prog) (w := w) (base := base) B h_are_wholes h_is_reduced (fun_mk (st := s_is_ratio) l_is_ratio c_is_ratio k_is_ratio) (PySem.W.mg_of X G a_is_ratio)
  have h_ratio_sum := ok_ratio_sum (P := l.prog) (w := w) (base := base) B h_ratio_with (fun_mk (st := s_ratio_sum) l_ratio_sum c_ratio_sum k_ratio_sum) (PySem.W.mg_of X G a_ratio_sum)
  have h_ratio_less := ok_ratio_less (P := l.prog) (w := w) (base := base) B h_ratio_with (fun_mk (st := s_ratio_less) l_ratio_less c_ratio_less k_ratio_less) (PySem.W.mg_of X G a_ratio_less)
  have h_ratio_product := ok_ratio_product (P := l.prog) (w := w) (base := base) B h_ratio_with (fun_mk (st := s_ratio_product) l_ratio_product c_ratio_product k_ratio_product) (PySem.W.mg_of X G a_ratio_product)
  have h_ratio_over := ok_ratio_over (P := l.prog) (w := w) (base := base) B h_ratio_with (fun_mk (st := s_ratio_over) l_ratio_over c_ratio_over k_ratio_over) (PySem.W.mg_of X G a_ratio_over)
  have h_check_number := ok_check_number (P := l.prog) (w := w) (base := base) B h_is_between (fun_mk (st := s_check_number) l_check_number c_check_number k_check_number) (PySem.W.mg_of X G a_check_number)
  have h_law_product := ok_law_product (P := l.prog) (w := w) (base := base) B h_law_plus h_law_times (fun_mk (st := s_law_product) l_law_product c_law_product k_law_product) (PySem.W.mg_of X G a_law_product)
  have h_law_at := ok_law_at (P := l.prog) (w := w) (base := base) B h_law_plus h_law_times (fun_mk (st := s_law_at) l_law_at c_law_at k_law_at) (PySem.W.mg_of X G a_law_at)
  have h_law_grown := ok_law_grown (P := l.prog) (w := w) (base := base) B h_law_less h_law_over h_law_plus h_law_times (fun_mk (st := s_law_grown) l_law_grown c_law_grown k_law_grown) (PySem.W.mg_of X G a_law_grown)
  have h_are_ratios := ok_are_ratios (P := l.prog) (w := w) (base := base) B h_is_ratio (fun_mk (st := s_are_ratios) l_are_ratios c_are_ratios k_are_ratios) (PySem.W.mg_of X G a_are_ratios)
  have h_sum_of_parts := ok_sum_of_parts (P := l.prog) (w := w) (base := base) B h_ratio_sum g_ZERO (fun_mk (st := s_sum_of_parts) l_sum_of_parts c_sum_of_parts k_sum_of_parts) (PySem.W.mg_of X G a_sum_of_parts)
  have h_check_fraction := ok_check_fraction (P := l.prog) (w := w) (base := base) B h_is_ratio (fun_mk (st := s_check_fraction) l_check_fraction c_check_fraction k_check_fraction) (PySem.W.mg_of X G a_check_fraction)
  have h_check_starts := ok_check_starts (P := l.prog) (w := w) (base := base) B h_is_ratio h_many_steps (fun_mk (st := s_check_starts) l_check_starts c_check_starts k_check_starts) (PySem.W.mg_of X G a_check_starts)
  have h_check_size := ok_check_size (P := l.prog) (w := w) (base := base) B h_is_ratio (fun_mk (st := s_check_size) l_check_size c_check_size k_check_size) (PySem.W.mg_of X G a_check_size)
  have h_told_at := ok_told_at (P := l.prog) (w := w) (base := base) B h_ratio_product h_ratio_sum g_ZERO (fun_mk (st := s_told_at) l_told_at c_told_at k_told_at) (PySem.W.mg_of X G a_told_at)
  have h_run_on := ok_run_on (P := l.prog) (w := w) (base := base) B h_many_steps h_ratio_less h_ratio_over h_ratio_product (fun_mk (st := s_run_on) l_run_on c_run_on k_run_on) (PySem.W.mg_of X G a_run_on)
  have h_law_drawn_first := ok_law_drawn_first (P := l.prog) (w := w) (base := base) B h_law_pick h_law_product h_law_pull (fun_mk (st := s_law_drawn_first) l_law_drawn_first c_law_drawn_first k_law_drawn_first) (PySem.W.mg_of X G a_law_drawn_first)
  have h_is_parts := ok_is_parts (P := l.prog) (w := w) (base := base) B h_are_ratios g_ZERO (fun_mk (st := s_is_parts) l_is_parts c_is_parts k_is_parts) (PySem.W.mg_of X G a_is_parts)
  have h_is_ruled := ok_is_ruled (P := l.prog) (w := w) (base := base) B h_are_ratios g_MOST_STEPS g_ZERO (fun_mk (st := s_is_ruled) l_is_ruled c_is_ruled k_is_ruled) (PySem.W.mg_of X G a_is_ruled)
  have h_defect := ok_defect (P := l.prog) (w := w) (base := base) B h_raised h_ratio_less h_ratio_over h_ratio_product h_ratio_sum h_sum_of_parts g_ZERO (fun_mk (st := s_defect) l_defect c_defect k_defect) (PySem.W.mg_of X G a_defect)
  have h_push_of := ok_push_of (P := l.prog) (w := w) (base := base) B h_ratio_product h_ratio_sum h_told_at g_ZERO (fun_mk (st := s_push_of) l_push_of c_push_of k_push_of) (PySem.W.mg_of X G a_push_of)
  have h_law_drawn_rule := ok_law_drawn_rule (P := l.prog) (w := w) (base := base) B h_law_drawn_first h_law_f h_law_known h_law_less h_law_pick h_law_plus h_law_pull h_law_small h_law_times (fun_mk (st := s_law_drawn_rule) l_law_drawn_rule c_law_drawn_rule k_law_drawn_rule) (PySem.W.mg_of X G a_law_drawn_rule)
  have h_order_told := ok_order_told (P := l.prog) (w := w) (base := base) B h_defect g_ZERO (fun_mk (st := s_order_told) l_order_told c_order_told k_order_told) (PySem.W.mg_of X G a_order_told)
  have h_check_polynomial := ok_check_polynomial (P := l.prog) (w := w) (base := base) B h_is_parts (fun_mk (st := s_check_polynomial) l_check_polynomial c_check_polynomial k_check_polynomial) (PySem.W.mg_of X G a_check_polynomial)
  have h_check_rule := ok_check_rule (P := l.prog) (w := w) (base := base) B h_is_ruled (fun_mk (st := s_check_rule) l_check_rule c_check_rule k_check_rule) (PySem.W.mg_of X G a_check_rule)
  have h_test_run := ok_test_run (P := l.prog) (w := w) (base := base) B h_check_fraction h_check_number h_check_rule h_check_starts h_ratio_less h_ratio_product h_run_on g_LONGEST g_ZERO (fun_mk (st := s_test_run) l_test_run c_test_run k_test_run) (PySem.W.mg_of X G a_test_run)
  have h_test_runX := ok_test_runX (P := l.prog) (w := w) (base := base) B e_LostStep h_check_fraction h_check_number h_check_rule h_check_starts h_ratio_less h_ratio_product h_run_on g_LONGEST g_ZERO (fun_mk (st := s_test_run) l_test_run c_test_run k_test_run) (PySem.W.mg_of X G a_test_run)
  have h_slope_run := ok_slope_run (P := l.prog) (w := w) (base := base) B h_check_number h_check_polynomial h_check_rule h_check_size h_check_starts h_push_of h_run_on g_LONGEST (fun_mk (st := s_slope_run) l_slope_run c_slope_run k_slope_run) (PySem.W.mg_of X G a_slope_run)
  have h_order_of := ok_order_of (P := l.prog) (w := w) (base := base) B h_check_rule h_order_told (fun_mk (st := s_order_of) l_order_of c_order_of k_order_of) (PySem.W.mg_of X G a_order_of)
  have h_law_told := ok_law_told (P := l.prog) (w := w) (base := base) B e_LostStep h_test_runX (fun_mk (st := s_law_told) l_law_told c_law_told k_law_told) (PySem.W.mg_of X G a_law_told)
  have h_law_right := ok_law_right (P := l.prog) (w := w) (base := base) B h_law_at h_law_drawn_rule h_law_f h_law_grown h_law_over h_law_pull h_law_small h_law_times h_law_told h_order_of h_slope_run h_test_run (fun_mk (st := s_law_right) l_law_right c_law_right k_law_right) (PySem.W.mg_of X G a_law_right)
  exact okG_law (P := l.prog) (w := w) (base := base) B h_law_right h_law_sack (fun_mk (st := s_law) l_law c_law k_law)
end
end Dn
namespace Dn
open PySem PySem.Spec PyProof.Rows L2
@[simp] theorem gtP_t {i j : Int} : gtP i j = true ↔ j < i := by simp [gtP]
@[simp] theorem gtP_f {i j : Int} : gtP i j = false ↔ i ≤ j := by simp [gtP]
@[simp] theorem ltP_t {i j : Int} : ltP i j = true ↔ i < j := by simp [ltP]
@[simp] theorem ltP_f {i j : Int} : ltP i j = false ↔ j ≤ i := by simp [ltP]
@[simp] theorem leP_t {i j : Int} : leP i j = true ↔ i ≤ j := by simp [leP]
@[simp] theorem leP_f {i j : Int} : leP i j = false ↔ j < i := by simp [leP]
@[simp] theorem geP_t {i j : Int} : geP i j = true ↔ j ≤ i := by simp [geP]
@[simp] theorem geP_f {i j : Int} : geP i j = false ↔ i < j := by simp [geP]
@[simp] theorem sz_lit {n : Nat} : (n ≤ SZ) = (n ≤ 1000000) := rfl
theorem fdiv_neg_eq (a g : Int) : a.fdiv (-g) = (-a).fdiv g := by
  have := Int.neg_fdiv_neg (-a) g
  rw [Int.neg_neg] at this
  exact this
theorem gcd_bt {n : Nat} {a b : Int} (k : Bt n b) (hb : b ≠ 0) : Bt n (Int.gcd a b : Int) := by
  unfold Bt at *
  have h1 : Int.gcd a b ∣ b.natAbs := Nat.gcd_dvd_right _ _
  have h2 := Nat.le_of_dvd (by omega) h1
  rw [Int.natAbs_natCast]
  omega
theorem gcd_ne {a b : Int} (hb : b ≠ 0) : (Int.gcd a b : Int) ≠ 0 := by
  have := Int.gcd_pos_of_ne_zero_right a hb
  omega
theorem t_divisor2 {a b : Int} : f_divisor_of [.tup [.int a, .int b]] = some (.int (Int.gcd a b)) := by
  refine ow_of (funV_ow ?_)
  simp [den_divisor_of]
  rfl
theorem t_ratio_with {n : Nat} {a b : Int} (k : Bt n b) (hn : n ≤ 9000) (hb : b ≠ 0) : f_ratio_with [.int a, .int b] = some (eR (Rat.divInt a b)) := by
  refine ow_of (funV_ow ?_)
  have hg := gcd_bt (a := a) k hb
  have hz := gcd_ne (a := a) hb
  rw [eR_divInt a b hb]
  simp [den_ratio_with, t_divisor2]
  rcases Int.lt_or_lt_of_ne hb with h | h
  · left
    have h1 : ¬ 0 < b := by omega
    refine ⟨by omega, div_ok hg.neg hn (by omega), div_ok hg.neg hn (by omega), ?_⟩
    simp only [if_neg h1, fdiv_neg_eq, and_self]
  · right
    refine ⟨h, div_ok hg hn hz, div_ok hg hn hz, ?_⟩
    simp only [if_pos h, and_self]
section
variable {n m : Nat} {p q : Rat}
theorem t_ratio_sum (h : Rb n p) (k : Rb m q) (z : n + m ≤ 9000) : f_ratio_sum [eR p, eR q] = some (eR (p + q)) := by
  refine ow_of (funV_ow ?_)
  rw [add_divInt]
  simp [den_ratio_sum, eR]
  refine ⟨mul_ok h.1 k.2 (by omega), mul_ok k.1 h.2 (by omega), mul_ok h.2 k.2 (by omega), ?_⟩
  rw [t_ratio_with (h.2.mul k.2) z (Int.mul_ne_zero (den_ne p) (den_ne q))]
  rfl
theorem t_ratio_product (h : Rb n p) (k : Rb m q) (z : n + m ≤ 9000) : f_ratio_product [eR p, eR q] = some (eR (p * q)) := by
  refine ow_of (funV_ow ?_)
  rw [mul_divInt]
  simp [den_ratio_product, eR]
  refine ⟨mul_ok h.1 k.1 (by omega), mul_ok h.2 k.2 (by omega), ?_⟩
  rw [t_ratio_with (h.2.mul k.2) z (Int.mul_ne_zero (den_ne p) (den_ne q))]
  rfl
end
/-! ### the law's own fractions -/
theorem prod_half {x y : Nat} (hy : 0 < y) (h : y ≤ x) : 2 * (y * (x % y)) ≤ x * y := by
  have h2 := Nat.mod_lt x hy
  have h3 := Nat.div_add_mod x y
  have h4 : 1 ≤ x / y := (Nat.one_le_div_iff hy).mpr h
  have h5 : y * 1 ≤ y * (x / y) := Nat.mul_le_mul_left y h4
  have h6 : 2 * (x % y) ≤ x := by omega
  have h7 : (2 * (x % y)) * y ≤ x * y := Nat.mul_le_mul_right y h6
  have h8 : 2 * (y * (x % y)) = (2 * (x % y)) * y := by rw [Nat.mul_comm y, Nat.mul_assoc]
  omega
theorem euclid {A B sk : D} {x y : Nat} {k : Nat} {Q : Fl → Prop} (hk : x * y < 2 ^ k) (hb : k ≤ 100000) (q : Q (.nx sk [some A, some B, some (.int (Nat.gcd x y : Nat)), some (.int 0)])) :
    SW (whS (tstB (binE (cmpQ gtP) (varE 3) (cE (.int 0)))) (par2S 2 3 (varE 3) (binE modD (unE intQ (varE 2)) (varE 3)))) sk [some A, some B, some (.int (x : Nat)), some (.int (y : Nat))] Q := by
  refine sw_while (fun m s ev => ∃ u v : Nat, s = sk ∧ ev = [some A, some B, some (.int (u : Nat)), some (.int (v : Nat))] ∧ Nat.gcd u v = Nat.gcd x y ∧ ∃ j, u * v < 2 ^ j ∧ m = j + (if u < v then 1 else 0)) (k + (if x < y then 1 else 0)) (by split <;> omega) ⟨x, y, rfl, rfl, rfl, k, hk, rfl⟩ fun m s ev hi => ?_
  obtain ⟨u, v, rfl, rfl, hg, j, hj, hm⟩ := hi
  rcases Nat.eq_zero_or_pos v with h | h
  · subst h
    simp [Turned]
    rw [Nat.gcd_zero_right] at hg
    rw [hg]
    exact q
  · simp [Turned]
    right
    refine ⟨h, by omega, ?_⟩
    have hm1 : Int.fmod (u : Int) (v : Int) = ((u % v : Nat) : Int) := by
      rw [Int.fmod_eq_emod_of_nonneg _ (by omega)]
      rfl
    rw [hm1]
    have hgc : Nat.gcd v (u % v) = Nat.gcd x y := by
      rw [← hg, Nat.gcd_comm v, ← Nat.gcd_rec v u, Nat.gcd_comm]
    have hlt := Nat.mod_lt u h
    rcases Nat.lt_or_ge u v with c | c
    · have e : u % v = u := Nat.mod_eq_of_lt c
      refine ⟨j, ?_, v, u % v, ⟨rfl, rfl⟩, hgc, j, by rw [e, Nat.mul_comm]; exact hj, by rw [if_neg (by omega)]; rfl⟩
      rw [hm, if_pos c]; omega
    · have hp := prod_half h c
      cases j with
      | zero =>
        have : 0 < u * v := Nat.mul_pos (by omega) h
        rw [Nat.pow_zero] at hj; omega
      | succ j =>
        rw [Nat.pow_succ] at hj
        refine ⟨j, ?_, v, u % v, ⟨rfl, rfl⟩, hgc, j, by omega, by rw [if_neg (by omega)]; rfl⟩
        rw [hm, if_neg (by omega)]; omega
theorem euclid' {A B sk : D} {X Y : Int} {x y : Nat} {k : Nat} {Q : Fl → Prop} (hX : X = (x : Nat)) (hY : Y = (y : Nat)) (hk : x * y < 2 ^ k) (hb : k ≤ 100000) (q : Q (.nx sk [some A, some B, some (.int (Nat.gcd x y : Nat)), some (.int 0)])) :
    SW (whS (tstB (binE (cmpQ gtP) (varE 3) (cE (.int 0)))) (par2S 2 3 (varE 3) (binE modD (unE intQ (varE 2)) (varE 3)))) sk [some A, some B, some (.int X), some (.int Y)] Q := by
  subst hX hY
  exact euclid hk hb q
theorem abs_nat (a : Int) : (if a < 0 then -a else a) = (a.natAbs : Nat) := by split <;> omega
theorem t_law_f {n : Nat} {a b : Int} (h : Bt n a) (k : Bt n b) (hn : n ≤ 9000) (hb : b ≠ 0) : f_law_f [.int a, .int b] = some (eR (Rat.divInt a b)) := by
  refine ow_of (funV_ow ?_)
  have hg := gcd_bt (a := a) k hb
  have hz := gcd_ne (a := a) hb
  rw [eR_divInt a b hb]
  have hk : a.natAbs * b.natAbs < 2 ^ (n + n) := by rw [Nat.pow_add]; exact Nat.mul_lt_mul'' h k
  unfold den_law_f
  rw [sw_seq, sw_if]
  simp
  rcases Int.lt_or_lt_of_ne hb with hs | hs
  · right
    refine ⟨hs, euclid' (x := a.natAbs) (y := b.natAbs) (by split <;> omega) (by omega) hk (by omega) ?_⟩
    have hng : ¬ 0 < b := by omega
    simp [hng]
    exact ⟨div_ok hg hn hz, div_ok hg hn hz, rfl, rfl⟩
  · left
    refine ⟨by omega, euclid' (x := a.natAbs) (y := b.natAbs) (by split <;> omega) (by omega) hk (by omega) ?_⟩
    simp [hs]
    exact ⟨div_ok hg hn hz, div_ok hg hn hz, rfl, rfl⟩
theorem t_law_plus {n m : Nat} {p q : Rat} (h : Rb n p) (k : Rb m q) (z : n + m ≤ 8000) : f_law_plus [eR p, eR q] = some (eR (p + q)) := by
  refine ow_of (funV_ow ?_)
  rw [add_divInt]
  simp [den_law_plus, eR]
  refine ⟨mul_ok h.1 k.2 (by omega), mul_ok k.1 h.2 (by omega), mul_ok h.2 k.2 (by omega), ?_⟩
  rw [t_law_f ((Bt.add (h.1.mul k.2) (k.1.mul h.2)).mono (by omega)) ((h.2.mul k.2).mono (by omega)) (show n + m + 1 ≤ 9000 by omega) (Int.mul_ne_zero (den_ne p) (den_ne q))]
  rfl
theorem t_law_less {n m : Nat} {p q : Rat} (h : Rb n p) (k : Rb m q) (z : n + m ≤ 8000) : f_law_less [eR p, eR q] = some (eR (p - q)) := by
  refine ow_of (funV_ow ?_)
  rw [sub_divInt]
  simp [den_law_less, eR]
  refine ⟨mul_ok h.1 k.2 (by omega), mul_ok k.1 h.2 (by omega), mul_ok h.2 k.2 (by omega), ?_⟩
  rw [t_law_f ((Bt.sub (h.1.mul k.2) (k.1.mul h.2)).mono (by omega)) ((h.2.mul k.2).mono (by omega)) (show n + m + 1 ≤ 9000 by omega) (Int.mul_ne_zero (den_ne p) (den_ne q))]
  rfl
theorem t_law_times {n m : Nat} {p q : Rat} (h : Rb n p) (k : Rb m q) (z : n + m ≤ 8000) : f_law_times [eR p, eR q] = some (eR (p * q)) := by
  refine ow_of (funV_ow ?_)
  rw [mul_divInt]
  simp [den_law_times, eR]
  refine ⟨mul_ok h.1 k.1 (by omega), mul_ok h.2 k.2 (by omega), ?_⟩
  rw [t_law_f (h.1.mul k.1) (h.2.mul k.2) (by omega) (Int.mul_ne_zero (den_ne p) (den_ne q))]
  rfl
end Dn
namespace Dn
open PySem PySem.Spec PyProof.Rows L2
/-! ### the sack -/
def SK (sk : D) : Prop := ∃ a b c : Int, sk = .lst [.int a, .int b, .int c] ∧ 0 ≤ a ∧ 0 ≤ b ∧ b < 2147483587 ∧ 0 ≤ c ∧ c < 1999999973
theorem bt_small {i : Int} (h0 : 0 ≤ i) (h : i < 4294967296) : Bt 32 i := by
  unfold Bt
  have : (2 : Nat) ^ 32 = 4294967296 := by decide
  omega
theorem fmod_r {i : Int} {n : Int} (h : 0 < n) : 0 ≤ i.fmod n ∧ i.fmod n < n := by
  rw [Int.fmod_eq_emod_of_nonneg _ (by omega)]
  exact ⟨Int.emod_nonneg _ (by omega), Int.emod_lt_of_pos _ h⟩
theorem fdiv_r {i : Int} {n : Int} (h : 0 < n) (hi : 0 ≤ i) : 0 ≤ i.fdiv n ∧ i.fdiv n ≤ i := by
  rw [Int.fdiv_eq_ediv_of_nonneg _ (by omega)]
  exact ⟨Int.ediv_nonneg hi (by omega), Int.ediv_le_self _ hi⟩
theorem t_law_pull {sk : D} (h : SK sk) {n : Int} (h1 : 1 ≤ n) (h2 : n ≤ 1000) : OW (f_law_pull sk [.int n]) fun r => ∃ v, r.1 = .int v ∧ 0 ≤ v ∧ v < n ∧ SK r.2 := by
  obtain ⟨a, b, c, rfl, ha, hb, hb2, hc, hc2⟩ := h
  refine funS_ow ?_
  have hdn : ∀ i, divOk i n = true := fun i => div_ok (n := 32) (bt_small (by omega) (by omega)) (by omega) (by omega)
  have i1 : ixN 3 1 = some 1 := rfl
  have i2 : ixN 3 2 = some 2 := rfl
  simp [den_law_pull, divmodQ, i1, i2, hdn]
  rcases Int.lt_or_le 0 a with h0 | h0
  · right
    refine ⟨h0, by omega, Int.emod_nonneg _ (by omega), Int.emod_lt_of_pos _ (by omega), _, _, _, rfl, Int.ediv_nonneg ha (by omega), hb, hb2, hc, hc2⟩
  · left
    have r1 := fmod_r (i := c * 69069 + 7) (n := 1999999973) (by omega)
    have r2 := fmod_r (i := b * 40503 + ((c * 69069 + 7).fmod 1999999973).fdiv 8 + 1) (n := 2147483587) (by omega)
    have lit : ∀ i : Int, 0 ≤ i → i < 4294967296 → ∀ j : Int, 0 ≤ j → j < 4294967296 → mulOk i j = true := fun i h1 h2 j h3 h4 => mul_ok (bt_small h1 h2) (bt_small h3 h4) (by decide)
    have litd : ∀ i j : Int, 0 < j → j < 4294967296 → divOk i j = true := fun i j h1 h2 => div_ok (n := 32) (bt_small (by omega) h2) (by omega) (by omega)
    refine ⟨h0, lit _ hc (by omega) _ (by omega) (by omega), lit _ hb (by omega) _ (by omega) (by omega), litd _ _ (by omega) (by omega), litd _ _ (by omega) (by omega), litd _ _ (by omega) (by omega), by omega, (fmod_r (by omega)).1, (fmod_r (by omega)).2, _, _, _, rfl, ha, r2.1, r2.2, r1.1, r1.2⟩
theorem aw1 {s : D} {ev : VE} {d : D} {Q : List D → D → Prop} : AW (consA (cE d) nilA) s ev Q ↔ Q [d] s := by simp
/-- a draw below n in a sack's denotation -/
theorem ew_pull {sk : D} {ev : VE} {n : Int} {Q : D → D → Prop} (h : SK sk) (h1 : 1 ≤ n) (h2 : n ≤ 1000) (q : ∀ v s, 0 ≤ v → v < n → SK s → Q (.int v) s) : EW (callS f_law_pull (consA (cE (.int n)) nilA)) sk ev Q := by
  simp
  refine OW.mono (t_law_pull h h1 h2) fun r hr => ?_
  obtain ⟨d, s⟩ := r
  obtain ⟨v, rfl, k1, k2, k3⟩ := hr
  exact q v s k1 k2 k3
theorem ow_pull {sk : D} {n : Int} {Q : D × D → Prop} (h : SK sk) (h1 : 1 ≤ n) (h2 : n ≤ 1000) (q : ∀ v s, 0 ≤ v → v < n → SK s → Q (.int v, s)) : OW (f_law_pull sk [.int n]) Q := by
  refine OW.mono (t_law_pull h h1 h2) fun r hr => ?_
  obtain ⟨d, s⟩ := r
  obtain ⟨v, rfl, k1, k2, k3⟩ := hr
  exact q v s k1 k2 k3
theorem ow_pick {sk : D} {ds : List D} {Q : D × D → Prop} (h : SK sk) (h1 : ds ≠ []) (h2 : ds.length ≤ 1000) (q : ∀ d s, d ∈ ds → SK s → Q (d, s)) : OW (f_law_pick sk [.lst ds]) Q := by
  refine funS_ow ?_
  have hl : 0 < ds.length := List.length_pos_iff.mpr h1
  simp [den_law_pick]
  refine ow_pull h (by omega) (by omega) fun v s k1 k2 k3 => ?_
  obtain ⟨k, rfl⟩ := Int.eq_ofNat_of_zero_le k1
  have hk : k < ds.length := by omega
  simp
  rw [ow_eq (at_nat (List.getElem?_eq_getElem hk))]
  exact q _ _ (List.getElem_mem hk) k3
theorem cut_ints {ns : List Int} {lo hi : Option Int} : ∀ d ∈ cutD (ns.map .int) lo hi, ∃ i : Int, d = .int i := fun d hd => by
  unfold cutD at hd
  have := List.mem_of_mem_drop (List.mem_of_mem_take hd)
  obtain ⟨i, _, rfl⟩ := List.mem_map.mp this
  exact ⟨i, rfl⟩
theorem t_law_sack {ns : List Int} {turn : Nat} (ht : turn ≤ 1000) : OW (f_law_sack [.scr (ns.map .int), .int (turn : Nat)]) fun d => ∃ ks, d = .lst ks ∧ SK d := by
  have lit : ∀ i : Int, 0 ≤ i → i < 4294967296 → ∀ j : Int, 0 ≤ j → j < 4294967296 → mulOk i j = true := fun i h1 h2 j h3 h4 => mul_ok (bt_small h1 h2) (bt_small h3 h4) (by decide)
  have litd : ∀ i j : Int, 0 < j → j < 4294967296 → divOk i j = true := fun i j h1 h2 => div_ok (n := 32) (bt_small (by omega) h2) (by omega) (by omega)
  refine funN_ow ?_
  unfold den_law_sack
  rw [sw_seq, sw_par2]
  simp only [ew_bin, ew_c, q_mul, q_add, ew_var', env0_def]
  simp
  refine ⟨lit _ (by omega) (by omega) _ (by omega) (by omega), lit _ (by omega) (by omega) _ (by omega) (by omega), OW.mk (d := .lst (cutD (ns.map .int) none (some 12))) rfl ⟨_, .inl rfl, ?_⟩⟩
  refine for_rule _ (fun i s ev => ∃ (mx ot : Int) (z : Option D), ev = [some (.scr (ns.map .int)), some (.int (turn : Nat)), some (.int mx), some (.int ot), z, none] ∧ 0 ≤ mx ∧ mx < 2147483587 ∧ 0 ≤ ot ∧ ot < 1999999973) 0 _ _ (fun i d s ev hd hi => ?_) ⟨_, _, none, rfl, by omega, by omega, by omega, by omega⟩ fun s ev hi => ?_
  · obtain ⟨mx, ot, z, rfl, h1, h2, h3, h4⟩ := hi
    obtain ⟨c, rfl⟩ := cut_ints d (List.mem_of_getElem? hd)
    have r1 := fmod_r (i := mx * 48611 + c + 29) (n := 2147483587) (by omega)
    simp [Turned]
    refine ⟨lit _ h1 (by omega) _ (by omega) (by omega), lit _ h3 (by omega) _ (by omega) (by omega), litd _ _ (by omega) (by omega), _, _, ⟨rfl, rfl⟩, r1.1, r1.2, (fmod_r (by omega)).1, (fmod_r (by omega)).2⟩
  · obtain ⟨mx, ot, z, rfl, h1, h2, h3, h4⟩ := hi
    have pw : OW (powD (.int 10) (.int 18)) = fun Q => Q (.int 1000000000000000000) := by
      funext Q
      exact propext OW.val
    have fin : ∀ own : Int, 0 ≤ own → ∀ k : Int, (k = own ∨ k = 0) → mulOk (own.fmod 2147483587) 6911 = true ∧ SK (.lst [.int k, .int ((mx + own.fmod 2147483587 * 6911).fmod 2147483587), .int ot]) := fun own ho k hk => by
      have r := fmod_r (i := own) (n := 2147483587) (by omega)
      exact ⟨lit _ r.1 (by omega) _ (by omega) (by omega), _, _, _, rfl, by omega, (fmod_r (by omega)).1, (fmod_r (by omega)).2, h3, h4⟩
    simp [pw]
    rcases Nat.lt_or_ge turn ns.length with hl | hl
    · right
      refine ⟨hl, ?_⟩
      rw [ow_eq (at_nat (ds := ns.map .int) (d := .int ns[turn]) (by rw [List.getElem?_map, List.getElem?_eq_getElem hl]; rfl))]
      have ho : (0 : Int) ≤ (if ns[turn] < 0 then -ns[turn] else ns[turn]) := by split <;> omega
      simp only [q_int, q_abs]
      generalize (if ns[turn] < 0 then -ns[turn] else ns[turn]) = own at ho ⊢
      simp
      rcases Int.lt_or_le own 1000000000000000000 with h | h
      · left
        have k := fin own ho 0 (.inr rfl)
        exact ⟨h, k.1, k.2⟩
      · right
        have k := fin own ho own (.inl rfl)
        exact ⟨h, k.1, k.2⟩
    · left
      have := fin 0 (by omega) 0 (.inl rfl)
      refine ⟨hl, lit _ (by omega) (by omega) _ (by omega) (by omega), ?_⟩
      simpa using this.2
end Dn
namespace Dn
open PySem PySem.Spec PyProof.Rows L2
/-! ### rules -/
/-- a rule in its pairs, the first row's last number apart -/
def eRule (as : List Rat) (lead : Rat) (bs : List Rat) : D := .tup [eT (as ++ [lead]), eT bs]
structure RuleOk (N : Nat) (as : List Rat) (lead : Rat) (bs : List Rat) : Prop where
  nz : lead ≠ 0
  len : bs.length = as.length + 1
  pos : 1 ≤ as.length
  most : as.length ≤ 8
  sa : ∀ a ∈ as, Rb N a
  sl : Rb N lead
  sb : ∀ b ∈ bs, Rb N b
def alphas (as : List Rat) (lead : Rat) : List Rat := as.map fun a => -(a / lead)
def betas (bs : List Rat) (lead : Rat) : List Rat := bs.map fun b => b / lead
theorem at_last {l : List D} {a : D} {Q : D → Prop} : OW (L2.atI (l ++ [a]) (-1)) Q ↔ Q a := at_lst
theorem cut_init {l : List D} {a : D} : cutD (l ++ [a]) none (some (-1)) = l := by
  have h1 : (-1 + (((l ++ [a]).length : Nat) : Int)).toNat = l.length := by
    rw [List.length_append]
    simp
    omega
  show List.take ((if (-1 : Int) < 0 then (-1 + (((l ++ [a]).length : Nat) : Int)).toNat else min (-1 : Int).toNat (l ++ [a]).length) - 0) (List.drop 0 (l ++ [a])) = l
  rw [if_pos (by omega), h1]
  simp
theorem q_slT {l : List D} {a : D} {Q : D → Prop} : OW (slQ none (some (-1)) (.tup (l ++ [a]))) Q ↔ Q (.tup l) := ow_eq (by show some (D.tup (cutD (l ++ [a]) none (some (-1)))) = _; rw [cut_init])
theorem all_true {xs : List D} (h : ∀ d ∈ xs, d = .bl true) : allQ (.lst xs) = some (.bl true) := by
  have : toBls xs = some (List.replicate xs.length true) := by
    induction xs with
    | nil => rfl
    | cons d ds ih =>
      have := h d (by simp)
      subst this
      simp [toBls, ih fun d hd => h d (by simp [hd])]
      rfl
  simp [allQ, this]
theorem okN_eR {q : Rat} : okN 20 (eR q) = true := by simp [eR, okN]
theorem eqD_eR {p q : Rat} : eqD (eR p) (eR q) = decide (p = q) := by
  by_cases h : p = q
  · subst h; simp [eR, eqD, eqDs]
  · rw [decide_eq_false h]
    simp only [eR, eqD, eqDs, Bool.and_true, Bool.and_eq_false_iff, beq_eq_false_iff_ne, ne_eq]
    by_cases h1 : p.num = q.num
    · right
      intro h2
      exact h (Rat.ext h1 (by omega))
    · exact .inl h1
theorem q_eqR {p q : Rat} {Q : D → Prop} : OW (eqQ (eR p) (eR q)) Q ↔ Q (.bl (decide (p = q))) := by
  simp [eqQ, okN_eR, eqD_eR]
theorem q_neR {p q : Rat} {Q : D → Prop} : OW (neQ (eR p) (eR q)) Q ↔ Q (.bl (!decide (p = q))) := by
  simp [neQ, okN_eR, eqD_eR]
theorem zero_eR : (.tup [.int 0, .int 1] : D) = eR 0 := rfl
theorem one_eR : (.tup [.int 1, .int 1] : D) = eR 1 := rfl
theorem t_is_whole {i : Int} : f_is_whole [.int i] = some (.bl true) := by
  refine ow_of (funV_ow ?_)
  simp [den_is_whole, isQ, tyN, isi_int, isi_bool]
theorem t_is_reduced {q : Rat} : f_is_reduced [eR q] = some (.bl true) := by
  refine ow_of (funV_ow ?_)
  have h : Int.gcd q.num q.den = 1 := q.reduced
  simp [den_is_reduced, eR, t_divisor2, h, eqQ, okN, eqD]
@[simp] theorem q_ix0 {q : Rat} {Q : D → Prop} : OW (ixQ (eR q) (.int 0)) Q ↔ Q (.int q.num) := at_0
@[simp] theorem q_ix1 {q : Rat} {Q : D → Prop} : OW (ixQ (eR q) (.int 1)) Q ↔ Q (.int q.den) := at_1
theorem t_is_ratio {q : Rat} : f_is_ratio [eR q] = some (.bl true) := by
  refine ow_of (funV_ow ?_)
  have h1 : f_are_wholes [eR q, .int 2] = some (.bl true) := by
    refine ow_of (funV_ow ?_)
    simp [den_are_wholes, eR, isQ, tyN, isi_tuple, eqQ, okN, eqD]
    refine lc_map D.int (fun _ => .bl true) [q.num, (q.den : Int)] _ (fun a _ => ?_) ?_
    · simp [wipeV, t_is_whole]
    · exact ⟨by simp, by rw [all_true (by simp)]; rfl⟩
  have h2 := t_is_reduced (q := q)
  have := den_gt q
  simp [den_is_ratio, h1, h2]
  omega
theorem t_are_ratios {qs : List Rat} (h : qs.length ≤ 1000) : f_are_ratios [eT qs] = some (.bl true) := by
  refine ow_of (funV_ow ?_)
  simp [den_are_ratios, eT, isQ, tyN, isi_tuple]
  refine lc_map eR (fun _ => .bl true) qs _ (fun a _ => ?_) ?_
  · simp [wipeV, t_is_ratio]
  · exact ⟨by simp; omega, by rw [all_true (by simp)]; rfl⟩
section
variable {N : Nat} {as bs : List Rat} {lead : Rat}
theorem eT_app : eT (as ++ [lead]) = .tup (as.map eR ++ [eR lead]) := by simp [eT]
theorem ne_sets {q : Rat} (h : q ≠ 0) {Q : D → Prop} : OW (neQ (eR q) c_ZERO) Q ↔ Q (.bl true) := by
  show OW (neQ (eR q) (eR 0)) Q ↔ _
  rw [q_neR, decide_eq_false h]
  rfl
theorem t_is_ruled (h : RuleOk N as lead bs) : f_is_ruled [eRule as lead bs] = some (.bl true) := by
  refine ow_of (funV_ow ?_)
  have hl := h.len
  have hp := h.pos
  have hm := h.most
  have r1 := t_are_ratios (qs := as ++ [lead]) (by simp; omega)
  have r2 := t_are_ratios (qs := bs) (by omega)
  have e1 : ∀ Q : D → Prop, OW (lenQ (eT (as ++ [lead]))) Q ↔ Q (.int ((as.length + 1 : Nat) : Int)) := fun Q => by simp [eT]
  have e2 : ∀ Q : D → Prop, OW (lenQ (eT bs)) Q ↔ Q (.int ((as.length + 1 : Nat) : Int)) := fun Q => by simp [eT, hl]
  have e3 : ∀ Q : D → Prop, OW (ixQ (eT (as ++ [lead])) (.int (-1))) Q ↔ Q (eR lead) := fun Q => by rw [eT_app]; exact at_last
  have e4 : ∀ Q : D → Prop, OW (neQ (.int 2) (.int 2)) Q ↔ Q (.bl false) := fun Q => by simp [neQ, okN, eqD]
  have e5 : ∀ Q : D → Prop, OW (eqQ (.int ((as.length + 1 : Nat) : Int)) (.int ((as.length + 1 : Nat) : Int))) Q ↔ Q (.bl true) := fun Q => by simp [eqQ, okN, eqD]
  simp [den_is_ruled, eRule, isQ, tyN, isi_tuple, e4, r1, r2, e1, e2, e3, -Int.natCast_add, e5, ne_sets h.nz]
  omega
theorem t_check_rule (h : RuleOk N as lead bs) : f_check_rule [eRule as lead bs] = some .non := by
  refine funV_nx ?_
  simp [den_check_rule, t_is_ruled h]
theorem Rb.nz_lt (h : Rb N lead) : Rb N lead := h
/-- the sum from the left -/
def sumL (s : Rat) : List Rat → Rat
  | [] => s
  | q :: qs => sumL (s + q) qs
theorem sumL_take {qs : List Rat} : ∀ (i : Nat) (q s : Rat), qs[i]? = some q → sumL s (qs.take (i + 1)) = sumL s (qs.take i) + q := by
  induction qs with
  | nil => intro i q s h; simp at h
  | cons a qs ih =>
    intro i q s h
    cases i with
    | zero => simp at h; subst h; simp [sumL]
    | succ i => simpa [sumL] using ih i q (s + a) (by simpa using h)
theorem Rb.sumL {qs : List Rat} : ∀ {s : Rat} {k : Nat}, Rb k s → (∀ q ∈ qs, Rb N q) → Rb (k + (N + 1) * qs.length) (sumL s qs) := by
  induction qs with
  | nil => intro s k h _; exact h.mono (by omega)
  | cons a qs ih =>
    intro s k h ha
    have := ih (s := s + a) (h.add (ha a (by simp))) fun q hq => ha q (by simp [hq])
    refine this.mono ?_
    rw [List.length_cons, Nat.mul_add]
    omega
theorem Rb.zero : Rb 1 0 := ⟨by unfold Bt; decide, by unfold Bt; decide⟩
theorem Rb.alphas (h : RuleOk N as lead bs) : ∀ q ∈ alphas as lead, Rb (N + N) q := fun q hq => by
  obtain ⟨a, ha, rfl⟩ := List.mem_map.mp hq
  exact ((h.sa a ha).div h.sl h.nz).neg
theorem Rb.betas (h : RuleOk N as lead bs) : ∀ q ∈ betas bs lead, Rb (N + N) q := fun q hq => by
  obtain ⟨a, ha, rfl⟩ := List.mem_map.mp hq
  exact (h.sb a ha).div h.sl h.nz
theorem min_nums {qs : List Rat} (h : qs ≠ []) {Q : D → Prop} (q : ∀ m : Int, (0 ≤ m ↔ ∀ q ∈ qs, 0 ≤ q) → Q (.int m)) : OW (minLQ (.lst (qs.map fun q => .int q.num))) Q := by
  cases qs with
  | nil => exact absurd rfl h
  | cons a qs =>
    have e : toInts ((a :: qs).map fun q => D.int q.num) = some ((a :: qs).map fun q => q.num) := by
      generalize a :: qs = l
      induction l with
      | nil => rfl
      | cons b l ih =>
        simp [toInts, ih]
    refine OW.mk (d := .int (leastI a.num (qs.map fun q => q.num))) (by simp only [minLQ]; rw [e]; rfl) (q _ ?_)
    obtain ⟨h1, h2, h3⟩ := leastI_le (qs.map fun q => q.num) a.num
    constructor
    · intro hm q hq
      rcases List.mem_cons.mp hq with rfl | hq
      · exact Rat.num_nonneg.mp (by omega)
      · have := h2 q.num (List.mem_map.mpr ⟨q, hq, rfl⟩)
        exact Rat.num_nonneg.mp (by omega)
    · intro hq
      have : ∀ i, i ∈ a.num :: qs.map (fun q => q.num) → 0 ≤ i := fun i hi => by
        rcases List.mem_cons.mp hi with rfl | hi
        · exact Rat.num_nonneg.mpr (hq a (by simp))
        · obtain ⟨q, hq', rfl⟩ := List.mem_map.mp hi
          exact Rat.num_nonneg.mpr (hq q (by simp [hq']))
      exact this _ h3
/-- the rule's sums and slopes allow it -/
def May (as : List Rat) (lead : Rat) (bs : List Rat) : Prop := sumL 0 (alphas as lead) = 1 ∧ ∀ b ∈ betas bs lead, 0 ≤ b
theorem nums_of (h : ∀ q ∈ as, Rb N q) : True := trivial
end
end Dn
namespace Dn
open PySem PySem.Spec PyProof.Rows L2
theorem zipL_map : ∀ (as bs : List Rat), zipL (as.map eR) (bs.map eR) = (as.zip bs).map fun p => .tup [eR p.1, eR p.2]
  | [], _ => by simp [zipL]
  | _ :: _, [] => by simp [zipL]
  | a :: as, b :: bs => by simp [zipL, zipL_map as bs]
theorem toBls_map {α : Type} (p : α → Bool) : ∀ l : List α, toBls (l.map fun x => .bl (p x)) = some (l.map p)
  | [] => rfl
  | x :: l => by simp [toBls, toBls_map p l]
theorem any_map {α : Type} {p : α → Bool} {l : List α} {Q : D → Prop} : OW (anyQ (.lst (l.map fun x => .bl (p x)))) Q ↔ Q (.bl (l.any p)) := by
  refine ow_eq ?_
  simp only [anyQ, toBls_map]
  congr 2
  induction l with
  | nil => rfl
  | cons a l ih => simp [List.any_cons, ih]
def KeepsP (as : List Rat) (lead : Rat) (bs : List Rat) (r : Rat) : Prop := May as lead bs ∧ ∀ p ∈ (alphas as lead).zip (betas bs lead), ¬ p.1 < r * p.2
section
variable {N M : Nat} {as bs : List Rat} {lead r : Rat}
theorem zip_mem {l1 l2 : List Rat} {p : Rat × Rat} (h : p ∈ l1.zip l2) : p.1 ∈ l1 ∧ p.2 ∈ l2 := List.of_mem_zip (a := p.1) (b := p.2) h
theorem zip_len (h : RuleOk N as lead bs) : ((alphas as lead).zip (betas bs lead)).length = as.length := by
  have := h.len
  simp [alphas, betas]
  omega
instance : Decidable (May as lead bs) := inferInstanceAs (Decidable (_ ∧ _))
instance : Decidable (KeepsP as lead bs r) := inferInstanceAs (Decidable (_ ∧ _))
/-- the least quotient -/
def bestF : Option Rat → List (Rat × Rat) → Option Rat
  | f, [] => f
  | f, p :: l => if p.2 = 0 then bestF f l else bestF (some (match f with
    | none => p.1 / p.2
    | some q => if p.1 / p.2 < q then p.1 / p.2 else q)) l
def stepF (f : Option Rat) (p : Rat × Rat) : Option Rat := if p.2 = 0 then f else some (match f with
    | none => p.1 / p.2
    | some q => if p.1 / p.2 < q then p.1 / p.2 else q)
theorem bestF_step : ∀ (l : List (Rat × Rat)) (f : Option Rat) (p : Rat × Rat) (i : Nat), l[i]? = some p → bestF f (l.take (i + 1)) = stepF (bestF f (l.take i)) p
  | [], _, _, _, h => by simp at h
  | a :: l, f, p, 0, h => by
    simp at h; subst h
    simp [bestF, stepF]
  | a :: l, f, p, i + 1, h => by
    have := fun f => bestF_step l f p i (by simpa using h)
    simp only [List.take_succ_cons, bestF]
    split
    · exact this f
    · exact this _
theorem bestF_spec : ∀ (l : List (Rat × Rat)) (f : Option Rat) (q : Rat), bestF f l = some q → ((f = some q ∨ ∃ p ∈ l, p.2 ≠ 0 ∧ q = p.1 / p.2) ∧ (∀ z, f = some z → q ≤ z) ∧ ∀ p ∈ l, p.2 ≠ 0 → q ≤ p.1 / p.2)
  | [], f, q, h => by
    have h' : f = some q := h
    subst h'
    exact ⟨.inl rfl, fun z hz => by cases hz; exact Rat.le_refl, by simp⟩
  | a :: l, f, q, h => by
    unfold bestF at h
    by_cases ha : a.2 = 0
    · rw [if_pos ha] at h
      obtain ⟨h1, h2, h3⟩ := bestF_spec l f q h
      refine ⟨h1.imp id fun ⟨p, hp, k⟩ => ⟨p, by simp [hp], k⟩, h2, fun p hp hz => ?_⟩
      rcases List.mem_cons.mp hp with rfl | hp
      · exact absurd ha hz
      · exact h3 p hp hz
    · rw [if_neg ha] at h
      obtain ⟨h1, h2, h3⟩ := bestF_spec l _ q h
      have h4 := h2 _ rfl
      cases f with
      | none =>
        simp only at h1 h4
        refine ⟨.inr ?_, by simp, fun p hp hz => ?_⟩
        · rcases h1 with h1 | ⟨p, hp, k⟩
          · exact ⟨a, by simp, ha, (Option.some.inj h1).symm⟩
          · exact ⟨p, by simp [hp], k⟩
        · rcases List.mem_cons.mp hp with rfl | hp
          · exact h4
          · exact h3 p hp hz
      | some z =>
        simp only at h1 h4
        have k1 : q ≤ a.1 / a.2 := by split at h4 <;> grind
        have k2 : q ≤ z := by split at h4 <;> grind
        refine ⟨?_, fun y hy => by cases hy; exact k2, fun p hp hz => ?_⟩
        · rcases h1 with h1 | ⟨p, hp, k⟩
          · split at h1
            · exact .inr ⟨a, by simp, ha, (Option.some.inj h1).symm⟩
            · exact .inl h1
          · exact .inr ⟨p, by simp [hp], k⟩
        · rcases List.mem_cons.mp hp with rfl | hp
          · exact k1
          · exact h3 p hp hz
def optD : Option Rat → D
  | none => .non
  | some q => eR q
theorem Rb.stepF {f : Option Rat} {p : Rat × Rat} (h : ∀ q, f = some q → Rb M q) (h1 : Rb N p.1) (h2 : Rb N p.2) (hm : N + N ≤ M) : ∀ q, stepF f p = some q → Rb M q := fun q hq => by
  unfold Dn.stepF at hq
  split at hq
  · exact h q hq
  · rename_i hz
    have hd := (h1.div h2 hz).mono hm
    cases f with
    | none => simp at hq; subst hq; exact hd
    | some z =>
      simp only at hq
      split at hq
      · cases hq; exact hd
      · exact h q hq
def endO : Option Rat → D
  | none => .str "endless"
  | some q => if q = 0 then .non else eR q
end
end Dn
namespace Dn
open PySem PySem.Spec PyProof.Rows L2
theorem lc_filter {G : GF} {T : BF} {E : EF} {ev : VE} {Q : List D × D → Prop} {α : Type} (f : α → D) (p : α → Bool) (g : α → D) (as : List α) (sk : D)
    (h : ∀ a, a ∈ as → OW (G (f a) ev) fun e1 => BW T sk e1 fun b s1 => b = p a ∧ s1 = sk ∧ (b = true → EW E sk e1 fun x s => x = g a ∧ s = sk)) (q : Q ((as.filter p).map g, sk)) : OW (lcF G T E (as.map f) sk ev) Q := by
  refine lc_rule (as.map f) (fun i s acc => s = sk ∧ acc = ((as.take i).filter p).map g) 0 sk [] (fun i d s acc hd hi => ?_) ⟨rfl, by simp⟩ (fun s xs hi => ?_)
  · obtain ⟨rfl, rfl⟩ := hi
    rw [List.getElem?_map] at hd
    cases ha : as[i]? with
    | none => rw [ha] at hd; cases hd
    | some a =>
      rw [ha] at hd
      cases hd
      refine OW.mono (h a (List.mem_of_getElem? ha)) fun e1 he => ?_
      have hstep : as.take (i + 1) = as.take i ++ [a] := by simp [List.take_add_one, ha]
      unfold BW at he ⊢
      cases hT : T s e1 with
      | none => rw [hT] at he; exact he.elim
      | some r =>
        obtain ⟨b, s1⟩ := r
        rw [hT] at he
        obtain ⟨hb, rfl, hE⟩ := he
        simp only at hb hE ⊢
        rw [Nat.zero_add]
        cases b with
        | true =>
          rw [if_pos rfl]
          refine EW.mono (hE rfl) fun x s2 hx => ⟨hx.2, ?_⟩
          rw [hx.1, hstep, List.filter_append, List.map_append]
          simp [← hb]
        | false =>
          rw [if_neg (by simp)]
          refine ⟨trivial, ?_⟩
          rw [hstep, List.filter_append]
          simp [← hb]
  · obtain ⟨rfl, hx⟩ := hi
    rw [List.nil_append] at hx
    rw [hx, Nat.zero_add, List.length_map, List.take_length]
    exact q
theorem eR_neg {q : Rat} : (.tup [.int (-q.num), .int q.den] : D) = eR (-q) := by simp [eR]
theorem enumL_map : ∀ (as : List Rat) (k : Nat), enumL k (as.map eR) = (as.zipIdx k).map fun p => .tup [.int (p.2 : Nat), eR p.1]
  | [], _ => rfl
  | a :: as, k => by simp [enumL, enumL_map as (k + 1)]
theorem okN_lst {n : Nat} {xs : List D} (h : ∀ d ∈ xs, okN n d = true) : okN (n + 1) (.lst xs) = true := by
  simp only [okN, List.all_eq_true]
  exact h
theorem okN_eR' {n : Nat} {q : Rat} : okN (n + 1) (eR q) = true := by
  cases n <;> simp [eR, okN]
theorem eq_nilR {xs : List Rat} {Q : D → Prop} : OW (eqQ (.lst (xs.map eR)) (.lst [])) Q ↔ Q (.bl xs.isEmpty) := by
  have h1 : okN 20 (.lst (xs.map eR)) = true := okN_lst fun d hd => by
    obtain ⟨q, _, rfl⟩ := List.mem_map.mp hd
    exact okN_eR'
  refine ow_eq ?_
  unfold eqQ
  rw [h1]
  cases xs <;> simp [okN, eqD, eqDs]
theorem ne_nilR {xs : List Rat} {Q : D → Prop} : OW (neQ (.lst (xs.map eR)) (.lst [])) Q ↔ Q (.bl (!xs.isEmpty)) := by
  have h1 : okN 20 (.lst (xs.map eR)) = true := okN_lst fun d hd => by
    obtain ⟨q, _, rfl⟩ := List.mem_map.mp hd
    exact okN_eR'
  refine ow_eq ?_
  unfold neQ
  rw [h1]
  cases xs <;> simp [okN, eqD, eqDs]
theorem eq_nilI {α : Type} {f : α → Int} {xs : List α} {Q : D → Prop} : OW (eqQ (.lst (xs.map fun x => .int (f x))) (.lst [])) Q ↔ Q (.bl xs.isEmpty) := by
  have h1 : okN 20 (.lst (xs.map fun x => .int (f x))) = true := okN_lst fun d hd => by
    obtain ⟨q, _, rfl⟩ := List.mem_map.mp hd
    simp [okN]
  refine ow_eq ?_
  unfold eqQ
  rw [h1]
  cases xs <;> simp [okN, eqD, eqDs]
section
variable {N M : Nat} {as bs : List Rat} {lead r : Rat}
end
end Dn
namespace Dn
open PySem PySem.Spec PyProof.Rows L2
/-! ### multiples of 1 / M, at most C / M in size -/
def Gd (M C : Nat) (q : Rat) : Prop := ∃ k : Int, q * (M : Rat) = (k : Rat) ∧ k.natAbs ≤ C
section
variable {M M' C C' t : Nat} {p q : Rat}
theorem Gd.mono (h : Gd M C q) (k : C ≤ C') : Gd M C' q := let ⟨z, e, l⟩ := h; ⟨z, e, Nat.le_trans l k⟩
theorem Gd.up (t : Nat) (h : Gd M C q) : Gd (M * t) (C * t) q := by
  obtain ⟨z, e, l⟩ := h
  refine ⟨z * t, ?_, ?_⟩
  · rw [Rat.natCast_mul, ← Rat.mul_assoc, e]
    rw [Rat.intCast_mul]
    rfl
  · rw [Int.natAbs_mul]
    exact Nat.mul_le_mul l (by simp)
theorem Gd.add (h : Gd M C p) (k : Gd M C' q) : Gd M (C + C') (p + q) := by
  obtain ⟨z, e, l⟩ := h
  obtain ⟨y, f, m⟩ := k
  refine ⟨z + y, ?_, ?_⟩
  · rw [Rat.add_mul, e, f, Rat.intCast_add]
  · have := Int.natAbs_add_le z y
    omega
theorem Gd.neg (h : Gd M C p) : Gd M C (-p) := by
  obtain ⟨z, e, l⟩ := h
  exact ⟨-z, by rw [Rat.neg_mul, e, Rat.intCast_neg], by rwa [Int.natAbs_neg]⟩
theorem Gd.sub (h : Gd M C p) (k : Gd M C' q) : Gd M (C + C') (p - q) := by
  rw [Rat.sub_eq_add_neg]
  exact h.add k.neg
theorem Gd.mul (h : Gd M C p) (k : Gd M' C' q) : Gd (M * M') (C * C') (p * q) := by
  obtain ⟨z, e, l⟩ := h
  obtain ⟨y, f, m⟩ := k
  refine ⟨z * y, ?_, ?_⟩
  · rw [Rat.natCast_mul, Rat.intCast_mul, ← e, ← f]
    grind
  · rw [Int.natAbs_mul]
    exact Nat.mul_le_mul l m
theorem Gd.int (i : Int) (h : i.natAbs ≤ C) : Gd 1 C (i : Rat) := ⟨i, by simp, h⟩
theorem Gd.rb {n : Nat} (h : Gd M C q) (hM : 0 < M) (h1 : M < 2 ^ n) (h2 : C < 2 ^ n) : Rb n q := by
  obtain ⟨z, e, l⟩ := h
  have hz : (M : Rat) ≠ 0 := by
    intro h0
    have := Rat.natCast_eq_zero_iff.mp h0
    omega
  have hq : q = Rat.divInt z M := by
    have hc : ((M : Int) : Rat) = (M : Rat) := rfl
    rw [Rat.divInt_eq_div, ← e, hc]
    grind
  rw [hq]
  exact Rb.divInt (Nat.lt_of_le_of_lt l h2) (by unfold Bt; rw [Int.natAbs_natCast]; exact h1) (by omega)
theorem Gd.div_int {a b : Int} (hb : 0 < b) (k : Nat) (hk : b * k = M) (hc : a.natAbs * k ≤ C) : Gd M C (Rat.divInt a b) := by
  refine ⟨a * k, ?_, by rw [Int.natAbs_mul]; simpa using hc⟩
  rw [Rat.divInt_eq_div]
  have hz : (b : Rat) ≠ 0 := by
    intro h0
    have := Rat.intCast_eq_zero_iff.mp h0
    omega
  have e : (M : Rat) = (b : Rat) * (k : Rat) := by
    have h1 : ((M : Int) : Rat) = ((b * k : Int) : Rat) := by rw [hk]
    rw [Rat.intCast_mul] at h1
    exact h1
  rw [e, Rat.intCast_mul]
  have : ((k : Int) : Rat) = (k : Rat) := rfl
  rw [this]
  grind
end
theorem getLast_set {l : List Rat} {i : Nat} {x : Rat} (h : i + 1 < l.length) : (l.set i x)[l.length - 1]? = l[l.length - 1]? := by
  rw [List.getElem?_set_ne (by omega)]
/-- entries are good, and the last is z -/
structure PolyOk (M C : Nat) (z : Rat) (qs : List Rat) : Prop where
  gd : ∀ q ∈ qs, Gd M C q
  lst : qs[qs.length - 1]? = some z
theorem t_law_productA {M C M' C' : Nat} {z z' : Rat} {qs ps : List Rat} {d1 d2 : D} (hd1 : d1 = eL qs ∨ d1 = eT qs) (hd2 : d2 = eL ps ∨ d2 = eT ps) (h : PolyOk M C z qs) (k : PolyOk M' C' z' ps) (h1 : 1 ≤ qs.length) (h2 : qs.length ≤ 10) (k1 : 1 ≤ ps.length) (k2 : ps.length ≤ 10)
    (m1 : 0 < M * M') (m2 : M * M' < 2 ^ 500) (m3 : C * C' * (qs.length * ps.length) < 2 ^ 500) (bq : ∀ q ∈ qs, Rb 500 q) (bp : ∀ p ∈ ps, Rb 500 p) :
    OW (f_law_product [d1, d2]) fun d => ∃ rs, d = eL rs ∧ rs.length = qs.length + ps.length - 1 ∧ PolyOk (M * M') (C * C' * (qs.length * ps.length)) (z * z') rs := by
  refine funN_ow ?_
  have ln : ∀ (d : D) (l : List Rat), (d = eL l ∨ d = eT l) → ∀ Q : D → Prop, OW (lenQ d) Q ↔ Q (.int l.length) := fun d l h Q => by
    rcases h with rfl | rfl <;> simp [eL, eT]
  have ln1 := ln d1 qs hd1
  have ln2 := ln d2 ps hd2
  simp [den_law_product, repD, ln1, ln2]
  have hrep : List.replicate (((qs.length : Int) + (ps.length : Int)).toNat - 1) (D.tup [.int 0, .int 1]) = (List.replicate (qs.length + ps.length - 1) (0 : Rat)).map eR := by
    rw [show ((qs.length : Int) + (ps.length : Int)).toNat - 1 = qs.length + ps.length - 1 by omega, List.map_replicate]
    rfl
  rw [hrep]
  refine ⟨⟨by omega, by omega⟩, qs.map eR, hd1, ?_⟩
  rw [enumL_map]
  refine for_rule _ (fun i s ev => s = .non ∧ ∃ x y u w rs, ev = [some d1, some d2, some (eL rs), x, y, u, w] ∧ rs.length = qs.length + ps.length - 1 ∧ (∀ r ∈ rs, Gd (M * M') (C * C' * (i * ps.length)) r) ∧ rs[qs.length + ps.length - 2]? = some (if i = qs.length then z * z' else 0)) 0 _ _ (fun i d s ev hd hi => ?_)
    ⟨rfl, none, none, none, none, _, rfl, by simp, fun r hr => ?_, ?_⟩ fun s ev hi => ?_
  · -- a row
    obtain ⟨rfl, x, y, u, w, rs, rfl, hn, hg, hlast⟩ := hi
    rw [Nat.zero_add] at hg hlast ⊢
    rw [List.getElem?_map, List.getElem?_zipIdx] at hd
    cases hq : qs[i]? with
    | none => rw [hq] at hd; cases hd
    | some q =>
      rw [hq] at hd
      cases hd
      have hil := (List.getElem?_eq_some_iff.mp hq).1
      have gq := h.gd q (List.mem_of_getElem? hq)
      simp [eL, -sw_for, Turned]
      rw [sw_for]
      simp
      refine ⟨ps.map eR, hd2, ?_⟩
      rw [enumL_map]
      refine for_rule _ (fun j s ev => s = .non ∧ ∃ u w rs, ev = [some d1, some d2, some (eL rs), some (.int (i : Nat)), some (eR q), u, w] ∧ rs.length = qs.length + ps.length - 1 ∧ (∀ r ∈ rs, Gd (M * M') (C * C' * (i * ps.length + j)) r) ∧ rs[qs.length + ps.length - 2]? = some (if i + 1 = qs.length ∧ j = ps.length then z * z' else 0)) 0 _ _ (fun j d s ev hd hi => ?_)
        ⟨rfl, u, w, rs, rfl, hn, hg, ?_⟩ fun s ev hi => ?_
      · obtain ⟨rfl, u, w, rs, rfl, hn, hg, hlast⟩ := hi
        rw [Nat.zero_add] at hg hlast ⊢
        rw [List.getElem?_map, List.getElem?_zipIdx] at hd
        cases hp : ps[j]? with
        | none => rw [hp] at hd; cases hd
        | some p =>
          rw [hp] at hd
          cases hd
          have hjl := (List.getElem?_eq_some_iff.mp hp).1
          have gp := k.gd p (List.mem_of_getElem? hp)
          have hij : i + j < rs.length := by omega
          have gr := hg _ (List.getElem_mem hij)
          have hat : ∀ Q : D → Prop, OW (L2.atI (rs.map eR) ((i : Int) + (j : Int))) Q ↔ Q (eR rs[i + j]) := fun Q => by
            rw [← Int.natCast_add]
            exact ow_eq (at_nat (by rw [List.getElem?_map, List.getElem?_eq_getElem hij]; rfl))
          have hix : ixN rs.length ((i : Int) + (j : Int)) = some (i + j) := by
            rw [← Int.natCast_add]
            unfold ixN
            rw [if_pos (by omega), if_pos (by omega), Int.toNat_natCast]
          have cnt : i * ps.length + j ≤ qs.length * ps.length := by
            have := Nat.mul_le_mul_right ps.length (show i + 1 ≤ qs.length from hil)
            rw [Nat.add_mul, Nat.one_mul] at this
            omega
          have gr2 : Rb 500 rs[i + j] := gr.rb m1 m2 (Nat.lt_of_le_of_lt (Nat.mul_le_mul_left _ cnt) m3)
          have hmul := (bq q (List.mem_of_getElem? hq)).mul (bp p (List.mem_of_getElem? hp))
          simp [eL, -sw_for, Turned]
          refine sw_set' ?_
          simp [hat, t_law_times (bq q (List.mem_of_getElem? hq)) (bp p (List.mem_of_getElem? hp)) (by omega), t_law_plus gr2 hmul (by omega), hix]
          refine ⟨rfl, some (.int (j : Nat)), some (eR p), rs.set (i + j) (rs[i + j] + q * p), by simp [List.map_set], by simpa using hn, fun r hr => ?_, ?_⟩
          · rcases List.mem_or_eq_of_mem_set hr with hr | hr
            · exact (hg r hr).mono (Nat.mul_le_mul_left _ (by omega))
            · rw [hr]
              refine (gr.add (gq.mul gp)).mono (Nat.le_of_eq ?_)
              rw [← Nat.add_assoc, Nat.mul_succ]
          · by_cases hlast2 : i + j = qs.length + ps.length - 2
            · have e1 : i + 1 = qs.length ∧ j + 1 = ps.length := by omega
              rw [if_pos e1, ← hlast2, List.getElem?_set_self hij]
              rw [← hlast2, if_neg (by omega)] at hlast
              have e0 : rs[i + j] = 0 := by
                have := (List.getElem?_eq_some_iff.mp hlast).2
                exact this
              have e2 := h.lst
              have e3 := k.lst
              rw [show qs.length - 1 = i by omega, hq] at e2
              rw [show ps.length - 1 = j by omega, hp] at e3
              cases e2
              cases e3
              rw [e0, Rat.zero_add]
            · rw [List.getElem?_set_ne hlast2, hlast, if_neg (by omega), if_neg (by omega)]
      · rw [hlast, if_neg (by omega), if_neg (by omega)]
      · obtain ⟨rfl, u, w, rs, rfl, hn, hg, hlast⟩ := hi
        simp only [List.length_map, List.length_zipIdx, Nat.zero_add] at hg hlast
        refine ⟨rfl, _, _, u, w, rs, rfl, hn, fun r hr => ?_, ?_⟩
        · rw [Nat.add_mul, Nat.one_mul]
          exact hg r hr
        · rw [hlast]
          simp
  · rw [List.mem_replicate] at hr
    rw [hr.2]
    exact ⟨0, by simp, by simp⟩
  · rw [List.getElem?_replicate, if_pos (by omega), if_neg (by omega)]
  · obtain ⟨rfl, x, y, u, w, rs, rfl, hn, hg, hlast⟩ := hi
    simp only [List.length_map, List.length_zipIdx, Nat.zero_add] at hg hlast
    simp [eL]
    refine ⟨rs, rfl, hn, hg, ?_⟩
    rw [hn, show qs.length + ps.length - 1 - 1 = qs.length + ps.length - 2 by omega, hlast]
    simp
theorem t_law_product {M C M' C' : Nat} {z z' : Rat} {qs ps : List Rat} (h : PolyOk M C z qs) (k : PolyOk M' C' z' ps) (h1 : 1 ≤ qs.length) (h2 : qs.length ≤ 10) (k1 : 1 ≤ ps.length) (k2 : ps.length ≤ 10)
    (m1 : 0 < M * M') (m2 : M * M' < 2 ^ 500) (m3 : C * C' * (qs.length * ps.length) < 2 ^ 500) (bq : ∀ q ∈ qs, Rb 500 q) (bp : ∀ p ∈ ps, Rb 500 p) :
    OW (f_law_product [eL qs, eL ps]) fun d => ∃ rs, d = eL rs ∧ rs.length = qs.length + ps.length - 1 ∧ PolyOk (M * M') (C * C' * (qs.length * ps.length)) (z * z') rs := t_law_productA (.inl rfl) (.inl rfl) h k h1 h2 k1 k2 m1 m2 m3 bq bp
end Dn
namespace Dn
open PySem PySem.Spec PyProof.Rows L2
def gdB (M C : Nat) (q : Rat) : Bool := decide ((q * (M : Rat)).den = 1) && decide ((q * (M : Rat)).num.natAbs ≤ C)
theorem gd_of {M C : Nat} {q : Rat} (h : gdB M C q = true) : Gd M C q := by
  simp only [gdB, Bool.and_eq_true, decide_eq_true_eq] at h
  exact ⟨_, Rat.ext (by simp) (by simp [h.1]), h.2⟩
/-- a written fraction -/
abbrev fr (a : Int) (b : Nat) (h : b ≠ 0 := by decide) (k : a.natAbs.Coprime b := by decide) : Rat := ⟨a, b, h, k⟩
def mids : List (Rat × Rat) := [(fr 1 2, fr 0 1), (fr 1 1, fr 0 1), (fr 1 4, fr 1 2), (fr 1 1, fr 6 5), (fr 3 4, fr (-1) 1)]
def roots : List Rat := [fr 0 1, fr 0 1, fr 1 2, fr (-1) 2, fr 1 3, fr (-1) 3, fr (-1) 1, fr 1 1, fr 3 2, fr 2 5]
theorem mids_ok : ∀ p ∈ mids, Gd 60 90 p.1 ∧ Gd 60 90 p.2 := by
  have h : (mids.all fun p => gdB 60 90 p.1 && gdB 60 90 p.2) = true := by decide +kernel
  intro p hp
  have := List.all_eq_true.mp h p hp
  rw [Bool.and_eq_true] at this
  exact ⟨gd_of this.1, gd_of this.2⟩
theorem roots_ok : ∀ p ∈ roots, Gd 60 90 p := by
  have h : (roots.all fun p => gdB 60 90 p) = true := by decide +kernel
  intro p hp
  exact gd_of (List.all_eq_true.mp h p hp)
theorem one_ok : Gd 60 90 1 := gd_of (by decide +kernel)
section
variable {M C M' C' : Nat} {z : Rat} {qs : List Rat}
theorem PolyOk.mono (h : PolyOk M C z qs) (k : C ≤ C') : PolyOk M C' z qs := ⟨fun q hq => (h.gd q hq).mono k, h.lst⟩
theorem PolyOk.up (t : Nat) (h : PolyOk M C z qs) : PolyOk (M * t) (C * t) z qs := ⟨fun q hq => (h.gd q hq).up t, h.lst⟩
theorem PolyOk.rb (h : PolyOk M C z qs) (h0 : 0 < M) (h1 : M < 2 ^ 500) (h2 : C < 2 ^ 500) : ∀ q ∈ qs, Rb 500 q := fun q hq => (h.gd q hq).rb h0 h1 h2
end
theorem tup_neg {q : Rat} : (.tup [.int (-q.num), .int q.den] : D) = eR (-q) := eR_neg
theorem step_bound {j l1 l2 : Nat} (h1 : l1 ≤ 5) (h2 : l2 ≤ 3) : 2000 ^ j * 90 * (l1 * l2) ≤ 2000 ^ (j + 1) := by
  have : l1 * l2 ≤ 5 * 3 := Nat.mul_le_mul h1 h2
  rw [Nat.pow_succ, Nat.mul_assoc]
  exact Nat.mul_le_mul_left _ (by omega)
/-- one more factor -/
theorem t_grow {j : Nat} {qs ps : List Rat} (hj : j ≤ 3) (h : PolyOk (60 ^ j) (2000 ^ j) 1 qs) (hl : 2 ≤ qs.length) (hl2 : qs.length ≤ 5) (k : ∀ p ∈ ps, Gd 60 90 p) (k1 : 2 ≤ ps.length) (k2 : ps.length ≤ 3) (kl : ps[ps.length - 1]? = some 1) :
    OW (f_law_product [eL qs, eL ps]) fun d => ∃ rs, d = eL rs ∧ rs.length = qs.length + ps.length - 1 ∧ PolyOk (60 ^ (j + 1)) (2000 ^ (j + 1)) 1 rs := by
  have hp : PolyOk 60 90 1 ps := ⟨k, kl⟩
  have c1 : (60 : Nat) ^ j < 2 ^ 100 := Nat.lt_of_le_of_lt (Nat.pow_le_pow_right (by decide) hj) (by decide)
  have c2 : (2000 : Nat) ^ j < 2 ^ 100 := Nat.lt_of_le_of_lt (Nat.pow_le_pow_right (by decide) hj) (by decide)
  have c0 : 0 < (60 : Nat) ^ j := Nat.pow_pos (by decide)
  have c3 : (60 : Nat) ^ j * 60 < 2 ^ 500 := Nat.lt_of_lt_of_le (Nat.mul_lt_mul_of_pos_right c1 (by decide)) (by decide)
  have c4 : 2000 ^ j * 90 * (qs.length * ps.length) < 2 ^ 500 := Nat.lt_of_le_of_lt (step_bound hl2 k2) (Nat.lt_of_le_of_lt (Nat.pow_le_pow_right (by decide) (show j + 1 ≤ 4 by omega)) (by decide))
  refine OW.mono (t_law_product h hp (by omega) (by omega) (by omega) (by omega) (by omega) c3 c4 (h.rb c0 (Nat.lt_trans c1 (by decide)) (Nat.lt_trans c2 (by decide))) (hp.rb (by decide) (by decide) (by decide))) fun d hd => ?_
  obtain ⟨rs, e, hn, hr⟩ := hd
  refine ⟨rs, e, hn, ?_⟩
  have := hr.mono (step_bound hl2 k2)
  rw [show (1 : Rat) * 1 = 1 from by decide +kernel] at this
  rw [Nat.pow_succ]
  exact this
theorem t_drawn_first {sk : D} (h : SK sk) {n : Nat} (h1 : 1 ≤ n) (h2 : n ≤ 4) : OW (f_law_drawn_first sk [.int (n : Nat)]) fun r => ∃ qs, r.1 = eL qs ∧ qs.length = n + 1 ∧ PolyOk (60 ^ 3) (10 ^ 12) 1 qs ∧ SK r.2 := by
  refine funS_ow ?_
  unfold den_law_drawn_first
  rw [sw_seq]
  simp
  refine sw_while (fun m s ev => SK s ∧ ∃ x y u qs j, ev = [none, some (.int (n : Nat)), some (eL qs), x, y, u] ∧ PolyOk (60 ^ j) (2000 ^ j) 1 qs ∧ 2 ≤ qs.length ∧ qs.length ≤ n + 1 ∧ j + 2 ≤ qs.length ∧ m = n + 1 - qs.length) (n + 1 - 2) (by omega) ⟨h, none, none, none, [fr (-1) 1, fr 1 1], 0, rfl, ⟨?_, rfl⟩, by simp, by simp; omega, by simp, by simp⟩ fun m s ev hi => ?_
  · intro q hq
    have : ([fr (-1) 1, fr 1 1].all fun q => gdB 1 1 q) = true := by decide +kernel
    exact gd_of (List.all_eq_true.mp this q hq)
  · obtain ⟨hs, x, y, u, qs, j, rfl, hp, hl, hl2, hj, hm⟩ := hi
    simp [eL]
    have pickRoot : ∀ s' (Q : D × D → Prop), SK s' → (∀ q s2, q ∈ roots → SK s2 → Q (eR q, s2)) → OW (f_law_pick s' [.lst (roots.map eR)]) Q := fun s' Q h1 h2 =>
      ow_pick h1 (by decide) (by decide) fun d s2 hd hs2 => by
        obtain ⟨q, hq, rfl⟩ := List.mem_map.mp hd
        exact h2 q s2 hq hs2
    have pickMid : ∀ s' (Q : D × D → Prop), SK s' → (∀ p s2, p ∈ mids → SK s2 → Q (.tup [eR p.1, eR p.2], s2)) → OW (f_law_pick s' [.lst (mids.map fun p => .tup [eR p.1, eR p.2])]) Q := fun s' Q h1 h2 =>
      ow_pick h1 (by decide) (by decide) fun d s2 hd hs2 => by
        obtain ⟨q, hq, rfl⟩ := List.mem_map.mp hd
        exact h2 q s2 hq hs2
    by_cases c : qs.length ≤ n
    case neg =>
      left
      refine ⟨by omega, qs, rfl, by omega, ?_, hs⟩
      have hj3 : j ≤ 3 := by omega
      have hu := (hp.up (60 ^ (3 - j)))
      rw [← Nat.pow_add, show j + (3 - j) = 3 by omega] at hu
      refine hu.mono ?_
      have : j = 0 ∨ j = 1 ∨ j = 2 ∨ j = 3 := by omega
      rcases this with rfl | rfl | rfl | rfl <;> decide
    right
    refine ⟨c, ?_⟩
    have rootStep : ∀ s', SK s' → ∀ Q : D × D → Prop, (∀ q s2, q ∈ roots → SK s2 → Q (eR q, s2)) → OW (f_law_pick s' [.lst (roots.map eR)]) Q := fun s' h1 Q h2 => pickRoot s' Q h1 h2
    by_cases c2 : qs.length < n
    · right
      refine ⟨c2, ow_pull hs (by decide) (by decide) fun v s1 v1 v2 hs1 => ?_⟩
      simp [eqQ, okN, eqD]
      by_cases hv : v = 0
      · right
        refine ⟨hv, pickMid s1 _ hs1 fun p s2 hpm hs2 => ?_⟩
        have hpo := mids_ok p hpm
        simp
        refine OW.mono (t_grow (ps := [p.1, p.2, 1]) (by omega) hp hl (by omega) (fun x hx => ?_) (by simp) (by simp) rfl) fun d hd => ?_
        · simp at hx
          rcases hx with rfl | rfl | rfl
          · exact hpo.1
          · exact hpo.2
          · exact one_ok
        · obtain ⟨rs, rfl, hn, hrs⟩ := hd
          simp at hn
          exact ⟨_, by omega, hs2, _, _, _, rs, rfl, j + 1, hrs, by omega, by omega, by omega, rfl⟩
      · left
        refine ⟨hv, pickRoot s1 _ hs1 fun q s2 hqm hs2 => ?_⟩
        simp
        rw [tup_neg]
        refine OW.mono (t_grow (ps := [-q, 1]) (by omega) hp hl (by omega) (fun x hx => ?_) (by simp) (by simp) rfl) fun d hd => ?_
        · simp at hx
          rcases hx with rfl | rfl
          · exact (roots_ok q hqm).neg
          · exact one_ok
        · obtain ⟨rs, rfl, hn, hrs⟩ := hd
          simp at hn
          exact ⟨_, by omega, hs2, _, _, _, rs, rfl, j + 1, hrs, by omega, by omega, by omega, rfl⟩
    · left
      refine ⟨by omega, pickRoot s _ hs fun q s2 hqm hs2 => ?_⟩
      simp
      rw [tup_neg]
      refine OW.mono (t_grow (ps := [-q, 1]) (by omega) hp hl (by omega) (fun x hx => ?_) (by simp) (by simp) rfl) fun d hd => ?_
      · simp at hx
        rcases hx with rfl | rfl
        · exact (roots_ok q hqm).neg
        · exact one_ok
      · obtain ⟨rs, rfl, hn, hrs⟩ := hd
        simp at hn
        exact ⟨_, by omega, hs2, _, _, _, rs, rfl, j + 1, hrs, by omega, by omega, by omega, rfl⟩
end Dn
namespace Dn
open PySem PySem.Spec PyProof.Rows L2
def NxP (P : D → VE → Prop) : Fl → Prop
  | .nx s e => P s e
  | _ => False
def NxR (P : D → VE → Prop) (Q : Fl → Prop) : Fl → Prop
  | .nx s e => P s e
  | .rt s d => Q (.rt s d)
  | _ => False
@[simp] theorem nxP_nx {P : D → VE → Prop} {s : D} {e : VE} : NxP P (.nx s e) ↔ P s e := Iff.rfl
@[simp] theorem nxP_rt {P : D → VE → Prop} {s d : D} : NxP P (.rt s d) ↔ False := Iff.rfl
@[simp] theorem nxR_nx {P : D → VE → Prop} {Q : Fl → Prop} {s : D} {e : VE} : NxR P Q (.nx s e) ↔ P s e := Iff.rfl
@[simp] theorem nxR_rt {P : D → VE → Prop} {Q : Fl → Prop} {s d : D} : NxR P Q (.rt s d) ↔ Q (.rt s d) := Iff.rfl
theorem sw_step {A B : SF} {sk : D} {ev : VE} {Q : Fl → Prop} (P : D → VE → Prop) (h : SW A sk ev (NxP P)) (k : ∀ s e, P s e → SW B s e Q) : SW (seqS A B) sk ev Q := by
  rw [sw_seq]
  refine SW.mono h fun f hf => ?_
  cases f with
  | nx s e => exact k s e hf
  | _ => exact hf.elim
theorem sw_stepR {A B : SF} {sk : D} {ev : VE} {Q : Fl → Prop} (P : D → VE → Prop) (h : SW A sk ev (NxR P Q)) (k : ∀ s e, P s e → SW B s e Q) : SW (seqS A B) sk ev Q := by
  rw [sw_seq]
  refine SW.mono h fun f hf => ?_
  cases f with
  | nx s e => exact k s e hf
  | rt s d => exact hf
  | _ => exact hf.elim
/-! ### drawn rules -/
structure RuleG (as : List Rat) (lead : Rat) (bs : List Rat) : Prop where
  nz : lead ≠ 0
  len : bs.length = as.length + 1
  pos : 1 ≤ as.length
  most : as.length ≤ 8
  gd : ∃ M : Nat, 0 < M ∧ M < 2 ^ 190 ∧ (∀ a ∈ as, Gd M (2 ^ 130) a) ∧ Gd M (2 ^ 130) lead ∧ ∀ b ∈ bs, Gd M (2 ^ 130) b
theorem RuleG.ok {as bs : List Rat} {lead : Rat} (h : RuleG as lead bs) : RuleOk 200 as lead bs := by
  obtain ⟨M, h0, h1, ha, hl, hb⟩ := h.gd
  have lt1 : M < 2 ^ 200 := Nat.lt_trans h1 (by decide)
  exact ⟨h.nz, h.len, h.pos, h.most, fun a hm => (ha a hm).rb h0 lt1 (by decide), hl.rb h0 lt1 (by decide), fun a hm => (hb a hm).rb h0 lt1 (by decide)⟩
end Dn
namespace Dn
open PySem PySem.Spec PyProof.Rows L2
def knownR : List (List Rat × Rat × List Rat) := [([fr (-1) 1], fr 1 1, [fr 1 1, fr 0 1]), ([fr (-1) 1], fr 1 1, [fr 0 1, fr 1 1]), ([fr (-1) 1], fr 1 1, [fr 1 2, fr 1 2]), ([fr (-1) 1], fr 1 1, [fr 1 3, fr 2 3]),
  ([fr (-1) 1, fr 0 1], fr 1 1, [fr 0 1, fr 2 1, fr 0 1]), ([fr 1 2, fr (-2) 1], fr 3 2, [fr 0 1, fr 0 1, fr 1 1]), ([fr 0 1, fr (-1) 1], fr 1 1, [fr (-1) 2, fr 3 2, fr 0 1]), ([fr 0 1, fr (-1) 1], fr 1 1, [fr (-1) 12, fr 2 3, fr 5 12]),
  ([fr (-1) 1, fr 0 1], fr 1 1, [fr 1 3, fr 4 3, fr 1 3]), ([fr (-5) 1, fr 4 1], fr 1 1, [fr 2 1, fr 4 1, fr 0 1]), ([fr (-1) 3, fr 3 2, fr (-3) 1], fr 11 6, [fr 0 1, fr 0 1, fr 0 1, fr 1 1]),
  ([fr 0 1, fr 0 1, fr (-1) 1], fr 1 1, [fr 5 12, fr (-4) 3, fr 23 12, fr 0 1]), ([fr 1 4, fr (-4) 3, fr 3 1, fr (-4) 1], fr 25 12, [fr 0 1, fr 0 1, fr 0 1, fr 0 1, fr 1 1])]
theorem t_law_known : f_law_known [] = some (.lst (knownR.map fun t => eRule t.1 t.2.1 t.2.2)) := by rfl
theorem knownR_ok : ∀ t ∈ knownR, RuleG t.1 t.2.1 t.2.2 := by
  have h : (knownR.all fun t => decide (t.2.1 ≠ 0) && decide (t.2.2.length = t.1.length + 1) && decide (1 ≤ t.1.length) && decide (t.1.length ≤ 8) && t.1.all (gdB 12 1000) && gdB 12 1000 t.2.1 && t.2.2.all (gdB 12 1000)) = true := by decide +kernel
  intro t ht
  have := List.all_eq_true.mp h t ht
  simp only [Bool.and_eq_true, decide_eq_true_eq, List.all_eq_true] at this
  obtain ⟨⟨⟨⟨⟨⟨h1, h2⟩, h3⟩, h4⟩, h5⟩, h6⟩, h7⟩ := this
  have big : 1000 ≤ 2 ^ 130 := by decide
  exact ⟨h1, h2, h3, h4, 12, by decide, by decide, fun a ha => (gd_of (h5 a ha)).mono big, (gd_of h6).mono big, fun a ha => (gd_of (h7 a ha)).mono big⟩
theorem bt_of {i : Int} (h : i.natAbs < 1000) : Bt 32 i := by
  unfold Bt
  have : (1000 : Nat) < 2 ^ 32 := by decide
  omega
theorem ow_small {sk : D} {Q : D × D → Prop} (h : SK sk) (q : ∀ x s, Gd 6 24 x → SK s → Q (eR x, s)) : OW (f_law_small sk []) Q := by
  refine funS_ow ?_
  simp [den_law_small]
  refine ow_pull h (by decide) (by decide) fun v s v1 v2 hs => ?_
  simp
  refine ow_pull hs (by decide) (by decide) fun u s2 u1 u2 hs2 => ?_
  simp
  rw [t_law_f (n := 32) (bt_of (by omega)) (bt_of (by omega)) (by decide) (by omega)]
  simp
  refine q _ _ ?_ hs2
  have hu : u = 0 ∨ u = 1 ∨ u = 2 := by omega
  rcases hu with rfl | rfl | rfl
  · exact Gd.div_int (by decide) 6 (by decide) (by omega)
  · exact Gd.div_int (by decide) 3 (by decide) (by omega)
  · exact Gd.div_int (by decide) 2 (by decide) (by omega)
end Dn
namespace Dn
open PySem PySem.Spec PyProof.Rows L2
theorem lc_small {i : Nat} {ds : List D} {s : D} {ev : VE} {Q : List D × D → Prop} (h : SK s) (q : ∀ (rs : List Rat) (s' : D), rs.length = ds.length → (∀ r ∈ rs, Gd 6 24 r) → SK s' → Q (rs.map eR, s')) : OW (lcF (nameG i) yesB (callS f_law_small nilA) ds s ev) Q := by
  refine lc_rule ds (fun i s acc => SK s ∧ ∃ rs, acc = rs.map eR ∧ rs.length = i ∧ ∀ r ∈ rs, Gd 6 24 r) 0 s [] (fun i d s acc hd hi => ?_) ⟨h, [], rfl, rfl, by simp⟩ fun s xs hi => ?_
  · obtain ⟨hs, rs, rfl, hl, hg⟩ := hi
    simp
    refine ow_small hs fun x s2 hx hs2 => ⟨hs2, rs ++ [x], by simp, by simp; omega, fun r hr => ?_⟩
    rcases List.mem_append.mp hr with hr | hr
    · exact hg r hr
    · rw [List.mem_singleton.mp hr]; exact hx
  · obtain ⟨hs, rs, rfl, hl, hg⟩ := hi
    exact q rs s (by omega) hg hs
def FirstOk (n : Nat) (qs : List Rat) : Prop := qs.length = n + 1 ∧ (∀ q ∈ qs, Gd 216000 (10 ^ 12) q) ∧ ∃ z, qs[n]? = some z ∧ z ≠ 0
def SecOk (n C : Nat) (rs : List Rat) : Prop := rs.length = n + 1 ∧ ∀ r ∈ rs, Gd 216000 C r
theorem gd6 {x : Rat} (h : Gd 6 24 x) : Gd 216000 (10 ^ 7) x := (h.up 36000).mono (by decide)
theorem int_eR {k : Nat} : (.tup [.int (k : Nat), .int 1] : D) = eR (((k : Int) : Rat)) := by simp [eR]
theorem one_frac {v u : Int} (v1 : 0 ≤ v) (v2 : v < 4) (u1 : 0 ≤ u) (u2 : u < 3) : ∃ z, f_law_f [.int (1 + v), .int (1 + u)] = some (eR z) ∧ Gd 6 24 z ∧ z ≠ 0 := by
  refine ⟨_, t_law_f (n := 32) (bt_of (by omega)) (bt_of (by omega)) (by decide) (by omega), ?_, ?_⟩
  · have hu : u = 0 ∨ u = 1 ∨ u = 2 := by omega
    rcases hu with rfl | rfl | rfl
    · exact Gd.div_int (by decide) 6 (by decide) (by omega)
    · exact Gd.div_int (by decide) 3 (by decide) (by omega)
    · exact Gd.div_int (by decide) 2 (by decide) (by omega)
  · intro z
    have := Rat.num_eq_zero.mpr z
    rw [Rat.num_divInt, Int.sign_eq_one_of_pos (by omega), Int.one_mul] at this
    have hg : 0 < Int.gcd (1 + u) (1 + v) := Int.gcd_pos_of_ne_zero_left _ (by omega)
    have hd : ((Int.gcd (1 + u) (1 + v) : Nat) : Int) ∣ 1 + v := Int.gcd_dvd_right _ _
    have := Int.eq_mul_of_ediv_eq_right hd this
    rw [Int.mul_zero] at this
    omega
def midS : SF := (seqS (asgS (tupE (consA (cE (.int 0)) (consA (cE (.int 1)) nilA))) (nameG 6)) (seqS (forS (rng1I (unE lenQ (varE 4))) (nameG 7) (asgS (callE f_law_less (consA (callE f_law_plus (consA (varE 6) (consA (callE f_law_times (consA (binE ixQ (varE 4) (varE 7)) (consA (tupE (consA (varE 7) (consA (cE (.int 1)) nilA))) nilA))) nilA))) (consA (binE ixQ (varE 5) (varE 7)) nilA))) (nameG 6))) (seqS (asgS (ifE (tstB (binE eqQ (varE 2) (cE (.int 2)))) (varE 3) (callS f_law_pull (consA (unE lenQ (varE 5)) nilA))) (nameG 8)) (setS 5 (varE 8) (callE f_law_plus (consA (binE ixQ (varE 5) (varE 8)) (consA (varE 6) nilA)))))))
theorem bnd (i A B C : Nat) (h : B + C ≤ A) : i * A + B + C ≤ (i + 1) * A := by
  rw [Nat.succ_mul]
  omega
def MidP (m : Nat) (w : Int) (n : Nat) (qs : List Rat) (s : D) (ev : VE) : Prop := SK s ∧ ∃ rs x y z, SecOk n (10 ^ 15) rs ∧ ev = [none, some (.int (m : Nat)), some (.int w), some (.int (n : Nat)), some (eL qs), some (eL rs), x, y, z, none, none, none]
def LeftP (m : Nat) (w : Int) (n : Nat) (qs rs : List Rat) (C : Nat) (s : D) (ev : VE) : Prop := SK s ∧ ∃ l x, Gd 216000 C l ∧ ev = [none, some (.int (m : Nat)), some (.int w), some (.int (n : Nat)), some (eL qs), some (eL rs), some (eR l), x, none, none, none, none]
theorem t_mid {m : Nat} {s : D} {w : Int} {n : Nat} {qs rs : List Rat} (hs : SK s) (hw : 1 < w ∧ w < 5) (n1 : 1 ≤ n) (n2 : n ≤ 4) (hq : FirstOk n qs) (hr : SecOk n (10 ^ 7) rs) : SW midS s [none, some (.int (m : Nat)), some (.int w), some (.int (n : Nat)), some (eL qs), some (eL rs), none, none, none, none, none, none]
    (NxP (MidP m w n qs)) := by
  unfold midS
  have hql := hq.1
  have hrl := hr.1
  refine sw_step (fun s ev => SK s ∧ ev = [none, some (.int (m : Nat)), some (.int w), some (.int (n : Nat)), some (eL qs), some (eL rs), some (eR 0), none, none, none, none, none]) ?_ ?_
  · simp
    exact ⟨hs, rfl⟩
  rintro s ev ⟨hs, rfl⟩
  refine sw_step (LeftP m w n qs rs (10 ^ 14)) ?_ ?_
  · simp [eL, -sw_for]
    rw [sw_for]
    simp
    refine ⟨by omega, ?_⟩
    refine for_rule _ (fun i => LeftP m w n qs rs (i * (10 ^ 13))) 0 _ _ (fun i d s ev hd hi => ?_) ⟨hs, 0, none, ⟨0, by simp, by simp⟩, rfl⟩ fun s ev hi => ?_
    · obtain ⟨hs, l, x, hl, rfl⟩ := hi
      rw [Nat.zero_add] at hl ⊢
      obtain ⟨hil, rfl⟩ := upTo_get _ _ _ _ hd
      have hil' : i < n + 1 := by omega
      rw [Int.zero_add]
      have e1 : qs[i]? = some (qs[i]'(by omega)) := List.getElem?_eq_getElem (by omega)
      have e2 : rs[i]? = some (rs[i]'(by omega)) := List.getElem?_eq_getElem (by omega)
      have a1 : ∀ Q : D → Prop, OW (L2.atI (qs.map eR) (i : Int)) Q ↔ Q (eR (qs[i]'(by omega))) := fun Q => ow_eq (at_nat (by rw [List.getElem?_map, e1]; rfl))
      have a2 : ∀ Q : D → Prop, OW (L2.atI (rs.map eR) (i : Int)) Q ↔ Q (eR (rs[i]'(by omega))) := fun Q => ow_eq (at_nat (by rw [List.getElem?_map, e2]; rfl))
      have g1 := hq.2.1 _ (List.getElem_mem (l := qs) (n := i) (by omega))
      have g2 := hr.2 _ (List.getElem_mem (l := rs) (n := i) (by omega))
      have g3 : Gd 1 4 ((i : Int) : Rat) := Gd.int _ (by omega)
      have g4 := g1.mul g3
      rw [Nat.mul_one] at g4
      have hlb : i * 10 ^ 13 ≤ 5 * 10 ^ 13 := Nat.mul_le_mul_right _ (by omega)
      have b0 : Rb 100 l := hl.rb (by decide) (by decide) (Nat.lt_of_le_of_lt hlb (by decide))
      have b1 : Rb 100 (qs[i]'(by omega)) := g1.rb (by decide) (by decide) (by decide)
      have b2 : Rb 100 (rs[i]'(by omega)) := g2.rb (by decide) (by decide) (by decide)
      have b3 : Rb 100 ((i : Int) : Rat) := g3.rb (by decide) (by decide) (by decide)
      have b4 := b1.mul b3
      have b5 := b0.add b4
      simp [Turned, eL, a1, a2, int_eR, t_law_times b1 b3 (by omega), t_law_plus b0 b4 (by omega), t_law_less b5 b2 (by omega)]
      refine ⟨hs, _, _, ?_, rfl⟩
      exact ((hl.add g4).sub g2).mono (bnd i (10 ^ 13) (10 ^ 12 * 4) (10 ^ 7) (by decide))
    · obtain ⟨hs, l, x, hl, rfl⟩ := hi
      refine ⟨hs, l, x, hl.mono ?_, rfl⟩
      rw [upTo_length]
      exact Nat.le_trans (Nat.mul_le_mul_right _ (show _ ≤ 5 by omega)) (by decide)
  rintro s ev ⟨hs, l, x, hl, rfl⟩
  refine sw_step (fun s ev => SK s ∧ ∃ k : Nat, k < n + 1 ∧ ev = [none, some (.int (m : Nat)), some (.int w), some (.int (n : Nat)), some (eL qs), some (eL rs), some (eR l), x, some (.int (k : Nat)), none, none, none]) ?_ ?_
  · simp [eqQ, okN, eqD]
    by_cases h2 : w = 2
    · right
      exact ⟨h2, hs, n, by omega, rfl⟩
    · left
      refine ⟨h2, ?_⟩
      simp [eL]
      refine ow_pull hs (by omega) (by omega) fun v s2 v1 v2 hs2 => ?_
      obtain ⟨k, rfl⟩ := Int.eq_ofNat_of_zero_le v1
      exact ⟨hs2, k, by omega, rfl⟩
  rintro s ev ⟨hs, k, hk, rfl⟩
  have e2 : rs[k]? = some (rs[k]'(by omega)) := List.getElem?_eq_getElem (by omega)
  have a2 : ∀ Q : D → Prop, OW (L2.atI (rs.map eR) (k : Int)) Q ↔ Q (eR (rs[k]'(by omega))) := fun Q => ow_eq (at_nat (by rw [List.getElem?_map, e2]; rfl))
  have g2 := hr.2 _ (List.getElem_mem (l := rs) (n := k) (by omega))
  have b2 : Rb 100 (rs[k]'(by omega)) := g2.rb (by decide) (by decide) (by decide)
  have b0 : Rb 100 l := hl.rb (by decide) (by decide) (by decide)
  have hix : ixN rs.length (k : Int) = some k := by
    unfold ixN
    rw [if_pos (by omega), if_pos (by omega), Int.toNat_natCast]
  refine sw_set' ?_
  simp [eL, a2, t_law_plus b2 b0 (by omega), hix]
  refine ⟨hs, rs.set k (rs[k]'(by omega) + l), _, _, _, ⟨by simp; exact hr.1, fun r h => ?_⟩, by simp [eL, List.map_set]; exact ⟨rfl, rfl, rfl⟩⟩
  rcases List.mem_or_eq_of_mem_set h with h | h
  · exact (hr.2 r h).mono (by decide)
  · rw [h]; exact (g2.add hl).mono (by decide)
def byR : List Rat := [fr 1 1, fr 1 1, fr 2 1, fr (-1) 2]
theorem byR_ok : ∀ p ∈ byR, Gd 2 4 p ∧ p ≠ 0 := by
  have h : (byR.all fun p => gdB 2 4 p && decide (p ≠ 0)) = true := by decide +kernel
  intro p hp
  have := List.all_eq_true.mp h p hp
  rw [Bool.and_eq_true, decide_eq_true_eq] at this
  exact ⟨gd_of this.1, this.2⟩
theorem rule_of {M n : Nat} {qs rs : List Rat} {z : Rat} (h0 : 0 < M) (h1 : M < 2 ^ 190) (n1 : 1 ≤ n) (n2 : n ≤ 8) (hq : qs.length = n + 1) (hr : rs.length = n + 1) (hz : qs[n]? = some z) (nz : z ≠ 0) (gq : ∀ q ∈ qs, Gd M (2 ^ 130) q) (gr : ∀ q ∈ rs, Gd M (2 ^ 130) q) :
    (.tup [eT qs, eT rs] : D) = eRule (qs.take n) z rs ∧ RuleG (qs.take n) z rs := by
  have e : qs = qs.take n ++ [z] := by
    have h2 := List.take_append_drop n qs
    have h3 : qs.drop n = [z] := by
      apply List.ext_getElem?
      intro i
      rw [List.getElem?_drop]
      cases i with
      | zero => simpa using hz
      | succ i => rw [List.getElem?_eq_none (by omega)]; simp
    rw [h3] at h2
    exact h2.symm
  have lt : (qs.take n).length = n := by rw [List.length_take]; omega
  refine ⟨?_, nz, by omega, by omega, by omega, M, h0, h1, fun a ha => gq a (List.mem_of_mem_take ha), gq z (List.mem_of_getElem? hz), gr⟩
  unfold eRule
  rw [← e]
theorem knownR0 : ([fr (-1) 1], fr 1 1, [fr 1 1, fr 0 1]) ∈ knownR := List.mem_cons_self ..
theorem t_drawn_ruleM {m : Nat} (m1 : 1 ≤ m) (m2 : m ≤ 4) {sk : D} (h : SK sk) : OW (f_law_drawn_rule sk [.int (m : Nat)]) fun r => ∃ as lead bs, r.1 = eRule as lead bs ∧ RuleG as lead bs ∧ as.length ≤ m ∧ SK r.2 := by
  refine funS_ow ?_
  unfold den_law_drawn_rule
  refine sw_step (fun s ev => SK s ∧ ∃ w : Int, 0 ≤ w ∧ w < 6 ∧ ev = [none, some (.int (m : Nat)), some (.int w), none, none, none, none, none, none, none, none, none]) ?_ ?_
  · simp
    exact ow_pull h (by decide) (by decide) fun v s v1 v2 hs => ⟨hs, v, v1, v2, rfl⟩
  rintro s ev ⟨hs, w, w1, w2, rfl⟩
  refine sw_stepR (fun s ev => SK s ∧ ev = [none, some (.int (m : Nat)), some (.int w), none, none, none, none, none, none, none, none, none]) ?_ ?_
  · simp [eqQ, okN, eqD]
    by_cases hw : w = 0
    · right
      refine ⟨hw, ?_⟩
      rw [t_law_known]
      simp
      refine lc_filter (fun t : List Rat × Rat × List Rat => eRule t.1 t.2.1 t.2.2) (fun t => decide (t.1.length + 1 ≤ m + 1)) (fun t => eRule t.1 t.2.1 t.2.2) knownR _ (fun t ht => ?_) ?_
      · have e1 : ∀ Q : D → Prop, OW (ixQ (eRule t.1 t.2.1 t.2.2) (.int 0)) Q ↔ Q (eT (t.1 ++ [t.2.1])) := fun Q => at_0
        simp [wipeV, e1, eT]
        omega
      · refine ⟨Nat.le_trans (by simp only [List.length_map]; exact List.length_filter_le _ _) (by decide), ?_⟩
        have hne : (knownR.filter fun t => decide (t.1.length + 1 ≤ m + 1)) ≠ [] := List.ne_nil_of_mem (List.mem_filter.mpr ⟨knownR0, by simp; omega⟩)
        refine ow_pick hs (by rw [ne_eq, List.map_eq_nil_iff]; exact hne) (Nat.le_trans (by simp only [List.length_map]; exact List.length_filter_le _ _) (by decide)) fun d s2 hd hs2 => ?_
        obtain ⟨t, ht, rfl⟩ := List.mem_map.mp hd
        exact ⟨_, _, _, rfl, knownR_ok t (List.mem_filter.mp ht).1, by have := (List.mem_filter.mp ht).2; simp at this; omega, hs2⟩
    · left
      exact ⟨hw, hs⟩
  rintro s ev ⟨hs, rfl⟩
  refine sw_step (fun s ev => SK s ∧ ∃ n : Nat, 1 ≤ n ∧ n ≤ m ∧ ev = [none, some (.int (m : Nat)), some (.int w), some (.int (n : Nat)), none, none, none, none, none, none, none, none]) ?_ ?_
  · simp
    refine ow_pull hs (by omega) (by omega) fun v s v1 v2 hs => ?_
    obtain ⟨k, rfl⟩ := Int.eq_ofNat_of_zero_le v1
    exact ⟨hs, k + 1, by omega, by omega, by simp; omega⟩
  rintro s ev ⟨hs, n, n1, nm, rfl⟩
  have n2 : n ≤ 4 := by omega
  refine sw_step (fun s ev => SK s ∧ ∃ qs, FirstOk n qs ∧ ev = [none, some (.int (m : Nat)), some (.int w), some (.int (n : Nat)), some (eL qs), none, none, none, none, none, none, none]) ?_ ?_
  · simp
    refine OW.mono (t_drawn_first hs n1 n2) fun r hr => ?_
    obtain ⟨d, s2⟩ := r
    obtain ⟨qs, rfl, hl, hp, hs2⟩ := hr
    refine ⟨hs2, qs, ⟨hl, hp.gd, 1, ?_, by decide⟩, rfl⟩
    have := hp.lst
    rwa [hl] at this
  rintro s ev ⟨hs, qs, hq, rfl⟩
  refine sw_step (fun s ev => SK s ∧ ∃ qs, FirstOk n qs ∧ ev = [none, some (.int (m : Nat)), some (.int w), some (.int (n : Nat)), some (eL qs), none, none, none, none, none, none, none]) ?_ ?_
  · simp [eqQ, okN, eqD]
    by_cases hw : w = 5
    · right
      refine ⟨hw, by omega, lc_small hs fun rs s2 hl hg hs2 => ?_⟩
      rw [upTo_length] at hl
      refine ⟨by simp; omega, ow_pull hs2 (by decide) (by decide) fun v s3 v1 v2 hs3 => ?_⟩
      simp
      refine ow_pull hs3 (by decide) (by decide) fun u s4 u1 u2 hs4 => ?_
      simp
      obtain ⟨z, e, gz, nz⟩ := one_frac v1 v2 u1 (by omega)
      rw [e]
      simp
      refine ⟨by omega, hs4, rs ++ [z], ⟨by simp; omega, fun q hq => ?_, z, by simp [hl], nz⟩, by simp [eL]⟩
      rcases List.mem_append.mp hq with hq | hq
      · exact (gd6 (hg q hq)).mono (by decide)
      · rw [List.mem_singleton.mp hq]; exact (gd6 gz).mono (by decide)
    · left
      exact ⟨hw, hs, qs, hq, rfl⟩
  rintro s ev ⟨hs, qs, hq, rfl⟩
  refine sw_step (fun s ev => SK s ∧ ∃ rs, SecOk n (10 ^ 7) rs ∧ ev = [none, some (.int (m : Nat)), some (.int w), some (.int (n : Nat)), some (eL qs), some (eL rs), none, none, none, none, none, none]) ?_ ?_
  · simp [eL]
    refine lc_small hs fun rs s2 hl hg hs2 => ?_
    rw [List.length_map, hq.1] at hl
    exact ⟨by simp; omega, hs2, rs, ⟨hl, fun r hr => gd6 (hg r hr)⟩, rfl⟩
  rintro s ev ⟨hs, rs, hr, rfl⟩
  refine sw_step (fun s ev => SK s ∧ ∃ rs, SecOk n (10 ^ 7) rs ∧ ev = [none, some (.int (m : Nat)), some (.int w), some (.int (n : Nat)), some (eL qs), some (eL rs), none, none, none, none, none, none]) ?_ ?_
  · have hset : ixN (rs.map eR).length (-1) = some n := by
      rw [List.length_map, hr.1]
      exact ixN_neg
    have hset' : ixN rs.length (-1) = some n := by
      rw [hr.1]
      exact ixN_neg
    simp [eqQ, okN, eqD]
    by_cases hw : w = 1
    · right
      refine ⟨hw, sw_set' ?_⟩
      simp [eL, hset']
      refine ⟨hs, rs.set n 0, ⟨by simp; exact hr.1, fun r h => ?_⟩, by simp [List.map_set]; rfl⟩
      rcases List.mem_or_eq_of_mem_set h with h | h
      · exact hr.2 r h
      · rw [h]; exact ⟨0, by simp, by simp⟩
    · left
      exact ⟨hw, hs, rs, hr, rfl⟩
  rintro s ev ⟨hs, rs, hr, rfl⟩
  refine sw_step (fun s ev => SK s ∧ ∃ rs, SecOk n (10 ^ 7) rs ∧ ev = [none, some (.int (m : Nat)), some (.int w), some (.int (n : Nat)), some (eL qs), some (eL rs), none, none, none, none, none, none]) ?_ ?_
  · simp [eqQ, okN, eqD]
    by_cases hw : w = 2
    · right
      refine ⟨hw, ?_⟩
      simp [repD]
      refine ⟨by omega, ow_pull hs (by decide) (by decide) fun v s3 v1 v2 hs3 => ?_⟩
      simp
      refine ow_pull hs3 (by decide) (by decide) fun u s4 u1 u2 hs4 => ?_
      simp
      obtain ⟨z, e, gz, nz⟩ := one_frac v1 v2 u1 u2
      rw [e]
      simp
      refine ⟨by omega, hs4, List.replicate n 0 ++ [z], ⟨by simp, fun q hq => ?_⟩, by simp [eL]; exact .inr rfl⟩
      rcases List.mem_append.mp hq with hq | hq
      · rw [(List.mem_replicate.mp hq).2]; exact ⟨0, by simp, by simp⟩
      · rw [List.mem_singleton.mp hq]; exact gd6 gz
    · left
      exact ⟨hw, hs, rs, hr, rfl⟩
  rintro s ev ⟨hs, rs, hr, rfl⟩
  refine sw_step (MidP m w n qs) ?_ ?_
  · show SW (ifS _ midS nxS) _ _ _
    by_cases hw : 1 < w ∧ w < 5
    case neg =>
      simp
      by_cases h1 : 1 < w
      · exact .inr ⟨h1, .inl ⟨by omega, hs, rs, none, none, none, ⟨hr.1, fun r h => (hr.2 r h).mono (by decide)⟩, rfl⟩⟩
      · exact .inl ⟨by omega, hs, rs, none, none, none, ⟨hr.1, fun r h => (hr.2 r h).mono (by decide)⟩, rfl⟩
    have := t_mid (m := m) hs hw n1 n2 hq hr
    simp
    exact .inr ⟨hw.1, .inr ⟨hw.2, this⟩⟩
  rintro s ev ⟨hs, rs, x, y, u, hr, rfl⟩
  refine sw_step (fun s ev => SK s ∧ ∃ b, b ∈ byR ∧ ev = [none, some (.int (m : Nat)), some (.int w), some (.int (n : Nat)), some (eL qs), some (eL rs), x, y, u, some (eR b), none, none]) ?_ ?_
  · simp
    refine ow_pick (ds := byR.map eR) hs (by decide) (by decide) fun d s2 hd hs2 => ?_
    obtain ⟨b, hb, rfl⟩ := List.mem_map.mp hd
    exact ⟨hs2, b, hb, rfl⟩
  rintro s ev ⟨hs, b, hb, rfl⟩
  obtain ⟨gb, nb⟩ := byR_ok b hb
  have bb : Rb 100 b := gb.rb (by decide) (by decide) (by decide)
  have hql := hq.1
  have hrl := hr.1
  simp [eL]
  refine lc_map eR (fun q => eR (q * b)) qs _ (fun q hm => ?_) ?_
  · have b1 : Rb 100 q := (hq.2.1 q hm).rb (by decide) (by decide) (by decide)
    simp [wipeV, t_law_times b1 bb (by omega)]
  · refine ⟨by simp only [List.length_map]; omega, ?_⟩
    simp
    refine lc_map eR (fun q => eR (q * b)) rs _ (fun q hm => ?_) ?_
    · have b1 : Rb 100 q := (hr.2 q hm).rb (by decide) (by decide) (by decide)
      simp [wipeV, t_law_times b1 bb (by omega)]
    · refine ⟨by simp only [List.length_map]; omega, ?_⟩
      obtain ⟨z, hz, nz⟩ := hq.2.2
      have := rule_of (M := 216000 * 2) (n := n) (qs := qs.map (· * b)) (rs := rs.map (· * b)) (z := z * b) (by decide) (by decide) n1 (by omega) (by simp [hql]) (by simp [hrl]) (by simp [hz]) (by
        intro h0
        rcases Rat.mul_eq_zero.mp h0 with h0 | h0
        · exact nz h0
        · exact nb h0) (fun q hm => by
          obtain ⟨q', hm', rfl⟩ := List.mem_map.mp hm
          exact ((hq.2.1 q' hm').mul gb).mono (by decide)) (fun q hm => by
          obtain ⟨q', hm', rfl⟩ := List.mem_map.mp hm
          exact ((hr.2 q' hm').mul gb).mono (by decide))
      simp
      refine ⟨_, _, _, ?_, this.2, by rw [List.length_take]; omega, hs⟩
      rw [← this.1]
      simp [eT]
theorem t_drawn_rule {sk : D} (h : SK sk) : OW (f_law_drawn_rule sk [.int 4]) fun r => ∃ as lead bs, r.1 = eRule as lead bs ∧ RuleG as lead bs ∧ SK r.2 := OW.mono (t_drawn_ruleM (m := 4) (by decide) (by decide) h) fun r hr => by
  obtain ⟨as, lead, bs, e, g, _, s⟩ := hr
  exact ⟨as, lead, bs, e, g, s⟩
end Dn
namespace Dn
open PySem PySem.Spec PyProof.Rows L2
/-! ### what is shown -/
def Sh (d : D) : Prop := d = .non ∨ d = .str "endless" ∨ (∃ b, d = .bl b) ∨ ∃ q, Rb 1900 q ∧ d = eR q
structure ShP (d : PyData) : Prop where
  s : d.showable = true
  h : d.hasDict = false
  p : d.depth ≤ 1
  l : d.leavesShort 1921 = true
  b : d.bulk ≤ 7
theorem log_bt {i : Int} (h : Bt 1900 i) : i.natAbs.log2 < 1920 := by
  by_cases h0 : i.natAbs = 0
  · rw [h0]; decide
  · have := (Nat.log2_lt h0).mpr h
    omega
theorem len_bt {i : Int} (h : Bt 1900 i) : (PyData.shown (.int i)).length ≤ 1921 := int_text_len_1921 (log_bt h)
theorem Sh.p {d : D} (h : Sh d) : ShP (toP d) := by
  rcases h with rfl | rfl | ⟨b, rfl⟩ | ⟨q, hq, rfl⟩
  · exact ⟨rfl, rfl, by decide, rfl, by decide⟩
  · exact ⟨rfl, rfl, by decide, by decide +kernel, by decide⟩
  · exact ⟨rfl, rfl, by simp [toP, PyData.depth], rfl, by simp [toP, PyData.bulk]⟩
  · refine ⟨?_, rfl, ?_, ?_, ?_⟩
    · simp [eR, toP, toPs, PyData.showable, PyData.showableAll, log_bt hq.1]
      have := log_bt hq.2
      simpa using this
    · simp [eR, toP, toPs, PyData.depth, PyData.depthAll]
    · simp [eR, toP, toPs, PyData.leavesShort, PyData.leavesShortAll]
      exact ⟨len_bt hq.1, len_bt hq.2⟩
    · simp [eR, toP, toPs, PyData.bulk, PyData.bulkAll]
theorem shAll : ∀ (ds : List D), (∀ d ∈ ds, Sh d) → PyData.showableAll (toPs ds) = true ∧ PyData.hasDictAll (toPs ds) = false ∧ PyData.depthAll (toPs ds) ≤ 1 ∧ PyData.leavesShortAll 1921 (toPs ds) = true ∧ PyData.bulkAll (toPs ds) ≤ 8 * ds.length
  | [], _ => by simp [toPs, PyData.showableAll, PyData.hasDictAll, PyData.depthAll, PyData.leavesShortAll, PyData.bulkAll]
  | d :: ds, h => by
    have h1 := (h d (by simp)).p
    obtain ⟨a, b, c, e, f⟩ := shAll ds fun x hx => h x (by simp [hx])
    have hb := h1.b
    have hp := h1.p
    refine ⟨?_, ?_, ?_, ?_, ?_⟩
    · simp only [toPs, PyData.showableAll, h1.s, a, Bool.and_self]
    · simp only [toPs, PyData.hasDictAll, h1.h, b, Bool.or_self]
    · simp only [toPs, PyData.depthAll]; omega
    · simp only [toPs, PyData.leavesShortAll, h1.l, e, Bool.and_self]
    · simp only [toPs, PyData.bulkAll, List.length_cons]; omega
theorem okS_lst {ds : List D} (h : ∀ d ∈ ds, Sh d) (hl : ds.length ≤ 5) : okS (.lst ds) = true := by
  obtain ⟨a, b, c, e, f⟩ := shAll ds h
  have hs := PyData.shown_le_bulk 1921 (by decide) (.list (toPs ds)) e
  have hbk : (PyData.list (toPs ds)).bulk ≤ 40 := by simp only [PyData.bulk]; omega
  have h3 : (1921 + 2) * (PyData.list (toPs ds)).bulk ≤ (1921 + 2) * 40 := Nat.mul_le_mul_left _ hbk
  have hd : (PyData.list (toPs ds)).depth ≤ 30 := by simp only [PyData.depth]; omega
  have hz : (PyData.list (toPs ds)).shown.length ≤ SZ := by show _ ≤ 1000000; omega
  simp only [okS, isSq, toP, Bool.and_eq_true, Bool.not_eq_true', decide_eq_true_eq, Bool.true_and, PyData.showable, PyData.hasDict]
  exact ⟨⟨⟨a, b⟩, decide_eq_true hd⟩, decide_eq_true hz⟩
/-- the same list shown twice -/
theorem same_shown {ds : List D} (h : ∀ d ∈ ds, Sh d) (hl : ds.length ≤ 5) {Q : D → Prop} (q : Q (.bl false)) : OW (reprQ (.lst ds)) fun x => OW (reprQ (.lst ds)) fun y => OW (neS x y) Q := by
  simp [reprQ, okS_lst h hl, neS]
  exact q
end Dn
namespace Dn
open PySem PySem.Spec PyProof.Rows L2
/-! ### sums -/
def sm (f : Nat → Rat) : Nat → Rat
  | 0 => 0
  | k + 1 => sm f k + f k
theorem sm_front (f : Nat → Rat) : ∀ n, sm f (n + 1) = f 0 + sm (fun k => f (k + 1)) n
  | 0 => by simp [sm]; grind
  | n + 1 => by
    have ih := sm_front f n
    show sm f (n + 1) + f (n + 1) = f 0 + (sm (fun k => f (k + 1)) n + f (n + 1))
    rw [ih]
    grind
theorem sm_add (f g : Nat → Rat) : ∀ n, sm (fun k => f k + g k) n = sm f n + sm g n
  | 0 => by simp [sm]; grind
  | n + 1 => by
    have ih := sm_add f g n
    simp only [sm, ih]
    grind
theorem sm_mul (c : Rat) (f : Nat → Rat) : ∀ n, sm (fun k => c * f k) n = c * sm f n
  | 0 => by simp [sm]
  | n + 1 => by
    have ih := sm_mul c f n
    simp only [sm, ih]
    grind
theorem sm_congr {f g : Nat → Rat} : ∀ n, (∀ k, k < n → f k = g k) → sm f n = sm g n
  | 0, _ => rfl
  | n + 1, h => by
    simp only [sm]
    rw [sm_congr n fun k hk => h k (by omega), h n (by omega)]
theorem sm_zero {f : Nat → Rat} : ∀ n, (∀ k, k < n → f k = 0) → sm f n = 0
  | 0, _ => rfl
  | n + 1, h => by
    simp only [sm]
    rw [sm_zero n fun k hk => h k (by omega), h n (by omega)]
    grind
/-- only one of the summands is not 0 -/
theorem sm_one {f : Nat → Rat} {m : Nat} : ∀ n, m < n → (∀ k, k < n → k ≠ m → f k = 0) → sm f n = f m
  | 0, h, _ => by omega
  | n + 1, h, z => by
    simp only [sm]
    by_cases e : m = n
    · subst e
      rw [sm_zero m fun k hk => z k (by omega) (by omega)]
      grind
    · rw [sm_one n (by omega) fun k hk hn => z k (by omega) hn, z n (by omega) (by omega)]
      grind
/-! ### a polynomial's worth and slope, of a degree up to n -/
inductive Pl : Nat → (Rat → Rat) → (Rat → Rat) → Prop
  | mon {n : Nat} (i : Nat) (h : i ≤ n) (c : Rat) : Pl n (fun x => c * x ^ i) (fun x => c * ((i : Rat) * x ^ (i - 1)))
  | add {n : Nat} {f g f' g' : Rat → Rat} : Pl n f g → Pl n f' g' → Pl n (fun x => f x + f' x) (fun x => g x + g' x)
theorem Pl.up {n m : Nat} {f g : Rat → Rat} (h : Pl n f g) (k : n ≤ m) : Pl m f g := by
  induction h with
  | mon i hi c => exact .mon i (by omega) c
  | add _ _ h1 h2 => exact .add h1 h2
theorem Pl.mulX {n : Nat} {f g : Rat → Rat} (d : Rat) (h : Pl n f g) : Pl (n + 1) (fun x => (x - d) * f x) (fun x => f x + (x - d) * g x) := by
  induction h with
  | mon i hi c =>
    have p := Pl.add (Pl.mon (n := n + 1) (i + 1) (by omega) c) (Pl.mon (n := n + 1) i (by omega) (-(d * c)))
    have e1 : (fun x : Rat => c * x ^ (i + 1) + -(d * c) * x ^ i) = fun x => (x - d) * (c * x ^ i) := by
      funext x
      rw [Rat.pow_succ]
      grind
    have e2 : (fun x : Rat => c * (((i + 1 : Nat) : Rat) * x ^ (i + 1 - 1)) + -(d * c) * ((i : Rat) * x ^ (i - 1))) = fun x => c * x ^ i + (x - d) * (c * ((i : Rat) * x ^ (i - 1))) := by
      funext x
      rw [Nat.add_sub_cancel, Rat.natCast_add]
      cases i with
      | zero => simp; grind
      | succ j =>
        rw [Nat.add_sub_cancel, Rat.pow_succ]
        generalize x ^ j = y
        generalize ((j + 1 : Nat) : Rat) = t
        have : ((1 : Nat) : Rat) = 1 := rfl
        rw [this]
        grind
    rw [e1, e2] at p
    exact p
  | add _ _ h1 h2 =>
    rename_i f g f' g' _ _
    have p := Pl.add h1 h2
    have e1 : (fun x : Rat => (x - d) * f x + (x - d) * f' x) = fun x => (x - d) * (f x + f' x) := by
      funext x; grind
    have e2 : (fun x : Rat => f x + (x - d) * g x + (f' x + (x - d) * g' x)) = fun x => f x + f' x + (x - d) * (g x + g' x) := by
      funext x; grind
    rw [e1, e2] at p
    exact p
/-- what a rule makes of a polynomial and its slope, at 0, 1, .. -/
def lin (a b : Nat → Rat) (f g : Rat → Rat) (n : Nat) : Rat := sm (fun j => a j * f (j : Rat) - b j * g (j : Rat)) n
def lm (a b : Nat → Rat) (K i : Nat) : Rat := lin a b (fun x => x ^ i) (fun x => (i : Rat) * x ^ (i - 1)) K
theorem lin_zero {a b : Nat → Rat} {K n : Nat} {f g : Rat → Rat} (p : Pl n f g) (h : ∀ i, i ≤ n → lm a b K i = 0) : lin a b f g K = 0 := by
  induction p with
  | mon i hi c =>
    have : lin a b (fun x => c * x ^ i) (fun x => c * ((i : Rat) * x ^ (i - 1))) K = c * lm a b K i := by
      unfold lin lm lin
      rw [← sm_mul]
      exact sm_congr _ fun j _ => by grind
    rw [this, h i hi, Rat.mul_zero]
  | add _ _ h1 h2 =>
    rename_i f g f' g' _ _
    have : lin a b (fun x => f x + f' x) (fun x => g x + g' x) K = lin a b f g K + lin a b f' g' K := by
      unfold lin
      rw [← sm_add]
      exact sm_congr _ fun j _ => by grind
    rw [this, h1, h2]
    grind
/-- the squares of x - j, j < K but m -/
def sqF (m : Nat) : Nat → (Rat → Rat) × (Rat → Rat)
  | 0 => (fun x => 1 * x ^ 0, fun x => 1 * (((0 : Nat) : Rat) * x ^ (0 - 1)))
  | K + 1 => if K = m then sqF m K else
    (fun x => (x - (K : Rat)) * ((x - (K : Rat)) * (sqF m K).1 x), fun x => (x - (K : Rat)) * (sqF m K).1 x + (x - (K : Rat)) * ((sqF m K).1 x + (x - (K : Rat)) * (sqF m K).2 x))
theorem sqF_pl (m : Nat) : ∀ K, Pl (2 * (if m < K then K - 1 else K)) (sqF m K).1 (sqF m K).2
  | 0 => by
    simp only [sqF, Nat.not_lt_zero, if_false]
    exact .mon 0 (Nat.le_refl _) 1
  | K + 1 => by
    have ih := sqF_pl m K
    unfold sqF
    by_cases e : K = m
    · subst e
      rw [if_pos rfl, if_pos (by omega)]
      rw [if_neg (by omega)] at ih
      exact ih.up (by omega)
    · rw [if_neg e]
      have := (ih.mulX (K : Rat)).mulX (K : Rat)
      refine this.up ?_
      split <;> split <;> omega
theorem cast_ne {i j : Nat} (h : i ≠ j) : (i : Rat) - (j : Rat) ≠ 0 := fun z => h (Rat.natCast_inj.mp (by grind))
theorem sqF_at (m : Nat) : ∀ K, (∀ i, i < K → i ≠ m → (sqF m K).1 (i : Rat) = 0 ∧ (sqF m K).2 (i : Rat) = 0) ∧ (sqF m K).1 (m : Rat) ≠ 0
  | 0 => ⟨fun i h => by omega, by simp [sqF]⟩
  | K + 1 => by
    obtain ⟨h1, h2⟩ := sqF_at m K
    unfold sqF
    by_cases e : K = m
    · rw [if_pos e]
      exact ⟨fun i hi hn => h1 i (by omega) hn, h2⟩
    · rw [if_neg e]
      refine ⟨fun i hi hn => ?_, ?_⟩
      · by_cases hk : i = K
        · subst hk
          simp only
          constructor <;> grind
        · obtain ⟨q1, q2⟩ := h1 i (by omega) hn
          simp only [q1, q2]
          constructor <;> grind
      · have hne : (m : Rat) - (K : Rat) ≠ 0 := cast_ne (fun z => e z.symm)
        simp only
        intro z
        rcases Rat.mul_eq_zero.mp z with z | z
        · exact hne z
        · rcases Rat.mul_eq_zero.mp z with z | z
          · exact hne z
          · exact h2 z
def liF : Nat → (Rat → Rat) × (Rat → Rat)
  | 0 => (fun x => 1 * x ^ 0, fun x => 1 * (((0 : Nat) : Rat) * x ^ (0 - 1)))
  | K + 1 => (fun x => (x - (K : Rat)) * (liF K).1 x, fun x => (liF K).1 x + (x - (K : Rat)) * (liF K).2 x)
theorem liF_pl : ∀ K, Pl K (liF K).1 (liF K).2
  | 0 => .mon 0 (Nat.le_refl _) 1
  | K + 1 => (liF_pl K).mulX (K : Rat)
theorem liF_at : ∀ K, (∀ i, i < K → (liF K).1 (i : Rat) = 0) ∧ ∀ m, K ≤ m → (liF K).1 (m : Rat) ≠ 0
  | 0 => ⟨fun i h => by omega, fun m _ => by simp [liF]⟩
  | K + 1 => by
    obtain ⟨h1, h2⟩ := liF_at K
    unfold liF
    refine ⟨fun i hi => ?_, fun m hm z => ?_⟩
    · by_cases hk : i = K
      · subst hk
        simp only
        grind
      · simp only [h1 i (by omega)]
        grind
    · simp only at z
      rcases Rat.mul_eq_zero.mp z with z | z
      · exact cast_ne (by omega) z
      · exact h2 m (by omega) z
/-- a rule of k steps has an order below 2 k + 1 -/
theorem some_defect {a b : Nat → Rat} {k : Nat} (ha : a k ≠ 0) : ∃ i, i ≤ 2 * k + 1 ∧ lm a b (k + 1) i ≠ 0 := by
  refine Classical.byContradiction fun no => ?_
  have h : ∀ i, i ≤ 2 * k + 1 → lm a b (k + 1) i = 0 := fun i hi => Classical.byContradiction fun z => no ⟨i, hi, z⟩
  have hb : ∀ m, m ≤ k → b m = 0 := fun m hm => by
    have p := (sqF_pl m (k + 1)).mulX (m : Rat)
    rw [if_pos (by omega)] at p
    have z := lin_zero (p.up (show 2 * (k + 1 - 1) + 1 ≤ 2 * k + 1 by omega)) h
    obtain ⟨h1, h2⟩ := sqF_at m (k + 1)
    unfold lin at z
    rw [sm_one (m := m) (k + 1) (by omega) fun j hj hn => by
      obtain ⟨q1, q2⟩ := h1 j hj hn
      simp only [q1, q2]
      grind] at z
    simp only at z
    have : b m * (sqF m (k + 1)).1 (m : Rat) = 0 := by grind
    rcases Rat.mul_eq_zero.mp this with z | z
    · exact z
    · exact absurd z h2
  have z := lin_zero ((liF_pl k).up (show k ≤ 2 * k + 1 by omega)) h
  obtain ⟨h1, h2⟩ := liF_at k
  unfold lin at z
  rw [sm_one (m := k) (k + 1) (by omega) fun j hj hn => by
    rw [h1 j (by omega), hb j (by omega)]
    grind] at z
  rw [hb k (Nat.le_refl _)] at z
  have : a k * (liF k).1 (k : Rat) = 0 := by grind
  rcases Rat.mul_eq_zero.mp this with z | z
  · exact ha z
  · exact h2 k (Nat.le_refl _) z
end Dn
namespace Dn
open PySem PySem.Spec PyProof.Rows L2
section
variable {n m : Nat} {p q : Rat}
theorem t_ratio_over (h : Rb n p) (k : Rb m q) (z : n + m ≤ 9000) (hq : q ≠ 0) : f_ratio_over [eR p, eR q] = some (eR (p / q)) := by
  refine ow_of (funV_ow ?_)
  rw [div_divInt]
  simp [den_ratio_over, eR]
  refine ⟨mul_ok h.1 k.2 (by omega), mul_ok h.2 k.1 (by omega), ?_⟩
  rw [t_ratio_with (h.2.mul k.1) z (Int.mul_ne_zero (den_ne p) (num_ne hq))]
  rfl
end
/-! ### the law's own fractions -/
theorem t_law_over {n m : Nat} {p q : Rat} (h : Rb n p) (k : Rb m q) (z : n + m ≤ 8000) (hq : q ≠ 0) : f_law_over [eR p, eR q] = some (eR (p / q)) := by
  refine ow_of (funV_ow ?_)
  rw [div_divInt]
  simp [den_law_over, eR]
  refine ⟨mul_ok h.1 k.2 (by omega), mul_ok h.2 k.1 (by omega), ?_⟩
  rw [t_law_f (h.1.mul k.2) (h.2.mul k.1) (by omega) (Int.mul_ne_zero (den_ne p) (num_ne hq))]
  rfl
end Dn
namespace Dn
open PySem PySem.Spec PyProof.Rows L2
/-! ### rules -/
section
variable {N : Nat} {as bs : List Rat} {lead : Rat}
end
end Dn
namespace Dn
open PySem PySem.Spec PyProof.Rows L2
section
variable {N M : Nat} {as bs : List Rat} {lead r : Rat}
instance : Decidable (May as lead bs) := inferInstanceAs (Decidable (_ ∧ _))
end
end Dn
namespace Dn
open PySem PySem.Spec PyProof.Rows L2
section
variable {N M : Nat} {as bs : List Rat} {lead r : Rat}
end
end Dn
namespace Dn
open PySem PySem.Spec PyProof.Rows L2
theorem toInts_map : ∀ ws : List Int, toInts (ws.map .int) = some ws
  | [] => rfl
  | w :: ws => by simp [toInts, toInts_map ws]
theorem q_sum {ws : List Int} {Q : D → Prop} : OW (sumQ (.lst (ws.map .int))) Q ↔ Q (.int ws.sum) := ow_eq (by simp [sumQ, toInts_map])
theorem sum_le : ∀ (ws : List Int), (∀ w ∈ ws, 0 ≤ w ∧ w ≤ 4) → 0 ≤ ws.sum ∧ ws.sum ≤ 4 * ws.length
  | [], _ => by simp
  | w :: ws, h => by
    have h1 := h w (by simp)
    have h2 := sum_le ws fun x hx => h x (by simp [hx])
    simp only [List.sum_cons, List.length_cons]
    omega
theorem sum_ge : ∀ (ws : List Int) (x : Int), (∀ w ∈ ws, 0 ≤ w ∧ w ≤ 4) → x ∈ ws → x ≤ ws.sum
  | [], _, _, h => by simp at h
  | w :: ws, x, h, hx => by
    have h1 := h w (by simp)
    have h2 := sum_le ws fun x hx => h x (by simp [hx])
    simp only [List.sum_cons]
    rcases List.mem_cons.mp hx with rfl | hx
    · omega
    · have := sum_ge ws x (fun x hx => h x (by simp [hx])) hx
      omega
def leadR : List Rat := [fr 1 1, fr 2 1, fr (-3) 2]
theorem leadR_ok : ∀ p ∈ leadR, Gd 2 4 p ∧ p ≠ 0 := by
  have h : (leadR.all fun p => gdB 2 4 p && decide (p ≠ 0)) = true := by decide +kernel
  intro p hp
  have := List.all_eq_true.mp h p hp
  rw [Bool.and_eq_true, decide_eq_true_eq] at this
  exact ⟨gd_of this.1, this.2⟩
theorem lc_pulls {i : Nat} {m : Int} {ds : List D} {s : D} {ev : VE} {Q : List D × D → Prop} (h : SK s) (h1 : 1 ≤ m) (h2 : m ≤ 1000) (q : ∀ (ws : List Int) (s' : D), ws.length = ds.length → (∀ w ∈ ws, 0 ≤ w ∧ w < m) → SK s' → Q (ws.map .int, s')) : OW (lcF (nameG i) yesB (callS f_law_pull (consA (cE (.int m)) nilA)) ds s ev) Q := by
  refine lc_rule ds (fun i s acc => SK s ∧ ∃ ws : List Int, acc = ws.map .int ∧ ws.length = i ∧ ∀ w ∈ ws, 0 ≤ w ∧ w < m) 0 s [] (fun i d s acc hd hi => ?_) ⟨h, [], rfl, rfl, by simp⟩ fun s xs hi => ?_
  · obtain ⟨hs, ws, rfl, hl, hg⟩ := hi
    simp
    refine ow_pull hs h1 h2 fun v s2 v1 v2 hs2 => ⟨hs2, ws ++ [v], by simp, by simp; omega, fun r hr => ?_⟩
    rcases List.mem_append.mp hr with hr | hr
    · exact hg r hr
    · rw [List.mem_singleton.mp hr]; exact ⟨v1, v2⟩
  · obtain ⟨hs, ws, rfl, hl, hg⟩ := hi
    exact q ws s (by omega) hg hs
def ABP (n : Nat) (l : Rat) (S C : Nat) (al be : List Rat) : Prop := 1 ≤ n ∧ n ≤ 4 ∧ l ∈ leadR ∧ 1 ≤ S ∧ S ≤ 16 ∧ al.length = n ∧ be.length = n + 1 ∧ (∀ a ∈ al, Gd (S * 60) C a) ∧ ∀ b ∈ be, Gd (S * 60) C b
/-- alphas, betas in their places, the rest any -/
def ABE (C : Nat) (way at_ : Int) (s : D) (ev : VE) : Prop := SK s ∧ ∃ n l S al be ws, ABP n l S C al be ∧ 0 ≤ at_ ∧ at_ < n ∧ ev = [none, some (.int (n : Nat)), some (eR l), ws, some (eL al), some (eL be), some (.int way), some (.int at_), none, none]
theorem ix_nat {n k : Nat} (h : k < n) : ixN n (k : Int) = some k := by
  unfold ixN
  rw [if_pos (by omega), if_pos (by omega), Int.toNat_natCast]
theorem at_get {l : List Rat} {k : Nat} (h : k < l.length) {Q : D → Prop} : OW (L2.atI (l.map eR) (k : Int)) Q ↔ Q (eR l[k]) := ow_eq (at_nat (by rw [List.getElem?_map, List.getElem?_eq_getElem h]; rfl))
theorem ab_rb {n : Nat} {l : Rat} {S C : Nat} {al be : List Rat} (h : ABP n l S C al be) (hC : C < 2 ^ 100) : (∀ a ∈ al, Rb 100 a) ∧ ∀ b ∈ be, Rb 100 b := by
  obtain ⟨n1, n2, hl, S1, S2, hal, hbe, ga, gb⟩ := h
  have hS : S * 60 < 2 ^ 100 := Nat.lt_of_le_of_lt (show S * 60 ≤ 960 by omega) (by decide)
  exact ⟨fun a ha => (ga a ha).rb (by omega) hS hC, fun a ha => (gb a ha).rb (by omega) hS hC⟩
theorem gd_set {M C C' : Nat} {l : List Rat} {k : Nat} {x : Rat} (h : ∀ a ∈ l, Gd M C a) (hx : Gd M C' x) (hc : C ≤ C') : ∀ a ∈ l.set k x, Gd M C' a := fun a ha => by
  rcases List.mem_or_eq_of_mem_set ha with ha | ha
  · exact (h a ha).mono hc
  · rw [ha]; exact hx
theorem gd_half {S : Nat} (h : S ≤ 16) : Gd (S * 60) 1000 (fr 1 2) := by
  have := (gd_of (M := 2) (C := 1) (q := fr 1 2) (by decide +kernel)).up (S * 30)
  rw [show 2 * (S * 30) = S * 60 by omega] at this
  exact this.mono (by omega)
theorem gd_fifth {S : Nat} (h : S ≤ 16) : Gd (S * 60) 1000 (fr 1 5) := by
  have := (gd_of (M := 5) (C := 1) (q := fr 1 5) (by decide +kernel)).up (S * 12)
  rw [show 5 * (S * 12) = S * 60 by omega] at this
  exact this.mono (by omega)
theorem gd_one {S : Nat} (h : S ≤ 16) : Gd (S * 60) 1000 1 := by
  have := (gd_of (M := 1) (C := 1) (q := 1) (by decide +kernel)).up (S * 60)
  rw [show 1 * (S * 60) = S * 60 by omega] at this
  exact this.mono (by omega)
theorem gd_third {S : Nat} (h : S ≤ 16) : Gd (S * 60) 1000 (fr (-1) 3) := by
  have := (gd_of (M := 3) (C := 1) (q := fr (-1) 3) (by decide +kernel)).up (S * 20)
  rw [show 3 * (S * 20) = S * 60 by omega] at this
  exact this.mono (by omega)
theorem h12 : (.tup [.int 1, .int 2] : D) = eR (fr 1 2) := rfl
theorem h15 : (.tup [.int 1, .int 5] : D) = eR (fr 1 5) := rfl
theorem h11 : (.tup [.int 1, .int 1] : D) = eR 1 := rfl
theorem h13 : (.tup [.int (-1), .int 3] : D) = eR (fr (-1) 3) := rfl
theorem b12 : Rb 10 (fr 1 2) := by unfold Rb Bt; decide +kernel
theorem b15 : Rb 10 (fr 1 5) := by unfold Rb Bt; decide +kernel
theorem b11 : Rb 10 1 := by unfold Rb Bt; decide +kernel
end Dn
namespace Dn
open PySem PySem.Spec PyProof.Rows L2
theorem t_ratio_less {n m : Nat} {p q : Rat} (h : Rb n p) (k : Rb m q) (z : n + m ≤ 9000) : f_ratio_less [eR p, eR q] = some (eR (p - q)) := by
  refine ow_of (funV_ow ?_)
  rw [sub_divInt]
  simp [den_ratio_less, eR]
  refine ⟨mul_ok h.1 k.2 (by omega), mul_ok k.1 h.2 (by omega), mul_ok h.2 k.2 (by omega), ?_⟩
  rw [t_ratio_with (h.2.mul k.2) z (Int.mul_ne_zero (den_ne p) (den_ne q))]
  rfl
def gt (l : List Rat) (i : Nat) : Rat := (l[i]?).getD 0
theorem gt_get {l : List Rat} {i : Nat} (h : i < l.length) : gt l i = l[i] := by
  unfold gt
  rw [List.getElem?_eq_getElem h]
  rfl
theorem at_gt {l : List Rat} {k : Nat} (h : k < l.length) {Q : D → Prop} : OW (L2.atI (l.map eR) (k : Int)) Q ↔ Q (eR (gt l k)) := ow_eq (at_nat (by rw [List.getElem?_map, List.getElem?_eq_getElem h, gt_get h]; rfl))
section
variable {as bs : List Rat} {lead : Rat}
/-- a rule's rows with sizes -/
structure Rows (M : Nat) (as bs : List Rat) (lead : Rat) : Prop where
  h0 : 0 < M
  hM : M < 2 ^ 190
  ga : ∀ x ∈ as ++ [lead], Gd M (2 ^ 130) x
  gb : ∀ x ∈ bs, Gd M (2 ^ 130) x
theorem RuleG.rows (h : RuleG as lead bs) : ∃ M, Rows M as bs lead := by
  obtain ⟨M, h0, h1, ha, hl, hb⟩ := h.gd
  refine ⟨M, h0, h1, fun x hx => ?_, hb⟩
  rcases List.mem_append.mp hx with hx | hx
  · exact ha x hx
  · rw [List.mem_singleton.mp hx]; exact hl
theorem q_rule0 {Q : D → Prop} : OW (ixQ (eRule as lead bs) (.int 0)) Q ↔ Q (eT (as ++ [lead])) := at_0
theorem q_rule1 {Q : D → Prop} : OW (ixQ (eRule as lead bs) (.int 1)) Q ↔ Q (eT bs) := at_1
end
/-! ### powers, factorials -/
def fac : Nat → Nat
  | 0 => 1
  | n + 1 => fac n * (n + 1)
theorem fac_pos : ∀ n, 0 < fac n
  | 0 => by decide
  | n + 1 => Nat.mul_pos (fac_pos n) (Nat.succ_pos n)
theorem fac_mono {n m : Nat} (h : n ≤ m) : fac n ≤ fac m := by
  induction h with
  | refl => exact Nat.le_refl _
  | step _ ih => exact Nat.le_trans ih (Nat.le_mul_of_pos_right _ (Nat.succ_pos _))
theorem fac18 {n : Nat} (h : n ≤ 20) : fac n < 2 ^ 62 := Nat.lt_of_le_of_lt (fac_mono h) (by decide)
theorem pow18 {j n : Nat} (hj : j ≤ 8) (hn : n ≤ 20) : j ^ n < 2 ^ 61 := by
  refine Nat.lt_of_le_of_lt (Nat.pow_le_pow_left hj n) (Nat.lt_of_le_of_lt (Nat.pow_le_pow_right (by decide) hn) (by decide))
theorem bt_nat {k n : Nat} (h : n < 2 ^ k) : Bt k (n : Int) := by
  unfold Bt
  rwa [Int.natAbs_natCast]
theorem pow_loop {j n : Nat} (hj : j ≤ 8) (hn : n ≤ 20) {S : SF} {sk A B C : D} {d3 : Option D} {Q : Fl → Prop} (hs : S = (asgS (binE mulD (varE 2) (varE 0)) (nameG 2)))
    (q : ∀ x, Q (.nx sk [some (.int (j : Nat)), some B, some (.int ((j ^ n : Nat) : Int)), x])) : OW (forF (nameG 3) S (upTo 0 n) sk [some (.int (j : Nat)), some B, some (.int 1), d3]) Q := by
  subst hs
  refine for_rule _ (fun i s ev => s = sk ∧ ∃ x, ev = [some (.int (j : Nat)), some B, some (.int ((j ^ i : Nat) : Int)), x]) 0 _ _ (fun i d s ev hd hi => ?_) ⟨rfl, d3, by simp⟩ fun s ev hi => ?_
  · obtain ⟨rfl, x, rfl⟩ := hi
    obtain ⟨hil, rfl⟩ := upTo_get _ _ _ _ hd
    rw [Nat.zero_add]
    have h1 := bt_nat (pow18 hj (show i ≤ 20 by omega))
    have h2 : Bt 8 (j : Int) := bt_nat (by omega)
    simp only [Int.natCast_pow] at h1
    simp [Turned, mul_ok h1 h2 (by decide)]
    rw [Int.pow_succ]
  · obtain ⟨rfl, x, rfl⟩ := hi
    rw [upTo_length, Nat.zero_add]
    exact q x
theorem t_raised {j n : Nat} (hj : j ≤ 8) (hn : n ≤ 20) : f_raised [.int (j : Nat), .int (n : Nat)] = some (.int ((j ^ n : Nat) : Int)) := by
  refine ow_of (funV_ow ?_)
  unfold den_raised
  refine sw_step (fun s ev => s = .non ∧ ev = [some (.int (j : Nat)), some (.int (n : Nat)), some (.int 1), none]) ?_ ?_
  · simp
  rintro s ev ⟨rfl, rfl⟩
  refine sw_step (fun s ev => ∃ x, ev = [some (.int (j : Nat)), some (.int (n : Nat)), some (.int ((j ^ n : Nat) : Int)), x]) ?_ (fun s ev ⟨x, hx⟩ => by subst hx; simp)
  rw [sw_for, iw_rng1]
  simp only [ew_var', List.getElem?_cons_succ, List.getElem?_cons_zero, vw_val]
  refine ⟨(n : Nat), rfl, by omega, by omega, ?_⟩
  rw [Int.toNat_natCast]
  exact pow_loop (A := .non) (C := .non) hj hn rfl fun x => ⟨x, rfl⟩
end Dn
namespace Dn
open PySem PySem.Spec PyProof.Rows L2
@[simp] theorem iw_rng2 {sk : D} {ev : VE} {Ea Eb : EF} {QA : List D → D → Prop} : AW (rng2I Ea Eb) sk ev QA ↔ EW Ea sk ev fun d s1 => EW Eb s1 ev fun e s2 => ∃ n m, d = .int n ∧ e = .int m ∧ n ≤ 1000000 ∧ -1000000 ≤ n ∧ m ≤ 1000000 ∧ -1000000 ≤ m ∧ QA (upTo n (m - n).toNat) s2 := by
  unfold AW EW rng2I
  cases h0 : Ea sk ev with
  | none => simp [h0]
  | some r =>
    obtain ⟨d, s1⟩ := r
    cases d with
    | int n =>
      simp [h0]
      cases h1 : Eb s1 ev with
      | none => simp [h1]
      | some r1 =>
        obtain ⟨e, s2⟩ := r1
        cases e with
        | int m =>
          simp [h1]
          by_cases h1 : n ≤ 1000000 <;> by_cases h2 : -1000000 ≤ n <;> by_cases h3 : m ≤ 1000000 <;> by_cases h4 : -1000000 ≤ m <;> simp [h1, h2, h3, h4]
        | _ => simp [h1]
    | _ =>
      simp [h0]
      cases h1 : Eb s1 ev <;> simp [h1]
theorem sm_gd {N K : Nat} {f : Nat → Rat} : ∀ k, (∀ g, g < k → Gd N K (f g)) → Gd N (k * K) (sm f k)
  | 0, _ => ⟨0, by simp [sm], by simp⟩
  | k + 1, h => by
    have ih := sm_gd k fun g hg => h g (by omega)
    rw [Nat.succ_mul]
    exact ih.add (h k (by omega))
theorem gd_nat {x : Nat} (h : x < 2 ^ 70) : Gd 1 (2 ^ 70) (((x : Nat) : Int) : Rat) := Gd.int _ (by rw [Int.natAbs_natCast]; omega)
theorem t_sum_of_parts {M C : Nat} {l : List Rat} (g : ∀ x ∈ l, Gd M C x) (hl : l.length ≤ 9) (h0 : 0 < M) (hM : M < 2 ^ 300) (hC : 9 * C < 2 ^ 300) : f_sum_of_parts [eT l] = some (eR (sm (gt l) l.length)) := by
  refine ow_of (funV_ow ?_)
  unfold den_sum_of_parts
  refine sw_step (fun s ev => s = .non ∧ ev = [some (eT l), some (eR 0), none]) ?_ ?_
  · simp
    rfl
  rintro s ev ⟨rfl, rfl⟩
  refine sw_step (fun s ev => ∃ x, ev = [some (eT l), some (eR (sm (gt l) l.length)), x]) ?_ (fun s ev ⟨x, hx⟩ => by subst hx; simp)
  rw [sw_for, iw_seq]
  simp only [ew_var', List.getElem?_cons_succ, List.getElem?_cons_zero, vw_val]
  refine ⟨l.map eR, .inr rfl, ?_⟩
  refine for_rule _ (fun i s ev => s = .non ∧ ∃ x, ev = [some (eT l), some (eR (sm (gt l) i)), x]) 0 _ _ (fun i d s ev hd hi => ?_) ⟨rfl, none, rfl⟩ fun s ev hi => ?_
  · obtain ⟨rfl, x, rfl⟩ := hi
    rw [Nat.zero_add]
    rw [List.getElem?_map] at hd
    cases hq : l[i]? with
    | none => rw [hq] at hd; cases hd
    | some q =>
      rw [hq] at hd
      cases hd
      have hil := (List.getElem?_eq_some_iff.mp hq).1
      have gq := g q (List.mem_of_getElem? hq)
      have gs : Gd M (i * C) (sm (gt l) i) := sm_gd i fun k hk => by
        rw [gt_get (show k < l.length by omega)]
        exact g _ (List.getElem_mem _)
      have b1 : Rb 300 (sm (gt l) i) := gs.rb h0 hM (Nat.lt_of_le_of_lt (Nat.mul_le_mul_right C (show i ≤ 9 by omega)) hC)
      have b2 : Rb 300 q := gq.rb h0 hM (by omega)
      have e : gt l i = q := by unfold gt; rw [hq]; rfl
      simp [Turned, t_ratio_sum b1 b2 (by omega), sm, e]
  · obtain ⟨rfl, x, rfl⟩ := hi
    rw [List.length_map, Nat.zero_add]
    exact ⟨x, rfl⟩
/-- a rule's defect -/
def defR (a b : List Rat) (n : Nat) : Rat := lm (gt a) (gt b) a.length n / (fac n : Rat)
def tmR (a b : List Rat) (n j : Nat) : Rat := gt a j * (j : Rat) ^ n - gt b j * ((n : Rat) * (j : Rat) ^ (n - 1))
theorem lm_tm (a b : List Rat) (n K : Nat) : lm (gt a) (gt b) K n = sm (tmR a b n) K := rfl
theorem cast_pow (j n : Nat) : ((((j ^ n : Nat) : Nat) : Int) : Rat) = (j : Rat) ^ n := by
  rw [Rat.intCast_natCast]
  induction n with
  | zero => simp
  | succ n ih => rw [Nat.pow_succ, Rat.natCast_mul, ih, Rat.pow_succ]
section
variable {as bs : List Rat} {lead : Rat} {M : Nat}
theorem tm_prog {a b : List Rat} {m j : Nat} : gt a j * (((j ^ m * j : Nat) : Int) : Rat) - gt b j * (((j ^ m * (m + 1) : Nat) : Int) : Rat) = tmR a b (m + 1) j := by
  unfold tmR
  have h1 : (((j ^ m * j : Nat) : Int) : Rat) = (j : Rat) ^ (m + 1) := by
    rw [← Nat.pow_succ, cast_pow]
  have h2 : (((j ^ m * (m + 1) : Nat) : Int) : Rat) = ((m + 1 : Nat) : Rat) * (j : Rat) ^ m := by
    have := cast_pow j m
    rw [Rat.intCast_natCast] at this ⊢
    rw [Rat.natCast_mul, this, Rat.mul_comm]
  rw [h1, h2, Nat.add_sub_cancel]
theorem small_prod {j m x : Nat} (hj : j ≤ 8) (hm : m ≤ 20) (hx : x ≤ 21) : j ^ m * x < 2 ^ 70 := by
  have h1 := pow18 hj hm
  have h2 : j ^ m * x ≤ 2 ^ 61 * 21 := Nat.mul_le_mul (Nat.le_of_lt h1) hx
  exact Nat.lt_of_le_of_lt h2 (by decide)
theorem gd_tm (w : Rows M as bs lead) (hl : bs.length = as.length + 1) (hm : as.length ≤ 8) {n : Nat} (hn : n ≤ 20) {j : Nat} (hj : j ≤ as.length) : Gd M (2 ^ 201) (tmR (as ++ [lead]) bs n j) := by
  have ga : Gd M (2 ^ 130) (gt (as ++ [lead]) j) := by
    rw [gt_get (by simp; omega)]
    exact w.ga _ (List.getElem_mem _)
  have gb : Gd M (2 ^ 130) (gt bs j) := by
    rw [gt_get (by omega)]
    exact w.gb _ (List.getElem_mem _)
  cases n with
  | zero =>
    have e : tmR (as ++ [lead]) bs 0 j = gt (as ++ [lead]) j := by
      unfold tmR
      have : ((0 : Nat) : Rat) = 0 := rfl
      rw [this, Rat.zero_mul, Rat.mul_zero, Rat.pow_zero, Rat.mul_one]
      grind
    rw [e]
    exact ga.mono (by decide)
  | succ m =>
    rw [← tm_prog]
    have g1 := ga.mul (gd_nat (small_prod (x := j) (show j ≤ 8 by omega) (show m ≤ 20 by omega) (by omega)))
    have g2 := gb.mul (gd_nat (small_prod (x := m + 1) (show j ≤ 8 by omega) (show m ≤ 20 by omega) (by omega)))
    rw [Nat.mul_one] at g1 g2
    exact (g1.sub g2).mono (by decide)
theorem gd_lm (w : Rows M as bs lead) (hl : bs.length = as.length + 1) (hm : as.length ≤ 8) {n : Nat} (hn : n ≤ 20) {k : Nat} (hk : k ≤ as.length + 1) : Gd M (2 ^ 205) (sm (tmR (as ++ [lead]) bs n) k) := by
  have := sm_gd (N := M) (K := 2 ^ 201) (f := tmR (as ++ [lead]) bs n) k fun g hg => gd_tm w hl hm hn (by omega)
  refine this.mono (Nat.le_trans (Nat.mul_le_mul_right _ (show k ≤ 9 by omega)) (by decide))
end
end Dn
namespace Dn
open PySem PySem.Spec PyProof.Rows L2
theorem ezL_get {a b : List Rat} {i : Nat} {d : D} (h : (ezL (a.map eR) (b.map eR))[i]? = some d) : i < a.length ∧ i < b.length ∧ d = .tup [.int (i : Nat), .tup [eR (gt a i), eR (gt b i)]] := by
  unfold ezL at h
  obtain ⟨dp, hdp, rfl⟩ := enumL_get _ 0 i d h
  obtain ⟨da, db, ha, hb, rfl⟩ := zipL_get _ _ i dp hdp
  rw [List.getElem?_map] at ha hb
  cases h1 : a[i]? with
  | none => rw [h1] at ha; cases ha
  | some x =>
    cases h2 : b[i]? with
    | none => rw [h2] at hb; cases hb
    | some y =>
      rw [h1] at ha
      rw [h2] at hb
      cases ha
      cases hb
      refine ⟨(List.getElem?_eq_some_iff.mp h1).1, (List.getElem?_eq_some_iff.mp h2).1, ?_⟩
      unfold gt
      rw [h1, h2, Nat.zero_add]
      rfl
theorem ezL_len (a b : List Rat) : (ezL (a.map eR) (b.map eR)).length = min a.length b.length := by
  unfold ezL
  rw [enumL_length, zipL_length, List.length_map, List.length_map]
section
variable {as bs : List Rat} {lead : Rat} {M : Nat}
theorem t_defectN (w : Rows M as bs lead) (hl : bs.length = as.length + 1) (hm : as.length ≤ 8) {n : Nat} (hn : n ≤ 20) {N : Int} (hN : N = (n : Nat)) : f_defect [eRule as lead bs, .int N] = some (eR (defR (as ++ [lead]) bs n)) := by
  refine ow_of (funV_ow ?_)
  unfold den_defect
  have hM3 : M < 2 ^ 300 := Nat.lt_trans w.hM (by decide)
  have la : (as ++ [lead]).length = as.length + 1 := by simp
  rcases Nat.eq_zero_or_pos n with rfl | hn0
  · have hN0 : N = 0 := hN
    subst hN0
    have e : sm (tmR (as ++ [lead]) bs 0) (as ++ [lead]).length = sm (gt (as ++ [lead])) (as ++ [lead]).length := sm_congr _ fun j _ => by
      unfold tmR
      have : ((0 : Nat) : Rat) = 0 := rfl
      rw [this, Rat.zero_mul, Rat.mul_zero, Rat.pow_zero, Rat.mul_one]
      grind
    have e2 : defR (as ++ [lead]) bs 0 = sm (gt (as ++ [lead])) (as ++ [lead]).length := by
      unfold defR
      rw [lm_tm, e]
      have : ((fac 0 : Nat) : Rat) = 1 := rfl
      rw [this]
      grind
    rw [e2]
    simp [eqQ, okN, eqD, q_rule0, t_sum_of_parts w.ga (show (as ++ [lead]).length ≤ 9 by omega) w.h0 hM3 (by decide)]
  · refine sw_stepR (fun s ev => s = .non ∧ ev = [some (eRule as lead bs), some (.int N), none, none, none, none, none, none, none, none]) ?_ ?_
    · simp [eqQ, okN, eqD]
      omega
    rintro s ev ⟨rfl, rfl⟩
    refine sw_step (fun s ev => s = .non ∧ ev = [some (eRule as lead bs), some (.int N), some (eR 0), some (.int 1), none, none, none, none, none, none]) ?_ ?_
    · simp
      rfl
    rintro s ev ⟨rfl, rfl⟩
    refine sw_step (fun s ev => s = .non ∧ ∃ x, ev = [some (eRule as lead bs), some (.int N), some (eR 0), some (.int ((fac n : Nat) : Int)), x, none, none, none, none, none]) ?_ ?_
    · rw [sw_for, iw_rng2]
      simp
      refine ⟨by omega, by omega, ?_⟩
      refine for_rule _ (fun i s ev => s = .non ∧ ∃ x, ev = [some (eRule as lead bs), some (.int N), some (eR 0), some (.int ((fac i : Nat) : Int)), x, none, none, none, none, none]) 0 _ _ (fun i d s ev hd hi => ?_) ⟨rfl, none, by simp [fac]⟩ fun s ev hi => ?_
      · obtain ⟨rfl, x, rfl⟩ := hi
        obtain ⟨hil, rfl⟩ := upTo_get _ _ _ _ hd
        rw [Nat.zero_add]
        have h1 := bt_nat (fac18 (show i ≤ 20 by omega))
        have h2 : Bt 8 (1 + (i : Int)) := by
          have := bt_nat (k := 8) (n := 1 + i) (by omega)
          simpa using this
        simp [Turned, mul_ok h1 h2 (by decide), fac]
        rw [Int.add_comm 1]
      · obtain ⟨rfl, x, rfl⟩ := hi
        rw [upTo_length, Nat.zero_add, show N.toNat = n by omega]
        exact ⟨rfl, x, by simp⟩
    rintro s ev ⟨rfl, x4, rfl⟩
    refine sw_step (fun s ev => s = .non ∧ ∃ x5 x6 x7 x8 x9, ev = [some (eRule as lead bs), some (.int N), some (eR (sm (tmR (as ++ [lead]) bs n) (as ++ [lead]).length)), some (.int ((fac n : Nat) : Int)), x4, x5, x6, x7, x8, x9]) ?_ ?_
    · rw [sw_for, iw_ez]
      simp only [ew_bin, ew_var', ew_c, List.getElem?_cons_succ, List.getElem?_cons_zero, vw_val, q_rule0, q_rule1]
      refine ⟨(as ++ [lead]).map eR, bs.map eR, rfl, rfl, ?_⟩
      refine for_rule _ (fun i s ev => s = .non ∧ ∃ x5 x6 x7 x8 x9, ev = [some (eRule as lead bs), some (.int N), some (eR (sm (tmR (as ++ [lead]) bs n) i)), some (.int ((fac n : Nat) : Int)), x4, x5, x6, x7, x8, x9]) 0 _ _ (fun i d s ev hd hi => ?_) ⟨rfl, none, none, none, none, none, rfl⟩ fun s ev hi => ?_
      · obtain ⟨rfl, x5, x6, x7, x8, x9, rfl⟩ := hi
        obtain ⟨hi1, hi2, rfl⟩ := ezL_get hd
        rw [Nat.zero_add]
        have hi8 : i ≤ 8 := by omega
        have b2 : Bt 8 (i : Int) := bt_nat (by omega)
        have b3 : Bt 8 N := by rw [hN]; exact bt_nat (by omega)
        obtain ⟨m, hm1⟩ : ∃ m, n = m + 1 := ⟨n - 1, by omega⟩
        have hpow := t_raised (j := i) (n := m) hi8 (by omega)
        have bp := pow18 hi8 (show m ≤ 20 by omega)
        have b1 := bt_nat bp
        have s1 := small_prod (j := i) (m := m) (x := i) hi8 (by omega) (by omega)
        have s2 := small_prod (j := i) (m := m) (x := m + 1) hi8 (by omega) (by omega)
        have ga : Gd M (2 ^ 130) (gt (as ++ [lead]) i) := by
          rw [gt_get hi1]
          exact w.ga _ (List.getElem_mem _)
        have gb : Gd M (2 ^ 130) (gt bs i) := by
          rw [gt_get hi2]
          exact w.gb _ (List.getElem_mem _)
        have ra : Rb 200 (gt (as ++ [lead]) i) := ga.rb w.h0 (Nat.lt_trans w.hM (by decide)) (by decide)
        have rb : Rb 200 (gt bs i) := gb.rb w.h0 (Nat.lt_trans w.hM (by decide)) (by decide)
        have g1 := gd_nat s1
        have g2 := gd_nat s2
        have r1 : Rb 80 (((i ^ m * i : Nat) : Int) : Rat) := g1.rb (by decide) (by decide) (by decide)
        have r2 : Rb 80 (((i ^ m * (m + 1) : Nat) : Int) : Rat) := g2.rb (by decide) (by decide) (by decide)
        have rs : Rb 210 (sm (tmR (as ++ [lead]) bs n) i) := (gd_lm w hl hm (by omega) (by omega)).rb w.h0 (Nat.lt_trans w.hM (by decide)) (by decide)
        have e1 : (.tup [.int ((i : Int) ^ m * (i : Int)), .int 1] : D) = eR (((i ^ m * i : Nat) : Int) : Rat) := by rw [← int_eR]; simp
        have e2 : (.tup [.int ((i : Int) ^ m * N), .int 1] : D) = eR (((i ^ m * (m + 1) : Nat) : Int) : Rat) := by rw [← int_eR, hN, hm1]; simp
        have hpow2 : f_raised [.int (i : Nat), .int (N - 1)] = some (.int ((i : Int) ^ m)) := by
          rw [show (N - 1) = (m : Nat) by omega, hpow]
          simp
        simp only [Int.natCast_pow] at b1
        have tt : gt (as ++ [lead]) i * (((i ^ m * i : Nat) : Int) : Rat) - gt bs i * (((i ^ m * (m + 1) : Nat) : Int) : Rat) = tmR (as ++ [lead]) bs n i := by
          rw [hm1]
          exact tm_prog
        have rt := (ra.mul r1).sub (rb.mul r2)
        rw [tt] at rt
        have p1 := t_ratio_product ra r1 (by omega)
        have p2 := t_ratio_product rb r2 (by omega)
        have p3 := t_ratio_less (ra.mul r1) (rb.mul r2) (by omega)
        have p4 := t_ratio_sum rs rt (by omega)
        rw [tt] at p3
        generalize hu : (((i ^ m * i : Nat) : Int) : Rat) = u at *
        generalize hv : (((i ^ m * (m + 1) : Nat) : Int) : Rat) = v at *
        simp [Turned, hpow2, mul_ok b1 b2 (by decide), mul_ok b1 b3 (by decide), e1, e2, p1, p2, p3, p4, sm]
      · obtain ⟨rfl, x5, x6, x7, x8, x9, rfl⟩ := hi
        rw [ezL_len, Nat.zero_add, show min (as ++ [lead]).length bs.length = (as ++ [lead]).length by omega]
        exact ⟨rfl, x5, x6, x7, x8, x9, rfl⟩
    rintro s ev ⟨rfl, x5, x6, x7, x8, x9, rfl⟩
    have rs : Rb 210 (sm (tmR (as ++ [lead]) bs n) (as ++ [lead]).length) := (gd_lm w hl hm (by omega) (by omega)).rb w.h0 (Nat.lt_trans w.hM (by decide)) (by decide)
    have gf := gd_nat (Nat.lt_trans (fac18 hn) (by decide))
    have rf : Rb 80 (((fac n : Nat) : Int) : Rat) := gf.rb (by decide) (by decide) (by decide)
    have nf : (((fac n : Nat) : Int) : Rat) ≠ 0 := fun z => by
      have := Rat.intCast_eq_zero_iff.mp z
      have := fac_pos n
      omega
    have e1 : (.tup [.int ((fac n : Nat) : Int), .int 1] : D) = eR (((fac n : Nat) : Int) : Rat) := int_eR
    have p := t_ratio_over rs rf (by omega) nf
    have ec : (((fac n : Nat) : Int) : Rat) = ((fac n : Nat) : Rat) := Rat.intCast_natCast _
    rw [ec] at p e1
    have ed : defR (as ++ [lead]) bs n = sm (tmR (as ++ [lead]) bs n) (as ++ [lead]).length / ((fac n : Nat) : Rat) := rfl
    rw [ed]
    rw [la] at p ⊢
    simp [e1, p]
theorem t_defect (w : Rows M as bs lead) (hl : bs.length = as.length + 1) (hm : as.length ≤ 8) {n : Nat} (hn : n ≤ 20) : f_defect [eRule as lead bs, .int (n : Nat)] = some (eR (defR (as ++ [lead]) bs n)) := t_defectN w hl hm hn rfl
end
end Dn
namespace Dn
open PySem PySem.Spec PyProof.Rows L2
/-! ### orders -/
theorem least_of {p : Nat → Prop} {B : Nat} : ∀ n, n ≤ B → p n → ∃ n, n ≤ B ∧ p n ∧ ∀ m, m < n → ¬ p m := by
  intro n
  induction n using Nat.strongRecOn with
  | ind n ih =>
    intro hn hp
    by_cases h : ∃ m, m < n ∧ p m
    · obtain ⟨m, hm, q⟩ := h
      exact ih m hm (by omega) q
    · exact ⟨n, hn, hp, fun m hm q => h ⟨m, hm, q⟩⟩
structure IsOrd (a b : List Rat) (n : Nat) : Prop where
  zero : ∀ m, m < n → defR a b m = 0
  nz : defR a b n ≠ 0
  le : n + 1 ≤ 2 * a.length
theorem fac_ne (n : Nat) : ((fac n : Nat) : Rat) ≠ 0 := fun z => by
  have := Rat.natCast_eq_zero_iff.mp z
  have := fac_pos n
  omega
theorem ord_exists {as bs : List Rat} {lead : Rat} (nz : lead ≠ 0) : ∃ n, IsOrd (as ++ [lead]) bs n := by
  have hl : gt (as ++ [lead]) as.length ≠ 0 := by
    rw [gt_get (by simp)]
    simpa using nz
  obtain ⟨i, hi, hne⟩ := some_defect (a := gt (as ++ [lead])) (b := gt bs) hl
  have hd : defR (as ++ [lead]) bs i ≠ 0 := by
    unfold defR
    intro z
    have e : (as ++ [lead]).length = as.length + 1 := by simp
    rw [e] at z
    have := fac_ne i
    have z2 : lm (gt (as ++ [lead])) (gt bs) (as.length + 1) i = lm (gt (as ++ [lead])) (gt bs) (as.length + 1) i / ((fac i : Nat) : Rat) * ((fac i : Nat) : Rat) := by grind
    rw [z, Rat.zero_mul] at z2
    exact hne z2
  obtain ⟨n, h1, h2, h3⟩ := least_of (p := fun n => defR (as ++ [lead]) bs n ≠ 0) i hi hd
  exact ⟨n, fun m hm => Classical.byContradiction fun z => h3 m hm z, h2, by simp; omega⟩
theorem eq_zeroR {q : Rat} {Q : D → Prop} : OW (eqQ (eR q) c_ZERO) Q ↔ Q (.bl (decide (q = 0))) := by
  show OW (eqQ (eR q) (eR 0)) Q ↔ _
  exact q_eqR
def OrdI (R : D) (n m : Nat) (s : D) (ev : VE) : Prop := s = .non ∧ ∃ (N : Int) (i : Nat), N = (i : Nat) ∧ i ≤ n ∧ m = n - i ∧ ev = [some R, some (.int N)]
section
variable {as bs : List Rat} {lead : Rat} {M : Nat}
theorem t_order_told (w : Rows M as bs lead) (hl : bs.length = as.length + 1) (hm : as.length ≤ 8) {n : Nat} (o : IsOrd (as ++ [lead]) bs n) : f_order_told [eRule as lead bs] = some (.tup [.int ((n : Int) - 1), eR (defR (as ++ [lead]) bs n)]) := by
  refine ow_of (funV_ow ?_)
  unfold den_order_told
  have hn : n ≤ 20 := by
    have := o.le
    simp at this
    omega
  refine sw_step (fun s ev => s = .non ∧ ev = [some (eRule as lead bs), some (.int 0)]) ?_ ?_
  · simp
  rintro s ev ⟨rfl, rfl⟩
  refine sw_step (fun s ev => s = .non ∧ ∃ N : Int, N = (n : Nat) ∧ ev = [some (eRule as lead bs), some (.int N)]) ?_ ?_
  · refine sw_while (OrdI (eRule as lead bs) n) n (by omega) ⟨rfl, 0, 0, rfl, by omega, by omega, rfl⟩ fun m s ev hi => ?_
    obtain ⟨rfl, N, i, hN, hin, hm2, rfl⟩ := hi
    have hd := t_defectN w hl hm (show i ≤ 20 by omega) hN
    simp [hd, eq_zeroR]
    by_cases hz : defR (as ++ [lead]) bs i = 0
    · right
      have hlt : i < n := Nat.lt_of_le_of_ne hin fun e => o.nz (e ▸ hz)
      refine ⟨hz, ?_⟩
      simp [Turned]
      exact ⟨n - (i + 1), by omega, rfl, N + 1, i + 1, by omega, by omega, rfl, rfl⟩
    · left
      have : i = n := Classical.byContradiction fun e => hz (o.zero i (by omega))
      exact ⟨hz, by omega⟩
  rintro s ev ⟨rfl, N, hN, rfl⟩
  have hd := t_defectN w hl hm hn hN
  simp [hd]
  omega
/-- the law's own defect: its terms -/
def ltR (a b : List Rat) (n j : Nat) : Rat := gt a j * Rat.divInt ((j ^ n : Nat) : Int) ((fac n : Nat) : Int) - (if 0 < n then gt b j * Rat.divInt ((j ^ (n - 1) : Nat) : Int) ((fac (n - 1) : Nat) : Int) else 0)
theorem divInt_cast (x y : Nat) : Rat.divInt ((x : Nat) : Int) ((y : Nat) : Int) = (x : Rat) / (y : Rat) := by
  rw [Rat.divInt_eq_div, Rat.intCast_natCast, Rat.intCast_natCast]
theorem ltR_eq (a b : List Rat) (n j : Nat) : ltR a b n j = (1 / ((fac n : Nat) : Rat)) * tmR a b n j := by
  unfold ltR tmR
  have hp : ∀ m, ((j ^ m : Nat) : Rat) = (j : Rat) ^ m := fun m => by
    have := cast_pow j m
    rwa [Rat.intCast_natCast] at this
  cases n with
  | zero =>
    rw [if_neg (by omega), divInt_cast, hp]
    have : ((0 : Nat) : Rat) = 0 := rfl
    have h1 := fac_ne 0
    rw [this]
    generalize ((fac 0 : Nat) : Rat) = f at h1 ⊢
    generalize (j : Rat) ^ 0 = p
    generalize (j : Rat) ^ (0 - 1) = q
    grind
  | succ m =>
    rw [if_pos (by omega), divInt_cast, divInt_cast, hp, hp, Nat.add_sub_cancel]
    have h1 := fac_ne m
    have h2 : ((fac (m + 1) : Nat) : Rat) = ((fac m : Nat) : Rat) * ((m + 1 : Nat) : Rat) := by rw [← Rat.natCast_mul]; rfl
    have h3 : ((m + 1 : Nat) : Rat) ≠ 0 := fun z => by
      have := Rat.natCast_eq_zero_iff.mp z
      omega
    rw [h2]
    generalize ((m + 1 : Nat) : Rat) = t at h3 ⊢
    generalize ((fac m : Nat) : Rat) = f at h1 ⊢
    generalize (j : Rat) ^ (m + 1) = p
    generalize (j : Rat) ^ m = q
    generalize gt a j = x
    generalize gt b j = y
    grind
theorem sm_ltR (a b : List Rat) (n : Nat) : sm (ltR a b n) a.length = defR a b n := by
  rw [sm_congr (g := fun j => (1 / ((fac n : Nat) : Rat)) * tmR a b n j) _ fun j _ => ltR_eq a b n j, sm_mul]
  unfold defR
  rw [lm_tm]
  grind
theorem gd_fr {n j : Nat} (hj : j ≤ 8) (hn : n ≤ 20) : Gd (fac n) (2 ^ 61) (Rat.divInt ((j ^ n : Nat) : Int) ((fac n : Nat) : Int)) :=
  Gd.div_int (by have := fac_pos n; omega) 1 (by omega) (by have := pow18 hj hn; rw [Int.natAbs_natCast]; omega)
theorem gd_ltR (w : Rows M as bs lead) (hl : bs.length = as.length + 1) (hm : as.length ≤ 8) {n : Nat} (hn : n ≤ 20) {j : Nat} (hj : j ≤ as.length) : Gd (M * fac n) (2 ^ 198) (ltR (as ++ [lead]) bs n j) ∧ Gd (M * fac n) (2 ^ 198) (gt (as ++ [lead]) j * Rat.divInt ((j ^ n : Nat) : Int) ((fac n : Nat) : Int)) := by
  have ga : Gd M (2 ^ 130) (gt (as ++ [lead]) j) := by
    rw [gt_get (by simp; omega)]
    exact w.ga _ (List.getElem_mem _)
  have gb : Gd M (2 ^ 130) (gt bs j) := by
    rw [gt_get (by omega)]
    exact w.gb _ (List.getElem_mem _)
  have g1 := ga.mul (gd_fr (show j ≤ 8 by omega) hn)
  refine ⟨?_, g1.mono (by decide)⟩
  unfold ltR
  cases n with
  | zero =>
    rw [if_neg (by omega)]
    have : Gd (M * fac 0) 0 (0 : Rat) := ⟨0, by simp, by simp⟩
    exact (g1.sub this).mono (by decide)
  | succ m =>
    rw [if_pos (by omega), Nat.add_sub_cancel]
    have g2 := (gb.mul (gd_fr (n := m) (show j ≤ 8 by omega) (by omega))).up (m + 1)
    have e : M * fac m * (m + 1) = M * fac (m + 1) := by
      rw [Nat.mul_assoc]; rfl
    rw [e] at g2
    refine (g1.sub g2).mono ?_
    have : 2 ^ 130 * 2 ^ 61 * (m + 1) ≤ 2 ^ 130 * 2 ^ 61 * 21 := Nat.mul_le_mul_left _ (by omega)
    exact Nat.le_trans (Nat.add_le_add_left this _) (by decide)
theorem rb_big {n C : Nat} {x : Rat} (w : Rows M as bs lead) (hn : n ≤ 20) (g : Gd (M * fac n) C x) (hC : C < 2 ^ 260) : Rb 260 x := by
  refine g.rb (Nat.mul_pos w.h0 (fac_pos n)) ?_ hC
  have h1 := fac18 hn
  have : M * fac n ≤ 2 ^ 190 * 2 ^ 62 := Nat.mul_le_mul (Nat.le_of_lt w.hM) (Nat.le_of_lt h1)
  exact Nat.lt_of_le_of_lt this (by decide)
end
end Dn
namespace Dn
open PySem PySem.Spec PyProof.Rows L2
section
variable {as bs : List Rat} {lead : Rat}
end
theorem enumL_gt {a : List Rat} {i : Nat} {d : D} (h : (enumL 0 (a.map eR))[i]? = some d) : i < a.length ∧ d = .tup [.int (i : Nat), eR (gt a i)] := by
  obtain ⟨da, ha, rfl⟩ := enumL_get _ 0 i d h
  rw [List.getElem?_map] at ha
  cases h1 : a[i]? with
  | none => rw [h1] at ha; cases ha
  | some x =>
    rw [h1] at ha
    cases ha
    refine ⟨(List.getElem?_eq_some_iff.mp h1).1, ?_⟩
    unfold gt
    rw [h1, Nat.zero_add]
    rfl
section
variable {as bs cs ds : List Rat} {lead led : Rat}
theorem t_many_steps : f_many_steps [eRule as lead bs] = some (.int (as.length : Nat)) := by
  refine ow_of (funV_ow ?_)
  have e0 : ∀ Q : D → Prop, OW (lenQ (eT (as ++ [lead]))) Q ↔ Q (.int ((as.length : Int) + 1)) := fun Q => by simp [eT]
  simp [den_many_steps, q_rule0, e0]
end
theorem set_range {N k : Nat} {F : Nat → Rat} {v : Rat} (hk : k < N) : ((List.range N).map F).set k v = (List.range N).map fun n => if n = k then v else F n := by
  apply List.ext_getElem?
  intro i
  by_cases hi : i = k
  · subst hi
    rw [List.getElem?_set_self (by simpa using hk), List.getElem?_map, List.getElem?_range hk]
    simp
  · rw [List.getElem?_set_ne (Ne.symm hi), List.getElem?_map, List.getElem?_map]
    by_cases h : i < N
    · rw [List.getElem?_range h]
      simp [hi]
    · rw [List.getElem?_eq_none (by simpa using h)]
      rfl
theorem pow_lt' {a b : Nat} (h : a < b) : 2 ^ a < 2 ^ b := Nat.pow_lt_pow_right (by decide) h
theorem pow_le' {a b : Nat} (h : a ≤ b) : 2 ^ a ≤ 2 ^ b := Nat.pow_le_pow_right (by decide) h
theorem Gd.rb2 {A α' α n : Nat} {x : Rat} (g : Gd A (2 ^ α) x) (h0 : 0 < A) (hA : A ≤ 2 ^ α') (h1 : α' < n) (h2 : α < n) : Rb n x :=
  g.rb h0 (Nat.lt_of_le_of_lt hA (pow_lt' h1)) (pow_lt' h2)
theorem gt_out {l : List Rat} {i : Nat} (h : l.length ≤ i) : gt l i = 0 := by
  unfold gt
  rw [List.getElem?_eq_none h]
  rfl
theorem gd_gt {A a : Nat} {l : List Rat} (g : ∀ x ∈ l, Gd A a x) (i : Nat) : Gd A a (gt l i) := by
  by_cases h : i < l.length
  · rw [gt_get h]
    exact g _ (List.getElem_mem h)
  · rw [gt_out (by omega)]
    exact ⟨0, by simp, by simp⟩
section
variable {p q : List Rat} {A B α α' β β' : Nat}
theorem ne_num {q : Rat} {Q : D → Prop} : OW (neQ (.int q.num) (.int 0)) Q ↔ Q (.bl (!decide (q = 0))) := by
  have e0 : (q.num == 0) = decide (q = 0) := by
    rw [Bool.eq_iff_iff, beq_iff_eq, decide_eq_true_eq]
    exact Rat.num_eq_zero
  simp [neQ, okN, eqD, e0]
end
structure Quot (Y : Nat) (as bs : List Rat) (lead : Rat) : Prop where
  y0 : 0 < Y
  y1 : Y ≤ 2 ^ 130
  ga : ∀ x ∈ as ++ [lead], Gd Y (2 ^ 130) (x / lead)
  gb : ∀ x ∈ bs, Gd Y (2 ^ 130) (x / lead)
theorem RuleG.quot {as bs : List Rat} {lead : Rat} (h : RuleG as lead bs) : ∃ Y, Quot Y as bs lead := by
  obtain ⟨M, w⟩ := h.rows
  obtain ⟨kl, el, cl⟩ := w.ga lead (by simp)
  have hM : (M : Rat) ≠ 0 := fun z => by
    have := Rat.natCast_eq_zero_iff.mp z
    have := w.h0
    omega
  have nz := h.nz
  have hkl : kl ≠ 0 := fun z => by
    rw [z] at el
    rcases Rat.mul_eq_zero.mp el with q | q
    · exact nz q
    · exact hM q
  have key : ∀ x, Gd M (2 ^ 130) x → Gd kl.natAbs (2 ^ 130) (x / lead) := fun x hx => by
    obtain ⟨kx, ex, cx⟩ := hx
    have hq : (kl : Rat) ≠ 0 := fun z => hkl (Rat.intCast_eq_zero_iff.mp z)
    have e1 : x / lead * (kl : Rat) = (kx : Rat) := by
      rw [← el, ← ex]
      grind
    rcases Int.natAbs_eq kl with h1 | h1
    · refine ⟨kx, ?_, cx⟩
      rw [← e1]
      congr 1
      rw [h1, Int.natAbs_natCast, Rat.intCast_natCast]
    · refine ⟨-kx, ?_, by rwa [Int.natAbs_neg]⟩
      have : ((kl.natAbs : Nat) : Rat) = -(kl : Rat) := by
        rw [← Rat.intCast_natCast, ← Rat.intCast_neg]
        congr 1
        omega
      rw [this, Rat.intCast_neg, ← e1]
      grind
  exact ⟨kl.natAbs, by omega, cl, fun x hx => key x (w.ga x hx), fun x hx => key x (w.gb x hx)⟩
section
variable {gs hs as bs : List Rat} {gl al c : Rat} {Y1 Y2 L : Nat}
theorem enumL_eL (l : List Rat) : enumL 0 (l.map eR) = (List.range l.length).map fun n => .tup [.int (n : Nat), eR (gt l n)] := by
  apply List.ext_getElem?
  intro i
  by_cases h : i < l.length
  · have hl : i < (enumL 0 (l.map eR)).length := by rw [enumL_length, List.length_map]; exact h
    obtain ⟨_, e⟩ := enumL_gt (List.getElem?_eq_getElem hl)
    rw [List.getElem?_map, List.getElem?_range h, List.getElem?_eq_getElem hl, e]
    rfl
  · rw [List.getElem?_eq_none (by rw [enumL_length, List.length_map]; omega), List.getElem?_eq_none (by simp; omega)]
end
section
variable {gs hs as bs : List Rat} {gl al c : Rat} {Y1 Y2 L : Nat}
theorem gt_range {N n : Nat} {F : Nat → Rat} (h : n < N) : gt ((List.range N).map F) n = F n := by
  unfold gt
  rw [List.getElem?_map, List.getElem?_range h]
  rfl
end
@[simp] theorem q_addT {as bs : List D} {Q : D → Prop} : OW (addD (.tup as) (.tup bs)) Q ↔ as.length + bs.length ≤ SZ ∧ Q (.tup (as ++ bs)) := OW.ite
def lastR (l : List Rat) : Rat := l.getLast?.getD 0
theorem lastR_app (l : List Rat) (b : Rat) : lastR (l ++ [b]) = b := by simp [lastR]
theorem ix_last {l : List Rat} (h : l ≠ []) {Q : D → Prop} : OW (ixQ (eT l) (.int (-1))) Q ↔ Q (eR (lastR l)) := by
  obtain ⟨l', b, rfl⟩ : ∃ l' b, l = l' ++ [b] := ⟨l.dropLast, l.getLast h, (List.dropLast_concat_getLast h).symm⟩
  rw [lastR_app]
  unfold eT
  rw [List.map_append]
  exact at_lst
theorem split_last {l : List Rat} (h : l ≠ []) : l = l.dropLast ++ [lastR l] := by
  obtain ⟨l', b, rfl⟩ : ∃ l' b, l = l' ++ [b] := ⟨l.dropLast, l.getLast h, (List.dropLast_concat_getLast h).symm⟩
  rw [lastR_app]
  simp
theorem RuleG.ne {as bs : List Rat} {lead : Rat} (h : RuleG as lead bs) : bs ≠ [] := fun z => by
  have := h.len
  rw [z] at this
  simp at this
theorem q_eqI {i j : Int} {Q : D → Prop} : OW (eqQ (.int i) (.int j)) Q ↔ Q (.bl (decide (i = j))) := by
  have : (i == j) = decide (i = j) := by
    rw [Bool.eq_iff_iff, beq_iff_eq, decide_eq_true_eq]
  simp [eqQ, okN, eqD, this]
theorem q_neI {i j : Int} {Q : D → Prop} : OW (neQ (.int i) (.int j)) Q ↔ Q (.bl (!decide (i = j))) := by
  have : (i == j) = decide (i = j) := by
    rw [Bool.eq_iff_iff, beq_iff_eq, decide_eq_true_eq]
  simp [neQ, okN, eqD, this]
theorem num_z {q : Rat} : (decide (q.num = 0)) = decide (q = 0) := by
  rw [Bool.eq_iff_iff, decide_eq_true_eq, decide_eq_true_eq]
  exact Rat.num_eq_zero
theorem t_drawn_split {sk : D} (h : SK sk) : OW (f_law_drawn_rule sk [.int 3]) fun r => ∃ as lead bs b, r.1 = eRule as lead (bs ++ [b]) ∧ RuleG as lead (bs ++ [b]) ∧ as.length ≤ 3 ∧ SK r.2 := OW.mono (t_drawn_ruleM (m := 3) (by decide) (by decide) h) fun r hr => by
  obtain ⟨as, lead, bs, e, hg, hl, hs⟩ := hr
  have es := split_last hg.ne
  generalize bs.dropLast = b1 at es
  generalize lastR bs = b2 at es
  subst es
  exact ⟨as, lead, _, _, e, hg, hl, hs⟩
structure ShG (n B : Nat) (d : D) : Prop where
  s : (toP d).showable = true
  h : (toP d).hasDict = false
  p : (toP d).depth ≤ n
  l : (toP d).leavesShort 1921 = true
  b : (toP d).bulk ≤ B
theorem ShG.mono {n m B C : Nat} {d : D} (h : ShG n B d) (k : n ≤ m) (l : B ≤ C) : ShG m C d := ⟨h.s, h.h, Nat.le_trans h.p k, h.l, Nat.le_trans h.b l⟩
theorem ShG.int {i : Int} (h : Bt 1900 i) : ShG 0 0 (.int i) := by
  refine ⟨?_, rfl, ?_, ?_, ?_⟩
  · simp [toP, PyData.showable, log_bt h]
  · simp [toP, PyData.depth]
  · simp [toP, PyData.leavesShort]
    exact len_bt h
  · simp [toP, PyData.bulk]
theorem shgAll {n B : Nat} : ∀ (ds : List D), (∀ d ∈ ds, ShG n B d) → PyData.showableAll (toPs ds) = true ∧ PyData.hasDictAll (toPs ds) = false ∧ PyData.depthAll (toPs ds) ≤ n ∧ PyData.leavesShortAll 1921 (toPs ds) = true ∧ PyData.bulkAll (toPs ds) ≤ (B + 1) * ds.length
  | [], _ => by simp [toPs, PyData.showableAll, PyData.hasDictAll, PyData.depthAll, PyData.leavesShortAll, PyData.bulkAll]
  | d :: ds, h => by
    have h1 := h d (by simp)
    obtain ⟨a, b, c, e, f⟩ := shgAll ds fun x hx => h x (by simp [hx])
    have hb := h1.b
    have hp := h1.p
    refine ⟨?_, ?_, ?_, ?_, ?_⟩
    · simp only [toPs, PyData.showableAll, h1.s, a, Bool.and_self]
    · simp only [toPs, PyData.hasDictAll, h1.h, b, Bool.or_self]
    · simp only [toPs, PyData.depthAll]; omega
    · simp only [toPs, PyData.leavesShortAll, h1.l, e, Bool.and_self]
    · simp only [toPs, PyData.bulkAll, List.length_cons]
      rw [Nat.mul_add]
      omega
theorem ShG.lst {n B : Nat} {ds : List D} (h : ∀ d ∈ ds, ShG n B d) : ShG (n + 1) ((B + 1) * ds.length) (.lst ds) := by
  obtain ⟨a, b, c, e, f⟩ := shgAll ds h
  exact ⟨a, b, by simp only [toP, PyData.depth]; omega, e, f⟩
theorem ShG.tup {n B : Nat} {ds : List D} (h : ∀ d ∈ ds, ShG n B d) : ShG (n + 1) ((B + 1) * ds.length) (.tup ds) := by
  obtain ⟨a, b, c, e, f⟩ := shgAll ds h
  exact ⟨a, b, by simp only [toP, PyData.depth]; omega, e, f⟩
theorem ShG.okL {n B : Nat} {ds : List D} (h : ShG n B (.lst ds)) (hn : n ≤ 30) (hB : B ≤ 510) : okS (.lst ds) = true := by
  have hs := PyData.shown_le_bulk 1921 (by decide) _ h.l
  have hbk := Nat.le_trans h.b hB
  have h3 : (1921 + 2) * (toP (.lst ds)).bulk ≤ (1921 + 2) * 510 := Nat.mul_le_mul_left _ hbk
  have hz : (toP (.lst ds)).shown.length ≤ SZ := by show _ ≤ 1000000; omega
  have hp := Nat.le_trans h.p hn
  simp only [okS, isSq, Bool.and_eq_true, Bool.not_eq_true', decide_eq_true_eq, Bool.true_and]
  exact ⟨⟨⟨h.s, h.h⟩, hp⟩, hz⟩
theorem repr_same {n B : Nat} {ds : List D} (h : ShG n B (.lst ds)) (hn : n ≤ 30) (hB : B ≤ 510) {Q : D → Prop} (q : Q (.bl false)) : OW (reprQ (.lst ds)) fun x => OW (reprQ (.lst ds)) fun y => OW (neS x y) Q := by
  simp [reprQ, h.okL hn hB, neS]
  exact q
end Dn
namespace Dn
open PySem PySem.Spec PyProof.Rows L2
/-! ### runs, pure -/
def stepR (nums : List Rat) (k : Nat) (found : List Rat) (n : Nat) (p : Rat) : Rat := (p - sm (fun j => gt nums j * gt found (n + j)) k) / gt nums k
def runR (nums : List Rat) (k : Nat) (found : List Rat) (P : Nat → Rat) : Nat → List Rat
  | 0 => found
  | n + 1 => runR nums k found P n ++ [stepR nums k (runR nums k found P n) n (P n)]
theorem runR_len {nums found : List Rat} {k : Nat} {P : Nat → Rat} : ∀ n, (runR nums k found P n).length = found.length + n
  | 0 => rfl
  | n + 1 => by
    show (runR nums k found P n ++ [_]).length = _
    rw [List.length_append, runR_len n, List.length_singleton]
    omega
theorem gt_mem {l : List Rat} {i : Nat} (h : i < l.length) : gt l i ∈ l := by
  rw [gt_get h]
  exact List.getElem_mem _
/-- a run's numbers -/
theorem run_gd {nums starts : List Rat} {k S T Y A B D U : Nat} {P : Nat → Rat} (hl : starts.length = k) (hY : Y ≤ B) (hB : k * A + D ≤ B) (hU : U ≤ T * D)
    (h1 : ∀ j, j < k → Gd Y A (gt nums j / gt nums k)) (h2 : ∀ i, Gd (S * Y) U (P i / gt nums k)) (h3 : ∀ x ∈ starts, Gd S T x) : ∀ i, ∀ x ∈ runR nums k starts P i, Gd (S * Y ^ i) (T * B ^ i) x
  | 0, x, hx => by simpa using h3 x hx
  | i + 1, x, hx => by
    have ih := run_gd hl hY hB hU h1 h2 h3 i
    rcases List.mem_append.mp hx with hx | hx
    · have := (ih x hx).up Y
      rw [Nat.mul_assoc, ← Nat.pow_succ] at this
      refine this.mono ?_
      rw [Nat.pow_succ, ← Nat.mul_assoc]
      exact Nat.mul_le_mul_left _ hY
    · rw [List.mem_singleton.mp hx]
      have e : stepR nums k (runR nums k starts P i) i (P i) = P i / gt nums k + sm (fun j => -(gt nums j / gt nums k * gt (runR nums k starts P i) (i + j))) k := by
        have : sm (fun j => -(gt nums j / gt nums k * gt (runR nums k starts P i) (i + j))) k = -(1 / gt nums k) * sm (fun j => gt nums j * gt (runR nums k starts P i) (i + j)) k := by
          rw [← sm_mul]
          exact sm_congr _ fun j _ => by grind
        rw [this]
        unfold stepR
        grind
      rw [e]
      have g1 := (h2 i).up (Y ^ i)
      rw [Nat.mul_assoc, ← Nat.pow_succ'] at g1
      have g2 := sm_gd (N := S * Y ^ (i + 1)) (K := A * (T * B ^ i)) (f := fun j => -(gt nums j / gt nums k * gt (runR nums k starts P i) (i + j))) k fun j hj => by
        have := (h1 j hj).mul (ih (gt (runR nums k starts P i) (i + j)) (gt_mem (by rw [runR_len]; omega)))
        rw [show Y * (S * Y ^ i) = S * Y ^ (i + 1) by rw [Nat.pow_succ]; ac_rfl] at this
        exact this.neg
      refine (g1.add g2).mono ?_
      have a1 : U * Y ^ i ≤ T * D * B ^ i := Nat.mul_le_mul hU (Nat.pow_le_pow_left hY i)
      have a2 : k * (A * (T * B ^ i)) = T * (k * A) * B ^ i := by ac_rfl
      have a3 : T * D * B ^ i + T * (k * A) * B ^ i = T * (k * A + D) * B ^ i := by
        rw [← Nat.add_mul, ← Nat.mul_add, Nat.add_comm]
      have a4 : T * (k * A + D) * B ^ i ≤ T * B * B ^ i := Nat.mul_le_mul_right _ (Nat.mul_le_mul_left _ hB)
      have e5 : T * B ^ (i + 1) = T * B * B ^ i := by rw [Nat.pow_succ]; ac_rfl
      rw [e5]
      exact Nat.le_trans (Nat.add_le_add a1 (Nat.le_of_eq a2)) (by rw [a3]; exact a4)
end Dn
namespace Dn
open PySem PySem.Spec PyProof.Rows L2
theorem upTo_at {n i : Nat} {d : D} (h : (upTo 0 n)[i]? = some d) : i < n ∧ d = .int (i : Nat) := by
  obtain ⟨h1, h2⟩ := upTo_get _ _ _ _ h
  exact ⟨h1, by rw [h2]; congr 1; omega⟩
theorem cut_drop {l : List D} {i k : Nat} (h : l.length = i + k) {z : Int} (hz : z = ((i + k : Nat) : Int)) : cutD l (some ((i : Nat) : Int)) (some z) = l.drop i := by
  subst hz
  unfold cutD
  have e1 : HT.sIx l.length 0 (some ((i : Nat) : Int)) = i := by
    simp only [HT.sIx]
    rw [if_neg (by omega), Int.toNat_natCast]
    omega
  have e2 : HT.sIx l.length l.length (some ((i + k : Nat) : Int)) = i + k := by
    simp only [HT.sIx]
    rw [if_neg (by omega), Int.toNat_natCast]
    omega
  rw [e1, e2, List.take_of_length_le (by rw [List.length_drop]; omega)]
theorem gt_drop {l : List Rat} {i j : Nat} : gt (l.drop i) j = gt l (i + j) := by
  unfold gt
  rw [List.getElem?_drop]
theorem zip_gt {a b : List Rat} {j : Nat} (h1 : j < a.length) (h2 : j < b.length) : (a.zip b)[j]? = some (gt a j, gt b j) := by
  rw [List.getElem?_eq_getElem (by simp only [List.length_zip]; omega), List.getElem_zip, gt_get h1, gt_get h2]
section
variable {as bs nums starts pushes : List Rat} {lead : Rat} {Dn : D} {L : Nat}
/-- what bounds a run -/
structure RunB (nums : List Rat) (k : Nat) (starts : List Rat) (P : Nat → Rat) (L : Nat) : Prop where
  nz : gt nums k ≠ 0
  ln : nums.length = k + 1
  ls : starts.length = k
  bn : ∀ x ∈ nums, Rb 500 x
  bv : ∀ i, i ≤ L → ∀ x ∈ runR nums k starts P i, Rb 1800 x
  bp : ∀ i, i < L → ∀ j, j ≤ k → Rb 2500 (P i - sm (fun t => gt nums t * gt (runR nums k starts P i) (i + t)) j)
theorem t_run_on (k4 : as.length ≤ 8) (hL : L ≤ 60) (hd : Dn = eL nums ∨ Dn = eT nums) (w : RunB nums as.length starts (gt pushes) L) (hp : pushes.length = L) :
    f_run_on [eRule as lead bs, Dn, eT starts, .int (L : Nat), eL pushes] = some (eT (runR nums as.length starts (gt pushes) L)) := by
  refine ow_of (funV_ow ?_)
  unfold den_run_on
  have hms := t_many_steps (as := as) (lead := lead) (bs := bs)
  obtain ⟨k, hk⟩ : ∃ k, k = as.length := ⟨_, rfl⟩
  rw [← hk] at w hms k4 ⊢
  have e1 : ∀ Q : D → Prop, OW (lstQ (eT starts)) Q ↔ Q (eL starts) := fun Q => ow_eq rfl
  refine sw_step (fun s ev => s = .non ∧ ev = [some (eRule as lead bs), some Dn, some (eT starts), some (.int (L : Nat)), some (eL pushes), some (eL starts), some (.int (k : Nat)), none, none, none, none]) ?_ ?_
  · simp [e1, hms]
  rintro s ev ⟨rfl, rfl⟩
  have hne : nums ≠ [] := fun z => by have := w.ln; rw [z] at this; simp at this
  have ixl : ∀ Q : D → Prop, OW (ixQ Dn (.int (-1))) Q ↔ Q (eR (gt nums k)) := fun Q => by
    rw [show gt nums k = lastR nums from ?_]
    · rcases hd with rfl | rfl
      · exact ix_last hne (Q := Q)
      · exact ix_last hne
    · have e := split_last hne
      have e2 : nums.dropLast.length = k := by simp [w.ln]
      generalize lastR nums = x at *
      rw [e, ← e2]
      unfold gt
      simp
  refine sw_step (fun s ev => s = .non ∧ ∃ a b c d, ev = [some (eRule as lead bs), some Dn, some (eT starts), some (.int (L : Nat)), some (eL pushes), some (eL (runR nums k starts (gt pushes) L)), some (.int (k : Nat)), a, b, c, d]) ?_ ?_
  · simp only [sw_for, iw_rng1, ew_var', List.getElem?_cons_succ, List.getElem?_cons_zero, vw_val]
    refine ⟨(L : Nat), rfl, by omega, by omega, ?_⟩
    rw [Int.toNat_natCast]
    refine for_rule _ (fun i s ev => s = .non ∧ ∃ a b c d, ev = [some (eRule as lead bs), some Dn, some (eT starts), some (.int (L : Nat)), some (eL pushes), some (eL (runR nums k starts (gt pushes) i)), some (.int (k : Nat)), a, b, c, d]) 0 _ _ (fun i d s ev hdd hi => ?_) ⟨rfl, none, none, none, none, rfl⟩ fun s ev hi => ?_
    · obtain ⟨rfl, a, b, c, d, rfl⟩ := hi
      obtain ⟨hil, rfl⟩ := upTo_at hdd
      rw [Nat.zero_add]
      simp only [g_name, List.set_cons_succ, List.set_cons_zero]
      have hlen := runR_len (nums := nums) (found := starts) (k := k) (P := gt pushes) i
      have ls := w.ls
      have ln := w.ln
      have rv := w.bv i (by omega)
      have rp := w.bp i hil
      have hst : runR nums k starts (gt pushes) (i + 1) = runR nums k starts (gt pushes) i ++ [stepR nums k (runR nums k starts (gt pushes) i) i (gt pushes i)] := rfl
      rw [hst]
      unfold stepR
      generalize runR nums k starts (gt pushes) i = V at *
      refine sw_step (fun s ev => s = .non ∧ ev = [some (eRule as lead bs), some Dn, some (eT starts), some (.int (L : Nat)), some (eL pushes), some (eL V), some (.int (k : Nat)), some (.int (i : Nat)), some (eR (gt pushes i)), c, d]) ?_ ?_
      · have : ∀ Q : D → Prop, OW (ixQ (eL pushes) (.int (i : Nat))) Q ↔ Q (eR (gt pushes i)) := fun Q => at_gt (by omega)
        simp [this]
      rintro s ev ⟨rfl, rfl⟩
      refine sw_step (fun s ev => s = .non ∧ ∃ c d, ev = [some (eRule as lead bs), some Dn, some (eT starts), some (.int (L : Nat)), some (eL pushes), some (eL V), some (.int (k : Nat)), some (.int (i : Nat)), some (eR (gt pushes i - sm (fun t => gt nums t * gt V (i + t)) k)), c, d]) ?_ ?_
      · rw [sw_for]
        simp only [iw_zipB, ew_sl, pw_some, ew_bin, ew_var', List.getElem?_cons_succ, List.getElem?_cons_zero, vw_val, q_add]
        refine ⟨(i : Nat), rfl, (i : Int) + (k : Int), rfl, ?_⟩
        have esl : ∀ Q : D → Prop, OW (slQ (some ((i : Nat) : Int)) (some ((i : Int) + (k : Int))) (eL V)) Q ↔ Q (.lst ((V.drop i).map eR)) := fun Q => by
          refine ow_eq ?_
          show some (D.lst (cutD (V.map eR) _ _)) = _
          rw [cut_drop (i := i) (k := k) (by rw [List.length_map]; omega) (by omega), List.map_drop]
        rw [esl]
        refine ⟨nums.map eR, (V.drop i).map eR, ?_, rfl, ?_⟩
        · rcases hd with h | h
          · exact .inl h
          · exact .inr h
        rw [zipL_map]
        have lz : (nums.zip (V.drop i)).length = k := by rw [List.length_zip, List.length_drop]; omega
        refine for_rule _ (fun j s ev => s = .non ∧ ∃ c d, ev = [some (eRule as lead bs), some Dn, some (eT starts), some (.int (L : Nat)), some (eL pushes), some (eL V), some (.int (k : Nat)), some (.int (i : Nat)), some (eR (gt pushes i - sm (fun t => gt nums t * gt V (i + t)) j)), c, d]) 0 _ _ (fun j d s ev hdd hi => ?_) ⟨rfl, c, d, by rw [show gt pushes i - sm (fun t => gt nums t * gt V (i + t)) 0 = gt pushes i from by show _ - (0 : Rat) = _; grind]⟩ fun s ev hi => ?_
        · obtain ⟨rfl, c, d, rfl⟩ := hi
          rw [Nat.zero_add]
          have hj : j < k := by
            have := (List.getElem?_eq_some_iff.mp hdd).1
            rw [List.length_map] at this
            omega
          rw [List.getElem?_map, zip_gt (by omega) (by rw [List.length_drop]; omega), gt_drop] at hdd
          cases hdd
          have r1 := w.bn _ (gt_mem (l := nums) (i := j) (by omega))
          have r2 := rv _ (gt_mem (l := V) (i := i + j) (by omega))
          have r3 := rp j (by omega)
          have es : gt pushes i - sm (fun t => gt nums t * gt V (i + t)) (j + 1) = (gt pushes i - sm (fun t => gt nums t * gt V (i + t)) j) - gt nums j * gt V (i + j) := by
            show _ - (sm _ j + _) = _
            grind
          rw [es]
          simp [Turned, t_ratio_product r1 r2 (by omega), t_ratio_less r3 (r1.mul r2) (by omega)]
        · obtain ⟨rfl, c, d, rfl⟩ := hi
          rw [List.length_map, lz, Nat.zero_add]
          exact ⟨rfl, _, _, rfl⟩
      rintro s ev ⟨rfl, c, d, rfl⟩
      have rd := (rp k (Nat.le_refl _)).div (w.bn _ (gt_mem (by omega))) w.nz
      rw [sw_app (ds := V.map eR) rfl]
      simp [ixl, t_ratio_over (rp k (Nat.le_refl _)) (w.bn _ (gt_mem (by omega))) (by omega) w.nz, Turned]
      refine ⟨by show V.length < 1000000; omega, ?_⟩
      simp [eL]
    · obtain ⟨rfl, a, b, c, d, rfl⟩ := hi
      rw [upTo_length, Nat.zero_add]
      exact ⟨rfl, _, _, _, _, rfl⟩
  rintro s ev ⟨rfl, a, b, c, d, rfl⟩
  simp [eL, eT]
end
end Dn
namespace Dn
open PySem PySem.Spec PyProof.Rows L2
def numsF (A B : List Rat) (q : Rat) : List Rat := (A.zip B).map fun p => p.1 - q * p.2
theorem numsF_gt {A B : List Rat} {q : Rat} {j : Nat} (h1 : j < A.length) (h2 : j < B.length) : gt (numsF A B q) j = gt A j - q * gt B j := by
  unfold numsF
  rw [gt_get (by simp; omega), gt_get h1, gt_get h2]
  simp
section
variable {as bs starts sl : List Rat} {lead q : Rat} {L : Nat}
theorem ixT {l : List Rat} {k : Nat} (h : k < l.length) {Q : D → Prop} : OW (ixQ (eT l) (.int (k : Nat))) Q ↔ Q (eR (gt l k)) := at_gt h
theorem ixLL {l : List Rat} {k : Nat} (h : k < l.length) {Q : D → Prop} : OW (ixQ (eL l) (.int (k : Nat))) Q ↔ Q (eR (gt l k)) := at_gt h
theorem ixA {l : List Rat} {i j : Nat} (h : i + j < l.length) {Q : D → Prop} : OW (ixQ (eL l) (.int ((i : Int) + (j : Int)))) Q ↔ Q (eR (gt l (i + j))) := by
  rw [show (i : Int) + (j : Int) = ((i + j : Nat) : Int) by omega]
  exact ixLL h
theorem t_law_grownA (h : RuleOk 200 as lead bs) (hL : L ≤ 60) (hq : Rb 200 q) (w : RunB (numsF (as ++ [lead]) bs q) as.length starts (fun _ => 0) L) :
    f_law_grown [eRule as lead bs, eT starts, .int (L : Nat), .lst [], eR q] = some (eT (runR (numsF (as ++ [lead]) bs q) as.length starts (fun _ => 0) L)) := by
  refine ow_of (funV_ow ?_)
  unfold den_law_grown
  have hl := h.len
  have hm := h.most
  have sA : ∀ x ∈ as ++ [lead], Rb 200 x := fun x hx => by
    rcases List.mem_append.mp hx with hx | hx
    · exact h.sa x hx
    · rw [List.mem_singleton.mp hx]; exact h.sl
  have e1 : ∀ Q : D → Prop, OW (lstQ (eT starts)) Q ↔ Q (eL starts) := fun Q => ow_eq rfl
  have lk : gt (as ++ [lead]) as.length = lead := by unfold gt; simp
  have lA : (as ++ [lead]).length = as.length + 1 := by simp
  have e2 : ∀ Q : D → Prop, OW (lenQ (eT (as ++ [lead]))) Q ↔ Q (.int ((as.length : Int) + 1)) := fun Q => by simp [eT]
  have e3 : ∀ Q : D → Prop, OW (ixQ (eT (as ++ [lead])) (.int (-1))) Q ↔ Q (eR lead) := fun Q => by rw [eT_app]; exact at_last
  have hbk : lastR bs = gt bs as.length := by
    have hne : bs ≠ [] := fun z => by rw [z] at hl; simp at hl
    have e := split_last hne
    have e2 : bs.dropLast.length = as.length := by simp [hl]
    generalize lastR bs = x at *
    rw [e, ← e2]
    unfold gt
    simp
  have e4 : ∀ Q : D → Prop, OW (ixQ (eT bs) (.int (-1))) Q ↔ Q (eR (gt bs as.length)) := fun Q => by
    rw [← hbk]
    exact ix_last (fun z => by rw [z] at hl; simp at hl)
  obtain ⟨k, hk⟩ : ∃ k, k = as.length := ⟨_, rfl⟩
  have wb := w.bn
  have ln := w.ln
  have ng : ∀ j, j ≤ as.length → gt (numsF (as ++ [lead]) bs q) j = gt (as ++ [lead]) j - q * gt bs j := fun j hj => numsF_gt (by omega) (by omega)
  generalize hnm : numsF (as ++ [lead]) bs q = nm at *
  generalize hA : as ++ [lead] = A at *
  rw [← hk] at hl hm lk lA e2 hbk e4 ng w ln ⊢
  generalize hR : eRule as lead bs = R at *
  have hRu : R = .tup [eT A, eT bs] := by rw [← hR, ← hA]; rfl
  refine sw_step (fun s ev => s = .non ∧ ev = [some R, some (eT starts), some (.int (L : Nat)), some (.lst []), some (eR q), some (eT A), some (eT bs), none, none, none, none, none, none]) ?_ ?_
  · simp [hRu]
  rintro s ev ⟨rfl, rfl⟩
  refine sw_step (fun s ev => s = .non ∧ ev = [some R, some (eT starts), some (.int (L : Nat)), some (.lst []), some (eR q), some (eT A), some (eT bs), some (eL starts), some (.int (k : Nat)), none, none, none, none]) ?_ ?_
  · simp [e1, e2]
  rintro s ev ⟨rfl, rfl⟩
  refine sw_step (fun s ev => s = .non ∧ ∃ a b c d, ev = [some R, some (eT starts), some (.int (L : Nat)), some (.lst []), some (eR q), some (eT A), some (eT bs), some (eL (runR (nm) k starts (fun _ => 0) L)), some (.int (k : Nat)), a, b, c, d]) ?_ ?_
  · simp only [sw_for, iw_rng1, ew_var', List.getElem?_cons_succ, List.getElem?_cons_zero, vw_val]
    refine ⟨(L : Nat), rfl, by omega, by omega, ?_⟩
    rw [Int.toNat_natCast]
    refine for_rule _ (fun i s ev => s = .non ∧ ∃ a b c d, ev = [some R, some (eT starts), some (.int (L : Nat)), some (.lst []), some (eR q), some (eT A), some (eT bs), some (eL (runR (nm) k starts (fun _ => 0) i)), some (.int (k : Nat)), a, b, c, d]) 0 _ _ (fun i d s ev hdd hi => ?_) ⟨rfl, none, none, none, none, rfl⟩ fun s ev hi => ?_
    · obtain ⟨rfl, a, b, c, d, rfl⟩ := hi
      obtain ⟨hil, rfl⟩ := upTo_at hdd
      rw [Nat.zero_add]
      simp only [g_name, List.set_cons_succ, List.set_cons_zero]
      have hlen := runR_len (nums := nm) (found := starts) (k := k) (P := fun _ => 0) i
      have ls := w.ls
      have rv := w.bv i (by omega)
      have rp := w.bp i hil
      have hst : runR (nm) k starts (fun _ => 0) (i + 1) = runR (nm) k starts (fun _ => 0) i ++ [stepR (nm) k (runR (nm) k starts (fun _ => 0) i) i ((fun _ => 0) i)] := rfl
      rw [hst]
      unfold stepR
      generalize runR (nm) k starts (fun _ => 0) i = V at *
      refine sw_step (fun s ev => s = .non ∧ ev = [some R, some (eT starts), some (.int (L : Nat)), some (.lst []), some (eR q), some (eT A), some (eT bs), some (eL V), some (.int (k : Nat)), some (.int (i : Nat)), some (eR 0), some (eR (gt (nm) k)), d]) ?_ ?_
      · have rb := h.sb _ (gt_mem (l := bs) (i := k) (by omega))
        have en : ∀ Q : D → Prop, OW (neQ (.lst []) (.lst [])) Q ↔ Q (.bl false) := fun Q => by simp [neQ, okN, eqD, eqDs]
        simp [zero_eR, en, e3, e4, t_law_times hq rb (by omega), t_law_less h.sl (hq.mul rb) (by omega), ng k (Nat.le_refl _), lk]
      rintro s ev ⟨rfl, rfl⟩
      refine sw_step (fun s ev => s = .non ∧ ∃ d, ev = [some R, some (eT starts), some (.int (L : Nat)), some (.lst []), some (eR q), some (eT A), some (eT bs), some (eL V), some (.int (k : Nat)), some (.int (i : Nat)), some (eR ((fun j => 0 - sm (fun t => gt nm t * gt V (i + t)) (min j k)) (k + 1))), some (eR (gt (nm) k)), d]) ?_ ?_
      · simp only [sw_for, iw_rng1, ew_bin, ew_c, ew_var', List.getElem?_cons_succ, List.getElem?_cons_zero, vw_val, q_add]
        refine ⟨(k : Int) + 1, rfl, by omega, by omega, ?_⟩
        rw [show ((k : Int) + 1).toNat = k + 1 by omega]
        refine for_rule _ (fun j s ev => s = .non ∧ ∃ d, ev = [some R, some (eT starts), some (.int (L : Nat)), some (.lst []), some (eR q), some (eT A), some (eT bs), some (eL V), some (.int (k : Nat)), some (.int (i : Nat)), some (eR ((fun j => 0 - sm (fun t => gt nm t * gt V (i + t)) (min j k)) j)), some (eR (gt (nm) k)), d]) 0 _ _ (fun j d s ev hdd hi => ?_) ⟨rfl, d, by rw [show (fun j => 0 - sm (fun t => gt nm t * gt V (i + t)) (min j k)) 0 = 0 from by show 0 - sm _ (min 0 k) = 0; rw [Nat.zero_min]; show (0 : Rat) - 0 = 0; grind]⟩ fun s ev hi => ?_
        · obtain ⟨rfl, d, rfl⟩ := hi
          obtain ⟨hj, rfl⟩ := upTo_at hdd
          rw [Nat.zero_add]
          simp only [g_name, List.set_cons_succ, List.set_cons_zero]
          have en : ∀ Q : D → Prop, OW (neQ (.lst []) (.lst [])) Q ↔ Q (.bl false) := fun Q => by simp [neQ, okN, eqD, eqDs]
          by_cases hjk : j < k
          · have r1 := h.sb _ (gt_mem (l := bs) (i := j) (by omega))
            have r2 := rv _ (gt_mem (l := V) (i := i + j) (by omega))
            have r3 := rp j (by omega)
            have r4 := sA _ (gt_mem (l := A) (i := j) (by omega))
            have es : (0 : Rat) - sm (fun t => gt nm t * gt V (i + t)) (min (j + 1) k) = (0 - sm (fun t => gt nm t * gt V (i + t)) j + q * gt bs j * gt V (i + j)) - gt A j * gt V (i + j) := by
              rw [Nat.min_eq_left (by omega)]
              show (0 : Rat) - (sm _ j + gt nm j * gt V (i + j)) = _
              rw [ng j (by omega)]
              grind
            have em : min j k = j := by omega
            have hji : (j : Int) < (k : Int) := by omega
            simp [es, em, en, ltP, hji, Turned, ixT (l := bs) (k := j) (by omega), ixT (l := A) (k := j) (by omega), ixA (l := V) (i := i) (j := j) (by omega), t_law_times hq r1 (by omega), t_law_times (hq.mul r1) r2 (by omega), t_law_times r4 r2 (by omega)]
            rw [t_law_plus r3 ((hq.mul r1).mul r2) (by omega)]
            simp
            rw [t_law_less (r3.add ((hq.mul r1).mul r2)) (r4.mul r2) (by omega)]
            exact OW.val.mpr rfl
          · have em : min (j + 1) k = min j k := by omega
            have hji : ¬ (j : Int) < (k : Int) := by omega
            simp [em, en, ltP, hji, Turned]
        · obtain ⟨rfl, d, rfl⟩ := hi
          rw [upTo_length, Nat.zero_add]
          exact ⟨rfl, _, rfl⟩
      rintro s ev ⟨rfl, d, rfl⟩
      have rn := wb _ (gt_mem (l := nm) (i := k) (by omega))
      have rk := rp k (Nat.le_refl _)
      have em : min (k + 1) k = k := by omega
      rw [sw_app (ds := V.map eR) rfl]
      simp [em, Turned]
      rw [t_law_over rk rn (by omega) w.nz]
      simp [eL]
      show V.length < 1000000
      omega
    · obtain ⟨rfl, a, b, c, d, rfl⟩ := hi
      rw [upTo_length, Nat.zero_add]
      exact ⟨rfl, _, _, _, _, rfl⟩
  rintro s ev ⟨rfl, a, b, c, d, rfl⟩
  simp [eL, eT]
theorem t_law_grownB (h : RuleOk 200 as lead bs) (hL : L ≤ 60) (hs : ∀ x ∈ sl, Rb 500 x) (hsl : sl.length = as.length + L + 1) (w : RunB (as ++ [lead]) as.length starts (fun i => sm (fun t => gt bs t * gt sl (i + t)) (as.length + 1)) L)
    (bq : ∀ i, i < L → ∀ j, j ≤ as.length + 1 → Rb 2500 (sm (fun t => gt bs t * gt sl (i + t)) j - sm (fun t => gt (as ++ [lead]) t * gt (runR (as ++ [lead]) as.length starts (fun i => sm (fun t => gt bs t * gt sl (i + t)) (as.length + 1)) i) (i + t)) (min j as.length))) :
    f_law_grown [eRule as lead bs, eT starts, .int (L : Nat), eL sl, eR q] = some (eT (runR (as ++ [lead]) as.length starts (fun i => sm (fun t => gt bs t * gt sl (i + t)) (as.length + 1)) L)) := by
  refine ow_of (funV_ow ?_)
  unfold den_law_grown
  have hl := h.len
  have hm := h.most
  have sA : ∀ x ∈ as ++ [lead], Rb 200 x := fun x hx => by
    rcases List.mem_append.mp hx with hx | hx
    · exact h.sa x hx
    · rw [List.mem_singleton.mp hx]; exact h.sl
  have e1 : ∀ Q : D → Prop, OW (lstQ (eT starts)) Q ↔ Q (eL starts) := fun Q => ow_eq rfl
  have lk : gt (as ++ [lead]) as.length = lead := by unfold gt; simp
  have lA : (as ++ [lead]).length = as.length + 1 := by simp
  have e2 : ∀ Q : D → Prop, OW (lenQ (eT (as ++ [lead]))) Q ↔ Q (.int ((as.length : Int) + 1)) := fun Q => by simp [eT]
  have e3 : ∀ Q : D → Prop, OW (ixQ (eT (as ++ [lead])) (.int (-1))) Q ↔ Q (eR lead) := fun Q => by rw [eT_app]; exact at_last
  have hbk : lastR bs = gt bs as.length := by
    have hne : bs ≠ [] := fun z => by rw [z] at hl; simp at hl
    have e := split_last hne
    have e2 : bs.dropLast.length = as.length := by simp [hl]
    generalize lastR bs = x at *
    rw [e, ← e2]
    unfold gt
    simp
  have e4 : ∀ Q : D → Prop, OW (ixQ (eT bs) (.int (-1))) Q ↔ Q (eR (gt bs as.length)) := fun Q => by
    rw [← hbk]
    exact ix_last (fun z => by rw [z] at hl; simp at hl)
  obtain ⟨k, hk⟩ : ∃ k, k = as.length := ⟨_, rfl⟩
  have wb := w.bn
  have ln := w.ln
  generalize hA : as ++ [lead] = A at *
  rw [← hk] at hl hm lk lA e2 hbk e4 w ln hsl bq ⊢
  have hne : sl.isEmpty = false := by
    cases sl with
    | nil => simp at hsl
    | cons _ _ => rfl
  have en : ∀ Q : D → Prop, OW (neQ (eL sl) (.lst [])) Q ↔ Q (.bl true) := fun Q => by
    unfold eL
    rw [ne_nilR, hne]
    rfl
  generalize hR : eRule as lead bs = R at *
  have hRu : R = .tup [eT A, eT bs] := by rw [← hR, ← hA]; rfl
  refine sw_step (fun s ev => s = .non ∧ ev = [some R, some (eT starts), some (.int (L : Nat)), some (eL sl), some (eR q), some (eT A), some (eT bs), none, none, none, none, none, none]) ?_ ?_
  · simp [hRu]
  rintro s ev ⟨rfl, rfl⟩
  refine sw_step (fun s ev => s = .non ∧ ev = [some R, some (eT starts), some (.int (L : Nat)), some (eL sl), some (eR q), some (eT A), some (eT bs), some (eL starts), some (.int (k : Nat)), none, none, none, none]) ?_ ?_
  · simp [e1, e2]
  rintro s ev ⟨rfl, rfl⟩
  refine sw_step (fun s ev => s = .non ∧ ∃ a b c d, ev = [some R, some (eT starts), some (.int (L : Nat)), some (eL sl), some (eR q), some (eT A), some (eT bs), some (eL (runR (A) k starts (fun i => sm (fun t => gt bs t * gt sl (i + t)) (k + 1)) L)), some (.int (k : Nat)), a, b, c, d]) ?_ ?_
  · simp only [sw_for, iw_rng1, ew_var', List.getElem?_cons_succ, List.getElem?_cons_zero, vw_val]
    refine ⟨(L : Nat), rfl, by omega, by omega, ?_⟩
    rw [Int.toNat_natCast]
    refine for_rule _ (fun i s ev => s = .non ∧ ∃ a b c d, ev = [some R, some (eT starts), some (.int (L : Nat)), some (eL sl), some (eR q), some (eT A), some (eT bs), some (eL (runR (A) k starts (fun i => sm (fun t => gt bs t * gt sl (i + t)) (k + 1)) i)), some (.int (k : Nat)), a, b, c, d]) 0 _ _ (fun i d s ev hdd hi => ?_) ⟨rfl, none, none, none, none, rfl⟩ fun s ev hi => ?_
    · obtain ⟨rfl, a, b, c, d, rfl⟩ := hi
      obtain ⟨hil, rfl⟩ := upTo_at hdd
      rw [Nat.zero_add]
      simp only [g_name, List.set_cons_succ, List.set_cons_zero]
      have hlen := runR_len (nums := A) (found := starts) (k := k) (P := fun i => sm (fun t => gt bs t * gt sl (i + t)) (k + 1)) i
      have ls := w.ls
      have rv := w.bv i (by omega)
      have rp := w.bp i hil
      have rq := bq i hil
      have hst : runR (A) k starts (fun i => sm (fun t => gt bs t * gt sl (i + t)) (k + 1)) (i + 1) = runR (A) k starts (fun i => sm (fun t => gt bs t * gt sl (i + t)) (k + 1)) i ++ [stepR (A) k (runR (A) k starts (fun i => sm (fun t => gt bs t * gt sl (i + t)) (k + 1)) i) i ((fun i => sm (fun t => gt bs t * gt sl (i + t)) (k + 1)) i)] := rfl
      rw [hst]
      unfold stepR
      generalize runR (A) k starts (fun i => sm (fun t => gt bs t * gt sl (i + t)) (k + 1)) i = V at *
      refine sw_step (fun s ev => s = .non ∧ ev = [some R, some (eT starts), some (.int (L : Nat)), some (eL sl), some (eR q), some (eT A), some (eT bs), some (eL V), some (.int (k : Nat)), some (.int (i : Nat)), some (eR 0), some (eR (gt (A) k)), d]) ?_ ?_
      · simp [zero_eR, en, e3, lk]
      rintro s ev ⟨rfl, rfl⟩
      refine sw_step (fun s ev => s = .non ∧ ∃ d, ev = [some R, some (eT starts), some (.int (L : Nat)), some (eL sl), some (eR q), some (eT A), some (eT bs), some (eL V), some (.int (k : Nat)), some (.int (i : Nat)), some (eR ((fun j => sm (fun t => gt bs t * gt sl (i + t)) j - sm (fun t => gt A t * gt V (i + t)) (min j k)) (k + 1))), some (eR (gt (A) k)), d]) ?_ ?_
      · simp only [sw_for, iw_rng1, ew_bin, ew_c, ew_var', List.getElem?_cons_succ, List.getElem?_cons_zero, vw_val, q_add]
        refine ⟨(k : Int) + 1, rfl, by omega, by omega, ?_⟩
        rw [show ((k : Int) + 1).toNat = k + 1 by omega]
        refine for_rule _ (fun j s ev => s = .non ∧ ∃ d, ev = [some R, some (eT starts), some (.int (L : Nat)), some (eL sl), some (eR q), some (eT A), some (eT bs), some (eL V), some (.int (k : Nat)), some (.int (i : Nat)), some (eR ((fun j => sm (fun t => gt bs t * gt sl (i + t)) j - sm (fun t => gt A t * gt V (i + t)) (min j k)) j)), some (eR (gt (A) k)), d]) 0 _ _ (fun j d s ev hdd hi => ?_) ⟨rfl, d, by rw [show (fun j => sm (fun t => gt bs t * gt sl (i + t)) j - sm (fun t => gt A t * gt V (i + t)) (min j k)) 0 = 0 from by show sm _ 0 - sm _ (min 0 k) = 0; rw [Nat.zero_min]; show (0 : Rat) - 0 = 0; grind]⟩ fun s ev hi => ?_
        · obtain ⟨rfl, d, rfl⟩ := hi
          obtain ⟨hj, rfl⟩ := upTo_at hdd
          rw [Nat.zero_add]
          simp only [g_name, List.set_cons_succ, List.set_cons_zero]
          have r1 := h.sb _ (gt_mem (l := bs) (i := j) (by omega))
          have r5 := hs _ (gt_mem (l := sl) (i := i + j) (by omega))
          have r3 := rq j (by omega)
          by_cases hjk : j < k
          · have r2 := rv _ (gt_mem (l := V) (i := i + j) (by omega))
            have r4 := sA _ (gt_mem (l := A) (i := j) (by omega))
            have em : min j k = j := by omega
            rw [em] at r3
            have es : sm (fun t => gt bs t * gt sl (i + t)) (j + 1) - sm (fun t => gt A t * gt V (i + t)) (min (j + 1) k) = (sm (fun t => gt bs t * gt sl (i + t)) j - sm (fun t => gt A t * gt V (i + t)) j + gt bs j * gt sl (i + j)) - gt A j * gt V (i + j) := by
              rw [Nat.min_eq_left (by omega)]
              show (sm _ j + gt bs j * gt sl (i + j)) - (sm _ j + gt A j * gt V (i + j)) = _
              grind
            have hji : (j : Int) < (k : Int) := by omega
            simp [es, em, en, ltP, hji, Turned, ixT (l := bs) (k := j) (by omega), ixT (l := A) (k := j) (by omega), ixA (l := V) (i := i) (j := j) (by omega), ixA (l := sl) (i := i) (j := j) (by omega), t_law_times r1 r5 (by omega), t_law_times r4 r2 (by omega)]
            rw [t_law_plus r3 (r1.mul r5) (by omega)]
            simp
            rw [t_law_less (r3.add (r1.mul r5)) (r4.mul r2) (by omega)]
            exact OW.val.mpr rfl
          · have ej : j = k := by omega
            have em : min j k = k := by omega
            rw [em] at r3
            have es : sm (fun t => gt bs t * gt sl (i + t)) (j + 1) - sm (fun t => gt A t * gt V (i + t)) (min (j + 1) k) = sm (fun t => gt bs t * gt sl (i + t)) j - sm (fun t => gt A t * gt V (i + t)) k + gt bs j * gt sl (i + j) := by
              rw [Nat.min_eq_right (by omega)]
              show (sm _ j + gt bs j * gt sl (i + j)) - _ = _
              grind
            have hji : ¬ (j : Int) < (k : Int) := by omega
            simp [es, em, en, ltP, hji, Turned, ixT (l := bs) (k := j) (by omega), ixA (l := sl) (i := i) (j := j) (by omega), t_law_times r1 r5 (by omega)]
            rw [t_law_plus r3 (r1.mul r5) (by omega)]
            simp
        · obtain ⟨rfl, d, rfl⟩ := hi
          rw [upTo_length, Nat.zero_add]
          exact ⟨rfl, _, rfl⟩
      rintro s ev ⟨rfl, d, rfl⟩
      have rn := wb _ (gt_mem (l := A) (i := k) (by omega))
      have rk := rq (k + 1) (Nat.le_refl _)
      have em : min (k + 1) k = k := by omega
      rw [em] at rk
      rw [sw_app (ds := V.map eR) rfl]
      simp [em, Turned]
      rw [t_law_over rk rn (by omega) w.nz]
      simp [eL]
      show V.length < 1000000
      omega
    · obtain ⟨rfl, a, b, c, d, rfl⟩ := hi
      rw [upTo_length, Nat.zero_add]
      exact ⟨rfl, _, _, _, _, rfl⟩
  rintro s ev ⟨rfl, a, b, c, d, rfl⟩
  simp [eL, eT]
end
end Dn
namespace Dn
open PySem PySem.Spec PyProof.Rows L2
theorem iw_rev {sk : D} {ev : VE} {E : EF} {QA : List D → D → Prop} : AW (revI E) sk ev QA ↔ EW E sk ev fun d s1 => ∃ ds, (d = .lst ds ∨ d = .tup ds) ∧ QA ds.reverse s1 := by
  unfold AW EW revI
  cases h : E sk ev with
  | none => simp [h]
  | some r =>
    obtain ⟨d, s1⟩ := r
    cases d <;> simp [h]
/-- a polynomial at a place -/
def hor (t : Rat) : List Rat → Rat
  | [] => 0
  | c :: cs => hor t cs * t + c
theorem hor_drop {l : List Rat} {i : Nat} {t : Rat} (h : i < l.length) : hor t (l.drop i) = hor t (l.drop (i + 1)) * t + gt l i := by
  rw [List.drop_eq_getElem_cons h, gt_get h]
  rfl
theorem rev_gt {l : List Rat} {i : Nat} {d : D} (h : ((l.map eR).reverse)[i]? = some d) : i < l.length ∧ d = eR (gt l (l.length - 1 - i)) := by
  have hl := (List.getElem?_eq_some_iff.mp h).1
  simp at hl
  rw [List.getElem?_reverse (by simpa using hl)] at h
  rw [List.length_map, List.getElem?_map, List.getElem?_eq_getElem (by omega), ← gt_get (by omega)] at h
  cases h
  exact ⟨hl, rfl⟩
/-- what bounds a polynomial at a place -/
structure HorB (p : List Rat) (t : Rat) : Prop where
  bt : Rb 200 t
  bc : ∀ c ∈ p, Rb 200 c
  bh : ∀ i, Rb 500 (hor t (p.drop i))
theorem t_told_at {p : List Rat} {t : Rat} (h : HorB p t) : f_told_at [eT p, eR t] = some (eR (hor t p)) := by
  refine ow_of (funV_ow ?_)
  unfold den_told_at
  refine sw_step (fun s ev => s = .non ∧ ev = [some (eT p), some (eR t), some (eR 0), none]) ?_ ?_
  · simp [show (c_ZERO : D) = eR 0 from rfl]
  rintro s ev ⟨rfl, rfl⟩
  refine sw_step (fun s ev => s = .non ∧ ∃ z, ev = [some (eT p), some (eR t), some (eR (hor t p)), z]) ?_ ?_
  · rw [sw_for]
    simp only [iw_rev, ew_var', List.getElem?_cons_succ, List.getElem?_cons_zero, vw_val]
    refine ⟨p.map eR, .inr rfl, ?_⟩
    refine for_rule _ (fun i s ev => s = .non ∧ ∃ z, ev = [some (eT p), some (eR t), some (eR (hor t (p.drop (p.length - i)))), z]) 0 _ _ (fun i d s ev hd hi => ?_) ⟨rfl, none, by rw [Nat.sub_zero, List.drop_length]; rfl⟩ fun s ev hi => ?_
    · obtain ⟨rfl, z, rfl⟩ := hi
      obtain ⟨hi, rfl⟩ := rev_gt hd
      rw [Nat.zero_add]
      have e : p.length - (i + 1) = p.length - 1 - i := by omega
      have e2 : p.length - 1 - i + 1 = p.length - i := by omega
      rw [e, hor_drop (l := p) (i := p.length - 1 - i) (by omega), e2]
      have r1 := h.bh (p.length - i)
      have r2 := h.bc _ (gt_mem (l := p) (i := p.length - 1 - i) (by omega))
      simp [Turned, t_ratio_product r1 h.bt (by omega), t_ratio_sum (r1.mul h.bt) r2 (by omega)]
    · obtain ⟨rfl, z, rfl⟩ := hi
      rw [List.length_reverse, List.length_map, Nat.zero_add, Nat.sub_self, List.drop_zero]
      exact ⟨rfl, _, rfl⟩
  rintro s ev ⟨rfl, z, rfl⟩
  simp
theorem t_law_at {p : List Rat} {t : Rat} (h : HorB p t) : f_law_at [eL p, eR t] = some (eR (hor t p)) := by
  refine ow_of (funV_ow ?_)
  unfold den_law_at
  refine sw_step (fun s ev => s = .non ∧ ev = [some (eL p), some (eR t), some (eR 0), none]) ?_ ?_
  · simp [zero_eR]
  rintro s ev ⟨rfl, rfl⟩
  refine sw_step (fun s ev => s = .non ∧ ∃ z, ev = [some (eL p), some (eR t), some (eR (hor t p)), z]) ?_ ?_
  · rw [sw_for]
    simp only [iw_rev, ew_var', List.getElem?_cons_succ, List.getElem?_cons_zero, vw_val]
    refine ⟨p.map eR, .inl rfl, ?_⟩
    refine for_rule _ (fun i s ev => s = .non ∧ ∃ z, ev = [some (eL p), some (eR t), some (eR (hor t (p.drop (p.length - i)))), z]) 0 _ _ (fun i d s ev hd hi => ?_) ⟨rfl, none, by rw [Nat.sub_zero, List.drop_length]; rfl⟩ fun s ev hi => ?_
    · obtain ⟨rfl, z, rfl⟩ := hi
      obtain ⟨hi, rfl⟩ := rev_gt hd
      rw [Nat.zero_add]
      have e : p.length - (i + 1) = p.length - 1 - i := by omega
      have e2 : p.length - 1 - i + 1 = p.length - i := by omega
      rw [e, hor_drop (l := p) (i := p.length - 1 - i) (by omega), e2]
      have r1 := h.bh (p.length - i)
      have r2 := h.bc _ (gt_mem (l := p) (i := p.length - 1 - i) (by omega))
      simp [Turned, t_law_times r1 h.bt (by omega), t_law_plus (r1.mul h.bt) r2 (by omega)]
    · obtain ⟨rfl, z, rfl⟩ := hi
      rw [List.length_reverse, List.length_map, Nat.zero_add, Nat.sub_self, List.drop_zero]
      exact ⟨rfl, _, rfl⟩
  rintro s ev ⟨rfl, z, rfl⟩
  simp
end Dn
namespace Dn
open PySem PySem.Spec PyProof.Rows L2
theorem funVX_err {n : Nat} {S : SF} {ds : List D} {x : Str} (h : SW S .non (env0 n ds) fun f => ∃ s e, f = .xc x s e) : funVX n S ds = some (.error x) := by
  unfold SW at h
  unfold funVX
  cases e : S .non (env0 n ds) with
  | none => rw [e] at h; exact h.elim
  | some f =>
    rw [e] at h
    obtain ⟨s, e1, rfl⟩ := h
    rfl
theorem funVX_ok {n : Nat} {S : SF} {ds : List D} {d : D} (h : SW S .non (env0 n ds) fun f => ∃ s, f = .rt s d) : funVX n S ds = some (.ok d) := by
  unfold SW at h
  unfold funVX
  cases e : S .non (env0 n ds) with
  | none => rw [e] at h; exact h.elim
  | some f =>
    rw [e] at h
    obtain ⟨s, rfl⟩ := h
    rfl
@[simp] theorem sw_raise {x : Str} {sk : D} {ev : VE} {Q : Fl → Prop} : SW (raiseS x) sk ev Q ↔ Q (.xc x sk ev) := by simp [SW, raiseS]
theorem gt_rep0 {L : Nat} : gt (List.replicate L (0 : Rat)) = fun _ => 0 := by
  funext i
  by_cases h : i < L
  · rw [gt_get (by simpa using h)]
    simp
  · rw [gt_out (by simpa using h)]
theorem rep_zero {L : Nat} (hL : L ≤ 60) {Q : D → Prop} : OW (repD (.lst [c_ZERO]) (.int (L : Nat))) Q ↔ Q (eL (List.replicate L 0)) := by
  refine ow_eq ?_
  have h1 : decide ((L : Int) ≤ 1000000) = true := decide_eq_true (by omega)
  have h2 : decide (-1000000 ≤ (L : Int)) = true := decide_eq_true (by omega)
  have h3 : decide ([c_ZERO].length * (L : Int).toNat ≤ SZ) = true := decide_eq_true (by simp; show L ≤ 1000000; omega)
  simp only [repD, h1, h2, h3, Bool.and_self, if_true]
  simp [eL, show (c_ZERO : D) = eR 0 from rfl]
section
variable {as bs starts : List Rat} {lead q : Rat} {L : Nat}
theorem t_check_fraction : f_check_fraction [eR q] = some .non := by
  refine funV_nx ?_
  simp [den_check_fraction, t_is_ratio]
theorem t_check_size (h : 0 < q) : f_check_size [eR q] = some .non := by
  refine funV_nx ?_
  have := num_pos'.mpr h
  simp [den_check_size, t_is_ratio]
  omega
theorem t_check_number (h : L ≤ 60) : f_check_number [.int (L : Nat), .int 0, .int 60] = some .non := by
  have hb : f_is_between [.int (L : Nat), .int 0, .int 60] = some (.bl true) := by
    refine ow_of (funV_ow ?_)
    simp [den_is_between, t_is_whole]
    omega
  refine funV_nx ?_
  simp [den_check_number, hb]
theorem t_check_starts (hs : starts.length = as.length) (h9 : starts.length ≤ 100) : f_check_starts [eRule as lead bs, eT starts] = some .non := by
  refine funV_nx ?_
  have hms := t_many_steps (as := as) (lead := lead) (bs := bs)
  have e0 : ∀ Q : D → Prop, OW (lenQ (eT starts)) Q ↔ Q (.int (starts.length : Nat)) := fun Q => by simp [eT]
  have e2 : ∀ Q : D → Prop, OW (isQ "tuple" isi_tuple (eT starts)) Q ↔ Q (.bl true) := fun Q => by simp [eT, isQ, tyN, isi_tuple]
  unfold den_check_starts
  refine SW.mono (sw_step (fun s ev => s = .non ∧ ev = [some (eRule as lead bs), some (eT starts), none, none]) ?_ ?_ (Q := fun f => ∃ s e, f = .nx s e)) fun f hf => hf
  · simp [e0, e2, hms, q_neI, hs]
  rintro s ev ⟨rfl, rfl⟩
  rw [sw_for]
  simp only [iw_enumA, ew_var', List.getElem?_cons_succ, List.getElem?_cons_zero, vw_val]
  refine ⟨starts.map eR, .inr rfl, ?_⟩
  refine for_rule _ (fun i s ev => s = .non ∧ ∃ a b, ev = [some (eRule as lead bs), some (eT starts), a, b]) 0 _ _ (fun i d s ev hd hi => ?_) ⟨rfl, none, none, rfl⟩ fun s ev hi => ?_
  · obtain ⟨rfl, a, b, rfl⟩ := hi
    obtain ⟨hi, rfl⟩ := enumL_gt hd
    simp [Turned, t_is_ratio]
  · exact ⟨_, _, rfl⟩
theorem t_check_polynomial {p : List Rat} (h9 : p.length ≤ 100) (h : p = [] ∨ ∃ p' z, p = p' ++ [z] ∧ z ≠ 0) : f_check_polynomial [eT p] = some .non := by
  have hb : f_is_parts [eT p] = some (.bl true) := by
    refine ow_of (funV_ow ?_)
    have r := t_are_ratios (qs := p) (by omega)
    rcases h with rfl | ⟨p', z, rfl, hz⟩
    · have : ∀ Q : D → Prop, OW (eqQ (eT []) (.tup [])) Q ↔ Q (.bl true) := fun Q => by simp [eT, eqQ, okN, eqD, eqDs]
      simp [den_is_parts, r, this]
    · have h1 : okN 20 (eT (p' ++ [z])) = true := by
        simp only [eT, okN, List.all_eq_true]
        intro d hd
        obtain ⟨q, _, rfl⟩ := List.mem_map.mp hd
        exact okN_eR'
      have e1 : ∀ Q : D → Prop, OW (eqQ (eT (p' ++ [z])) (.tup [])) Q ↔ Q (.bl false) := fun Q => by
        refine ow_eq ?_
        unfold eqQ
        rw [h1]
        cases p' <;> simp [eT, okN, eqD, eqDs]
      have e3 : ∀ Q : D → Prop, OW (ixQ (eT (p' ++ [z])) (.int (-1))) Q ↔ Q (eR z) := fun Q => by rw [eT_app]; exact at_last
      simp [den_is_parts, r, e1, e3, ne_sets hz]
  refine funV_nx ?_
  simp [den_check_polynomial, hb]
/-- the numbers of a test run -/
theorem lc_nums (h : RuleOk 200 as lead bs) (hq : Rb 200 q) {E : EF} {ev : VE} {Q : List D × D → Prop} (hm : as.length ≤ 8)
    (he : ∀ a b, Rb 200 a → Rb 200 b → OW (tupG 2 (consG (nameG 5) (consG (nameG 6) nilG)) (.tup [eR a, eR b]) ev) fun e1 => EW E .non e1 fun x s => x = eR (a - q * b) ∧ s = .non)
    (k : Q ((numsF (as ++ [lead]) bs q).map eR, .non)) : OW (lcF (tupG 2 (consG (nameG 5) (consG (nameG 6) nilG))) yesB E (zipL ((as ++ [lead]).map eR) (bs.map eR)) .non ev) Q := by
  rw [zipL_map]
  refine lc_map (fun p : Rat × Rat => D.tup [eR p.1, eR p.2]) (fun p => eR (p.1 - q * p.2)) _ _ (fun p hp => ?_) ?_
  · have hz := zip_mem hp
    refine he _ _ ?_ (h.sb _ hz.2)
    rcases List.mem_append.mp hz.1 with hx | hx
    · exact h.sa _ hx
    · rw [List.mem_singleton.mp hx]; exact h.sl
  · have : ((as ++ [lead]).zip bs).map (fun p => eR (p.1 - q * p.2)) = (numsF (as ++ [lead]) bs q).map eR := by simp [numsF]
    rw [this]
    exact k
/-- what is told of a test run: lost, or the run -/
theorem t_test (h : RuleOk 200 as lead bs) (hq : Rb 200 q) (hL : L ≤ 60) (hs : starts.length = as.length) :
    (gt (numsF (as ++ [lead]) bs q) as.length = 0 → f_test_runX [eRule as lead bs, eR q, eT starts, .int (L : Nat)] = some (.error "LostStep")) ∧
    (RunB (numsF (as ++ [lead]) bs q) as.length starts (fun _ => 0) L → f_test_runX [eRule as lead bs, eR q, eT starts, .int (L : Nat)] = some (.ok (eT (runR (numsF (as ++ [lead]) bs q) as.length starts (fun _ => 0) L))) ∧
      f_test_run [eRule as lead bs, eR q, eT starts, .int (L : Nat)] = some (eT (runR (numsF (as ++ [lead]) bs q) as.length starts (fun _ => 0) L))) := by
  have hl := h.len
  have hm := h.most
  have c1 := t_check_rule h
  have c2 := t_check_fraction (q := q)
  have c3 := t_check_starts (as := as) (lead := lead) (bs := bs) hs (by omega)
  have c4 := t_check_number hL
  have ln : (numsF (as ++ [lead]) bs q).length = as.length + 1 := by simp [numsF, hl]
  have ixl : ∀ Q : D → Prop, OW (ixQ (.lst ((numsF (as ++ [lead]) bs q).map eR)) (.int (-1))) Q ↔ Q (eR (gt (numsF (as ++ [lead]) bs q) as.length)) := fun Q => by
    have hne : numsF (as ++ [lead]) bs q ≠ [] := fun z => by rw [z] at ln; simp at ln
    rw [show gt (numsF (as ++ [lead]) bs q) as.length = lastR (numsF (as ++ [lead]) bs q) from ?_]
    · exact ix_last hne (Q := Q)
    · have e := split_last hne
      have e2 : (numsF (as ++ [lead]) bs q).dropLast.length = as.length := by simp [ln]
      generalize lastR (numsF (as ++ [lead]) bs q) = x at *
      rw [e, ← e2]
      unfold gt
      simp
  have pre : ∀ (S : SF) (Q : Fl → Prop), SW S .non [some (eRule as lead bs), some (eR q), some (eT starts), some (.int (L : Nat)), some (eL (numsF (as ++ [lead]) bs q)), none, none] Q → ∀ R : SF, R = (seqS (dropS (callE f_check_rule (consA (varE 0) nilA))) (seqS (dropS (callE f_check_fraction (consA (varE 1) nilA))) (seqS (dropS (callE f_check_starts (consA (varE 0) (consA (varE 2) nilA)))) (seqS (dropS (callE f_check_number (consA (varE 3) (consA (cE (.int 0)) (consA (cE c_LONGEST) nilA))))) (seqS (asgS (lcE (zipI (binE ixQ (varE 0) (cE (.int 0))) (binE ixQ (varE 0) (cE (.int 1)))) (tupG 2 (consG (nameG 5) (consG (nameG 6) nilG))) yesB (callE f_ratio_less (consA (varE 5) (consA (callE f_ratio_product (consA (varE 1) (consA (varE 6) nilA))) nilA))) [5, 6]) (nameG 4)) S))))) → SW R .non [some (eRule as lead bs), some (eR q), some (eT starts), some (.int (L : Nat)), none, none, none] Q := fun S Q hS R hR => by
    subst hR
    simp only [sw_seq, sw_drop, ew_call, aw_cons, aw_nil, ew_var', ew_c, List.getElem?_cons_succ, List.getElem?_cons_zero, vw_val, c1, c2, c3, c4, ow_val, sw_asg, ew_lc, iw_zip, ew_bin, q_rule0, q_rule1]
    refine ⟨(as ++ [lead]).map eR, bs.map eR, .inr ⟨rfl, rfl⟩, ?_⟩
    refine lc_nums h hq hm (fun a b ra rb => ?_) ?_
    · simp [wipeV, t_ratio_product hq rb (by omega), t_ratio_less ra (hq.mul rb) (by omega)]
    · simp only [g_name, ow_val, List.set_cons_succ, List.set_cons_zero]
      refine ⟨by rw [List.length_map, ln]; show _ ≤ 1000000; omega, hS⟩
  constructor
  · intro hz
    refine funVX_err ?_
    refine pre _ _ ?_ den_test_runX rfl
    simp [eL, ixl, eq_zeroR, hz]
  · intro w
    have w' : RunB (numsF (as ++ [lead]) bs q) as.length starts (gt (List.replicate L 0)) L := by rw [gt_rep0]; exact w
    have ro := t_run_on (as := as) (lead := lead) (bs := bs) hm hL (.inl rfl) w' (by simp)
    rw [gt_rep0] at ro
    constructor
    · refine funVX_ok ?_
      refine pre _ _ ?_ den_test_runX rfl
      have nz := w.nz
      simp only [sw_seq, sw_if, bw_tst, ew_bin, ew_var', ew_un, ew_c, List.getElem?_cons_succ, List.getElem?_cons_zero, vw_val, q_neg]
      rw [show eL (numsF (as ++ [lead]) bs q) = .lst ((numsF (as ++ [lead]) bs q).map eR) from rfl, ixl, eq_zeroR, decide_eq_false nz]
      refine ⟨false, rfl, ?_⟩
      simp [rep_zero hL, -List.map_append]
      unfold eL at ro
      rw [List.map_replicate] at ro
      simp only [eL, List.map_replicate]
      rw [ow_eq ro]
    · refine ow_of (funV_ow ?_)
      refine pre _ _ ?_ den_test_run rfl
      have nz := w.nz
      simp only [sw_seq, sw_if, bw_tst, ew_bin, ew_var', ew_un, ew_c, List.getElem?_cons_succ, List.getElem?_cons_zero, vw_val, q_neg]
      rw [show eL (numsF (as ++ [lead]) bs q) = .lst ((numsF (as ++ [lead]) bs q).map eR) from rfl, ixl, eq_zeroR, decide_eq_false nz]
      refine ⟨false, rfl, ?_⟩
      simp [rep_zero hL, -List.map_append]
      unfold eL at ro
      rw [List.map_replicate] at ro
      simp only [eL, List.map_replicate]
      rw [ow_eq ro]
theorem t_told_lost (h : RuleOk 200 as lead bs) (hq : Rb 200 q) (hL : L ≤ 60) (hs : starts.length = as.length) (hz : gt (numsF (as ++ [lead]) bs q) as.length = 0) : f_law_told [eRule as lead bs, eR q, eT starts, .int (L : Nat)] = some (.str "lost") := by
  have := (t_test h hq hL hs).1 hz
  refine ow_of (funV_ow ?_)
  have e1 : ∀ Q : Fl → Prop, SW (tryS 4 f_test_runX (consA (varE 0) (consA (varE 1) (consA (varE 2) (consA (varE 3) nilA)))) "LostStep" (asgS (cE (.str "lost")) (nameG 4))) .non [some (eRule as lead bs), some (eR q), some (eT starts), some (.int (L : Nat)), none] Q ↔ Q (.nx .non [some (eRule as lead bs), some (eR q), some (eT starts), some (.int (L : Nat)), some (.str "lost")]) := fun Q => by
    simp [SW, tryS, consA, varE, nilA, this, asgS, cE, nameG]
  unfold den_law_told
  rw [sw_seq]
  simp [e1]
theorem t_told_ok (h : RuleOk 200 as lead bs) (hq : Rb 200 q) (hL : L ≤ 60) (hs : starts.length = as.length) (w : RunB (numsF (as ++ [lead]) bs q) as.length starts (fun _ => 0) L) : f_law_told [eRule as lead bs, eR q, eT starts, .int (L : Nat)] = some (eT (runR (numsF (as ++ [lead]) bs q) as.length starts (fun _ => 0) L)) := by
  have := ((t_test h hq hL hs).2 w).1
  refine ow_of (funV_ow ?_)
  generalize eT (runR (numsF (as ++ [lead]) bs q) as.length starts (fun _ => 0) L) = d at *
  have e1 : ∀ Q : Fl → Prop, SW (tryS 4 f_test_runX (consA (varE 0) (consA (varE 1) (consA (varE 2) (consA (varE 3) nilA)))) "LostStep" (asgS (cE (.str "lost")) (nameG 4))) .non [some (eRule as lead bs), some (eR q), some (eT starts), some (.int (L : Nat)), none] Q ↔ Q (.nx .non [some (eRule as lead bs), some (eR q), some (eT starts), some (.int (L : Nat)), some d]) := fun Q => by
    simp [SW, tryS, consA, varE, nilA, this]
  unfold den_law_told
  rw [sw_seq]
  simp [e1]
end
end Dn
namespace Dn
open PySem PySem.Spec PyProof.Rows L2
def nq (m : Nat) : Rat := (((m : Nat) : Int) : Rat)
theorem nq_tup {m : Nat} : (.tup [.int (m : Nat), .int 1] : D) = eR (nq m) := int_eR
theorem nq_rb {m : Nat} (h : m ≤ 900) : Rb 32 (nq m) := by
  unfold nq
  constructor
  · rw [Rat.num_intCast]
    exact bt_of (i := ((m : Nat) : Int)) (by rw [Int.natAbs_natCast]; omega)
  · rw [Rat.den_intCast]
    exact bt_of (i := ((1 : Nat) : Int)) (by decide)
theorem runR_congr {nums found : List Rat} {k : Nat} {P P' : Nat → Rat} : ∀ n, (∀ i, i < n → P i = P' i) → runR nums k found P n = runR nums k found P' n
  | 0, _ => rfl
  | n + 1, h => by
    have ih := runR_congr (nums := nums) (found := found) (k := k) n fun i hi => h i (by omega)
    show runR nums k found P n ++ [_] = runR nums k found P' n ++ [_]
    rw [ih, h n (by omega)]
theorem RunB.congr {nums starts : List Rat} {k L : Nat} {P P' : Nat → Rat} (w : RunB nums k starts P L) (h : ∀ i, i < L → P i = P' i) : RunB nums k starts P' L :=
  ⟨w.nz, w.ln, w.ls, w.bn, fun i hi => by
    rw [← runR_congr i fun j hj => h j (by omega)]
    exact w.bv i hi, fun i hi j hj => by
    rw [← runR_congr i fun j hj => h j (by omega), ← h i hi]
    exact w.bp i hi j hj⟩
section
variable {as bs starts p : List Rat} {lead z : Rat} {L n : Nat}
def psh (bs p : List Rat) (z : Rat) (n j : Nat) : Rat := sm (fun t => gt bs t * hor (z * nq (n + t)) p) j
theorem t_push_of (h : RuleOk 200 as lead bs) (hz : Rb 100 z) (hn : n ≤ 60) (hh : ∀ m, m ≤ 80 → HorB p (z * nq m)) (hp : ∀ j, j ≤ as.length + 1 → Rb 2000 (psh bs p z n j)) :
    f_push_of [eRule as lead bs, eT p, eR z, .int (n : Nat)] = some (eR (z * psh bs p z n (as.length + 1))) := by
  refine ow_of (funV_ow ?_)
  have hl := h.len
  have hm := h.most
  unfold den_push_of
  refine sw_step (fun s ev => s = .non ∧ ev = [some (eRule as lead bs), some (eT p), some (eR z), some (.int (n : Nat)), some (eR 0), none, none, none]) ?_ ?_
  · simp [show (c_ZERO : D) = eR 0 from rfl]
  rintro s ev ⟨rfl, rfl⟩
  refine sw_step (fun s ev => s = .non ∧ ∃ a b c, ev = [some (eRule as lead bs), some (eT p), some (eR z), some (.int (n : Nat)), some (eR (psh bs p z n (as.length + 1))), a, b, c]) ?_ ?_
  · rw [sw_for]
    simp only [iw_enumA, ew_bin, ew_c, q_rule1, ew_var', List.getElem?_cons_succ, List.getElem?_cons_zero, vw_val]
    refine ⟨bs.map eR, .inr rfl, ?_⟩
    refine for_rule _ (fun i s ev => s = .non ∧ ∃ a b c, ev = [some (eRule as lead bs), some (eT p), some (eR z), some (.int (n : Nat)), some (eR (psh bs p z n i)), a, b, c]) 0 _ _ (fun i d s ev hd hi => ?_) ⟨rfl, none, none, none, rfl⟩ fun s ev hi => ?_
    · obtain ⟨rfl, a, b, c, rfl⟩ := hi
      obtain ⟨hi, rfl⟩ := enumL_gt hd
      rw [Nat.zero_add]
      have rn := nq_rb (m := n + i) (by omega)
      have rs := (hz.mul rn).mono (show 100 + 32 ≤ 200 by omega)
      have hb := hh (n + i) (by omega)
      have r1 := h.sb _ (gt_mem (l := bs) (i := i) (by omega))
      have r2 : Rb 500 (hor (z * nq (n + i)) p) := by simpa using hb.bh 0
      have r3 := hp i (by omega)
      have es : psh bs p z n (i + 1) = psh bs p z n i + gt bs i * hor (z * nq (n + i)) p := rfl
      have ec : (n : Int) + (i : Int) = ((n + i : Nat) : Int) := by omega
      rw [es]
      simp [Turned, ec, -Int.natCast_add, nq_tup, t_ratio_product hz rn (by omega), t_told_at hb, t_ratio_product r1 r2 (by omega), t_ratio_sum r3 (r1.mul r2) (by omega)]
    · obtain ⟨rfl, a, b, c, rfl⟩ := hi
      rw [enumL_length, List.length_map, Nat.zero_add, hl]
      exact ⟨rfl, _, _, _, rfl⟩
  rintro s ev ⟨rfl, a, b, c, rfl⟩
  simp [t_ratio_product hz (hp _ (Nat.le_refl _)) (by omega)]
theorem t_slope_run (h : RuleOk 200 as lead bs) (hz : Rb 100 z) (z0 : 0 < z) (hL : L ≤ 60) (hs : starts.length = as.length) (hp9 : p.length ≤ 100) (hp : p = [] ∨ ∃ p' z, p = p' ++ [z] ∧ z ≠ 0)
    (hh : ∀ m, m ≤ 80 → HorB p (z * nq m)) (hb : ∀ i, i < L → ∀ j, j ≤ as.length + 1 → Rb 2000 (psh bs p z i j)) (w : RunB (as ++ [lead]) as.length starts (fun i => z * psh bs p z i (as.length + 1)) L) :
    f_slope_run [eRule as lead bs, eT p, eR z, eT starts, .int (L : Nat)] = some (eT (runR (as ++ [lead]) as.length starts (fun i => z * psh bs p z i (as.length + 1)) L)) := by
  refine ow_of (funV_ow ?_)
  have hl := h.len
  have hm := h.most
  have c1 := t_check_rule h
  have c2 := t_check_polynomial hp9 hp
  have c3 := t_check_size z0
  have c4 := t_check_starts (as := as) (lead := lead) (bs := bs) hs (by omega)
  have c5 := t_check_number hL
  have hg : ∀ i, i < L → (fun i => z * psh bs p z i (as.length + 1)) i = gt ((List.range L).map fun i => z * psh bs p z i (as.length + 1)) i := fun i hi => by rw [gt_range hi]
  have w' := w.congr hg
  have ro := t_run_on (as := as) (lead := lead) (bs := bs) (pushes := (List.range L).map fun i => z * psh bs p z i (as.length + 1)) hm hL (.inr rfl) w' (by simp)
  rw [← runR_congr L hg] at ro
  unfold den_slope_run
  simp only [sw_seq, sw_drop, ew_call, aw_cons, aw_nil, ew_var', ew_c, List.getElem?_cons_succ, List.getElem?_cons_zero, vw_val, c1, c2, c3, c4, c5, ow_val, env0_def, List.map_cons, List.map_nil, List.cons_append, sw_asg, ew_lc, iw_rng1]
  refine ⟨(L : Nat), rfl, by omega, by omega, ?_⟩
  rw [Int.toNat_natCast]
  refine lc_rule (upTo 0 L) (fun i s acc => s = .non ∧ acc = (List.range i).map fun n => eR (z * psh bs p z n (as.length + 1))) 0 _ [] (fun i d s acc hd hi => ?_) ⟨rfl, rfl⟩ fun s xs hi => ?_
  · obtain ⟨rfl, rfl⟩ := hi
    obtain ⟨hil, rfl⟩ := upTo_at hd
    rw [Nat.zero_add]
    simp [wipeV, t_push_of h hz (show i ≤ 60 by omega) hh (hb i hil), List.range_succ]
  · obtain ⟨rfl, hx⟩ := hi
    rw [List.nil_append, upTo_length, Nat.zero_add] at hx
    subst hx
    refine ⟨by simp; omega, ?_⟩
    simp [q_rule0, -List.map_append]
    have e : (List.range L).map (fun n => eR (z * psh bs p z n (as.length + 1))) = ((List.range L).map fun i => z * psh bs p z i (as.length + 1)).map eR := by simp
    rw [e]
    unfold eL at ro
    rw [ow_eq ro]
end
end Dn
namespace Dn
open PySem PySem.Spec PyProof.Rows L2
theorem quot_of {N C : Nat} {y : Rat} (h0 : 0 < N) (hy : Gd N C y) (nz : y ≠ 0) : ∃ Y, 0 < Y ∧ Y ≤ C ∧ ∀ x C', Gd N C' x → Gd Y C' (x / y) := by
  obtain ⟨kl, el, cl⟩ := hy
  have hM : (N : Rat) ≠ 0 := fun z => by
    have := Rat.natCast_eq_zero_iff.mp z
    omega
  have hkl : kl ≠ 0 := fun z => by
    rw [z] at el
    rcases Rat.mul_eq_zero.mp el with q | q
    · exact nz q
    · exact hM q
  refine ⟨kl.natAbs, by omega, cl, fun x C' hx => ?_⟩
  obtain ⟨kx, ex, cx⟩ := hx
  have hq : (kl : Rat) ≠ 0 := fun z => hkl (Rat.intCast_eq_zero_iff.mp z)
  have e1 : x / y * (kl : Rat) = (kx : Rat) := by
    rw [← el, ← ex]
    grind
  rcases Int.natAbs_eq kl with h1 | h1
  · refine ⟨kx, ?_, cx⟩
    rw [← e1]
    congr 1
    rw [h1, Int.natAbs_natCast, Rat.intCast_natCast]
  · refine ⟨-kx, ?_, by rwa [Int.natAbs_neg]⟩
    have : ((kl.natAbs : Nat) : Rat) = -(kl : Rat) := by
      rw [← Rat.intCast_natCast, ← Rat.intCast_neg]
      congr 1
      omega
    rw [this, Rat.intCast_neg, ← e1]
    grind
theorem pow8 {Y A i : Nat} (h : Y ≤ 2 ^ A) (hi : i ≤ 8) : Y ^ i ≤ 2 ^ (A * 8) := by
  refine Nat.le_trans (Nat.pow_le_pow_left h i) ?_
  rw [← Nat.pow_mul]
  exact Nat.pow_le_pow_right (by decide) (Nat.mul_le_mul_left _ hi)
section
variable {as bs starts : List Rat} {lead q : Rat} {L : Nat}
theorem test_bounds (hg : RuleG as lead bs) (h4 : as.length ≤ 4) (hq : Gd 6 24 q) (hL : L ≤ 8) (ls : starts.length = as.length) (hs : ∀ x ∈ starts, Gd 6 24 x) (nz : gt (numsF (as ++ [lead]) bs q) as.length ≠ 0) :
    RunB (numsF (as ++ [lead]) bs q) as.length starts (fun _ => 0) L := by
  have hl := hg.len
  obtain ⟨M, w⟩ := hg.rows
  have ln : (numsF (as ++ [lead]) bs q).length = as.length + 1 := by simp [numsF, hl]
  have gn : ∀ x ∈ numsF (as ++ [lead]) bs q, Gd (M * 6) (2 ^ 135) x := fun x hx => by
    obtain ⟨p, hp, rfl⟩ := List.mem_map.mp hx
    have hz := zip_mem hp
    have g1 := (w.ga _ hz.1).up 6
    have g2 := hq.mul (w.gb _ hz.2)
    rw [Nat.mul_comm] at g2
    exact (g1.sub g2).mono (by decide)
  have h0 := w.h0
  have hM := w.hM
  have g0 : 0 < M * 6 := by omega
  have gM : M * 6 ≤ 2 ^ 193 := Nat.le_trans (Nat.mul_le_mul_right 6 (Nat.le_of_lt hM)) (by decide)
  obtain ⟨Y, y0, y1, hy⟩ := quot_of g0 (gn _ (gt_mem (by omega))) nz
  have gv := run_gd (nums := numsF (as ++ [lead]) bs q) (starts := starts) (k := as.length) (S := 6) (T := 24) (Y := Y) (A := 2 ^ 135) (B := 2 ^ 138) (D := 0) (U := 0) (P := fun _ => 0) ls
    (Nat.le_trans y1 (by decide)) (Nat.le_trans (by rw [Nat.add_zero]; exact Nat.mul_le_mul_right _ h4) (by decide)) (Nat.zero_le _)
    (fun j hj => hy _ _ (gn _ (gt_mem (by omega)))) (fun i => ⟨0, by simp [Rat.div_def], by simp⟩) hs
  have dn : ∀ i, i ≤ L → 6 * Y ^ i ≤ 6 * 2 ^ (135 * 8) := fun i hi => Nat.mul_le_mul_left _ (pow8 y1 (by omega))
  have cn : ∀ i, i ≤ L → 24 * (2 ^ 138) ^ i ≤ 24 * 2 ^ (138 * 8) := fun i hi => Nat.mul_le_mul_left _ (pow8 (Nat.le_refl _) (by omega))
  refine ⟨nz, ln, ls, fun x hx => (gn x hx).rb g0 (Nat.lt_of_le_of_lt gM (by decide)) (by decide), fun i hi x hx => ?_, fun i hi j hj => ?_⟩
  · refine ((gv i x hx).mono (cn i hi)).rb (Nat.mul_pos (by decide) (Nat.pow_pos y0)) (Nat.lt_of_le_of_lt (dn i hi) ?_) ?_
    · decide +kernel
    · decide +kernel
  · have gs := sm_gd (N := M * 6 * (6 * Y ^ i)) (K := 2 ^ 135 * (24 * 2 ^ (138 * 8))) (f := fun t => gt (numsF (as ++ [lead]) bs q) t * gt (runR (numsF (as ++ [lead]) bs q) as.length starts (fun _ => 0) i) (i + t)) j fun t ht =>
      (gn _ (gt_mem (by omega))).mul ((gv i _ (gt_mem (by rw [runR_len]; omega))).mono (cn i (by omega)))
    have e : (0 : Rat) - sm (fun t => gt (numsF (as ++ [lead]) bs q) t * gt (runR (numsF (as ++ [lead]) bs q) as.length starts (fun _ => 0) i) (i + t)) j = -sm (fun t => gt (numsF (as ++ [lead]) bs q) t * gt (runR (numsF (as ++ [lead]) bs q) as.length starts (fun _ => 0) i) (i + t)) j := by grind
    show Rb 2500 ((0 : Rat) - _)
    rw [e]
    have hj4 : j ≤ 4 := by omega
    refine (gs.neg.mono (Nat.mul_le_mul_right _ hj4)).rb (Nat.mul_pos g0 (Nat.mul_pos (by decide) (Nat.pow_pos y0))) (Nat.lt_of_le_of_lt (Nat.mul_le_mul gM (dn i (by omega))) ?_) ?_
    · decide +kernel
    · decide +kernel
end
end Dn
namespace Dn
open PySem PySem.Spec PyProof.Rows L2
theorem hor_gd {t : Rat} (ht : Gd 6 2400 t) : ∀ (l : List Rat), (∀ c ∈ l, Gd 6 96 c) → ∀ n, l.length ≤ n → Gd (6 ^ n) (5000 ^ n) (hor t l)
  | [], _, n, _ => ⟨0, by simp [hor], by simp⟩
  | c :: cs, h, 0, hn => by simp at hn
  | c :: cs, h, n + 1, hn => by
    have ih := (hor_gd ht cs (fun x hx => h x (by simp [hx])) n (by simpa using hn)).mul ht
    have g := (h c (by simp)).up (6 ^ n)
    rw [Nat.mul_comm 6, ← Nat.pow_succ] at g
    rw [← Nat.pow_succ] at ih
    refine (ih.add g).mono ?_
    have : 6 ^ n ≤ 5000 ^ n := Nat.pow_le_pow_left (by decide) n
    rw [Nat.pow_succ]
    omega
theorem nq_gd {m : Nat} (h : m ≤ 80) : Gd 1 80 (nq m) := Gd.int _ (by rw [Int.natAbs_natCast]; exact h)
theorem t_gd {z : Rat} {m : Nat} (hz : Gd 6 30 z) (h : m ≤ 80) : Gd 6 2400 (z * nq m) := hz.mul (nq_gd h)
theorem hor_b {z : Rat} {p : List Rat} {m n : Nat} (hz : Gd 6 30 z) (h : m ≤ 80) (hp : ∀ c ∈ p, Gd 6 96 c) (hn : p.length ≤ n) (h5 : n ≤ 5) : HorB p (z * nq m) := by
  refine ⟨(t_gd hz h).rb (by decide) (by decide) (by decide), fun c hc => (hp c hc).rb (by decide) (by decide) (by decide), fun i => ?_⟩
  refine (hor_gd (t_gd hz h) (p.drop i) (fun c hc => hp c (List.mem_of_mem_drop hc)) n (by rw [List.length_drop]; omega)).rb (Nat.pow_pos (by decide)) ?_ ?_
  · exact Nat.lt_of_le_of_lt (Nat.pow_le_pow_right (by decide) h5) (by decide +kernel)
  · exact Nat.lt_of_le_of_lt (Nat.pow_le_pow_right (by decide) h5) (by decide +kernel)
section
variable {as bs starts p : List Rat} {lead z : Rat} {L : Nat}
/-- the slopes at each place -/
def slpL (p : List Rat) (z : Rat) (n : Nat) : List Rat := (List.range n).map fun m => z * hor (z * nq m) p
theorem slope_bounds (hg : RuleG as lead bs) (h4 : as.length ≤ 4) (hz : Gd 6 30 z) (hp : ∀ c ∈ p, Gd 6 96 c) (p4 : p.length ≤ 4) (hL : L ≤ 8) (ls : starts.length = as.length) (hs : ∀ x ∈ starts, Gd (6 ^ 5) (5000 ^ 5) x) :
    (∀ i, i < L → ∀ j, j ≤ as.length + 1 → Rb 2000 (psh bs p z i j)) ∧ RunB (as ++ [lead]) as.length starts (fun i => z * psh bs p z i (as.length + 1)) L ∧
    (∀ i, i < L → ∀ j, j ≤ as.length + 1 → Rb 2500 (z * psh bs p z i j - sm (fun t => gt (as ++ [lead]) t * gt (runR (as ++ [lead]) as.length starts (fun i => z * psh bs p z i (as.length + 1)) i) (i + t)) (min j as.length))) := by
  have hl := hg.len
  obtain ⟨M, w⟩ := hg.rows
  have h0 := w.h0
  have hM := Nat.le_of_lt w.hM
  have lA : (as ++ [lead]).length = as.length + 1 := by simp
  have lk : gt (as ++ [lead]) as.length = lead := by unfold gt; simp
  have gh : ∀ i t, i < L → t ≤ as.length → Gd (6 ^ 4) (5000 ^ 4) (hor (z * nq (i + t)) p) := fun i t hi ht => hor_gd (t_gd hz (by omega)) p hp 4 p4
  have gp : ∀ i, i < L → ∀ j, j ≤ as.length + 1 → Gd (M * 6 ^ 4) (5 * (2 ^ 130 * 5000 ^ 4)) (psh bs p z i j) := fun i hi j hj => by
    have := sm_gd (N := M * 6 ^ 4) (K := 2 ^ 130 * 5000 ^ 4) (f := fun t => gt bs t * hor (z * nq (i + t)) p) j fun t ht => (gd_gt w.gb t).mul (gh i t hi (by omega))
    exact this.mono (Nat.mul_le_mul_right _ (by omega))
  have gP : ∀ i, i < L → ∀ j, j ≤ as.length + 1 → Gd (M * 6 ^ 5) (30 * (5 * (2 ^ 130 * 5000 ^ 4))) (z * psh bs p z i j) := fun i hi j hj => by
    have := hz.mul (gp i hi j hj)
    rw [show 6 * (M * 6 ^ 4) = M * 6 ^ 5 by omega] at this
    exact this
  obtain ⟨Y, y0, y1, hy⟩ := quot_of h0 (w.ga lead (by simp)) hg.nz
  have hM5 : M * 6 ^ 5 ≤ 2 ^ 190 * 6 ^ 5 := Nat.mul_le_mul_right _ hM
  -- the pushes beyond the run are set to 0
  have gq : ∀ i, Gd (6 ^ 5 * Y) (30 * (5 * (2 ^ 130 * 5000 ^ 4))) ((if i < L then z * psh bs p z i (as.length + 1) else 0) / gt (as ++ [lead]) as.length) := fun i => by
    rw [lk]
    by_cases hi : i < L
    · rw [if_pos hi]
      have e : z * psh bs p z i (as.length + 1) / lead = z * sm (fun t => gt bs t / lead * hor (z * nq (i + t)) p) (as.length + 1) := by
        have : psh bs p z i (as.length + 1) / lead = sm (fun t => gt bs t / lead * hor (z * nq (i + t)) p) (as.length + 1) := by
          have e1 : psh bs p z i (as.length + 1) / lead = (1 / lead) * psh bs p z i (as.length + 1) := by grind
          rw [e1]
          unfold psh
          rw [← sm_mul]
          exact sm_congr _ fun t _ => by grind
        rw [← this]
        grind
      rw [e]
      have g := sm_gd (N := Y * 6 ^ 4) (K := 2 ^ 130 * 5000 ^ 4) (f := fun t => gt bs t / lead * hor (z * nq (i + t)) p) (as.length + 1) fun t ht => (hy _ _ (gd_gt w.gb t)).mul (gh i t hi (by omega))
      have g2 := hz.mul (g.mono (Nat.mul_le_mul_right _ (show as.length + 1 ≤ 5 by omega)))
      rw [show 6 * (Y * 6 ^ 4) = 6 ^ 5 * Y by omega] at g2
      exact g2
    · rw [if_neg hi]
      exact ⟨0, by simp [Rat.div_def], by simp⟩
  have gv := run_gd (nums := as ++ [lead]) (starts := starts) (k := as.length) (S := 6 ^ 5) (T := 5000 ^ 5) (Y := Y) (A := 2 ^ 130) (B := 2 ^ 134) (D := 2 ^ 130) (U := 30 * (5 * (2 ^ 130 * 5000 ^ 4))) (P := fun i => if i < L then z * psh bs p z i (as.length + 1) else 0) ls
    (Nat.le_trans y1 (by decide)) (Nat.le_trans (Nat.add_le_add_right (Nat.mul_le_mul_right _ h4) _) (by decide)) (by decide)
    (fun j hj => by rw [lk]; exact hy _ _ (w.ga _ (gt_mem (by omega)))) gq hs
  have cg : ∀ i, i ≤ L → runR (as ++ [lead]) as.length starts (fun i => if i < L then z * psh bs p z i (as.length + 1) else 0) i = runR (as ++ [lead]) as.length starts (fun i => z * psh bs p z i (as.length + 1)) i := fun i hi => runR_congr i fun j hj => if_pos (by omega)
  have dn : ∀ i, i ≤ L → 6 ^ 5 * Y ^ i ≤ 6 ^ 5 * 2 ^ (130 * 8) := fun i hi => Nat.mul_le_mul_left _ (pow8 y1 (by omega))
  have cn : ∀ i, i ≤ L → 5000 ^ 5 * (2 ^ 134) ^ i ≤ 5000 ^ 5 * 2 ^ (134 * 8) := fun i hi => Nat.mul_le_mul_left _ (pow8 (Nat.le_refl _) (by omega))
  have gV : ∀ i, i ≤ L → ∀ x ∈ runR (as ++ [lead]) as.length starts (fun i => z * psh bs p z i (as.length + 1)) i, Gd (6 ^ 5 * Y ^ i) (5000 ^ 5 * 2 ^ (134 * 8)) x := fun i hi x hx => by
    rw [← cg i hi] at hx
    exact (gv i x hx).mono (cn i hi)
  -- a partial sum
  have part : ∀ i, i < L → ∀ j, j ≤ as.length + 1 → ∀ j', j' ≤ as.length → Rb 2500 (z * psh bs p z i j - sm (fun t => gt (as ++ [lead]) t * gt (runR (as ++ [lead]) as.length starts (fun i => z * psh bs p z i (as.length + 1)) i) (i + t)) j') := fun i hi j hj j' hj' => by
    have g1 := (gP i hi j hj).up (Y ^ i)
    have g2 := sm_gd (N := M * (6 ^ 5 * Y ^ i)) (K := 2 ^ 130 * (5000 ^ 5 * 2 ^ (134 * 8))) (f := fun t => gt (as ++ [lead]) t * gt (runR (as ++ [lead]) as.length starts (fun i => z * psh bs p z i (as.length + 1)) i) (i + t)) j' fun t ht =>
      (w.ga _ (gt_mem (by omega))).mul (gV i (by omega) _ (gt_mem (by rw [runR_len]; omega)))
    rw [Nat.mul_assoc] at g1
    refine ((g1.mono (Nat.mul_le_mul_left _ (pow8 y1 (show i ≤ 8 by omega)))).sub (g2.mono (Nat.mul_le_mul_right _ (show j' ≤ 4 by omega)))).rb (Nat.mul_pos h0 (Nat.mul_pos (by decide) (Nat.pow_pos y0))) (Nat.lt_of_le_of_lt (Nat.mul_le_mul hM (dn i (by omega))) ?_) ?_
    · decide +kernel
    · decide +kernel
  refine ⟨fun i hi j hj => ?_, ⟨by rw [lk]; exact hg.nz, lA, ls, fun x hx => (w.ga x hx).rb h0 (Nat.lt_of_le_of_lt hM (by decide)) (by decide), fun i hi x hx => ?_, fun i hi j hj => part i hi _ (Nat.le_refl _) j hj⟩, fun i hi j hj => part i hi j hj _ (by omega)⟩
  · refine (gp i hi j hj).rb (Nat.mul_pos h0 (by decide)) (Nat.lt_of_le_of_lt (Nat.mul_le_mul_right _ hM) ?_) ?_
    · decide +kernel
    · decide +kernel
  · refine (gV i hi x hx).rb (Nat.mul_pos (by decide) (Nat.pow_pos y0)) (Nat.lt_of_le_of_lt (dn i hi) ?_) ?_
    · decide +kernel
    · decide +kernel
end
end Dn
namespace Dn
open PySem PySem.Spec PyProof.Rows L2
/-! ### a run on a polynomial -/
def wts : Nat → List Rat → List Rat
  | _, [] => []
  | j, c :: cs => nq j * c :: wts (j + 1) cs
theorem wts_succ {t : Rat} : ∀ (l : List Rat) (j : Nat), hor t (wts (j + 1) l) = hor t (wts j l) + hor t l
  | [], j => by show (0 : Rat) = 0 + 0; grind
  | c :: cs, j => by
    have ih := wts_succ (t := t) cs (j + 1)
    have e : nq (j + 1) = nq j + 1 := by
      unfold nq
      rw [Int.natCast_add, Rat.intCast_add]
      rfl
    show hor t (wts (j + 1 + 1) cs) * t + nq (j + 1) * c = (hor t (wts (j + 1) cs) * t + nq j * c) + (hor t cs * t + c)
    rw [ih, e]
    grind
/-- the slope's numbers -/
def derL (l : List Rat) : List Rat := wts 1 l.tail
theorem der_cons {t c : Rat} {cs : List Rat} : hor t (derL (c :: cs)) = hor t cs + t * hor t (derL cs) := by
  have h0 : nq 0 = 0 := rfl
  show hor t (wts 1 cs) = _
  rw [wts_succ cs 0]
  cases cs with
  | nil => simp [wts, hor, derL]
  | cons a as =>
    show (hor t (wts 1 as) * t + nq 0 * a) + hor t (a :: as) = hor t (a :: as) + t * hor t (wts 1 as)
    rw [h0]
    grind
theorem Pl.smul {n : Nat} {f g : Rat → Rat} (z : Rat) (h : Pl n f g) : Pl n (fun x => z * f x) (fun x => z * g x) := by
  induction h with
  | mon i hi c =>
    have p := Pl.mon (n := _) i hi (z * c)
    have e1 : (fun x : Rat => z * c * x ^ i) = fun x => z * (c * x ^ i) := by funext x; grind
    have e2 : (fun x : Rat => z * c * ((i : Rat) * x ^ (i - 1))) = fun x => z * (c * ((i : Rat) * x ^ (i - 1))) := by funext x; grind
    rw [e1, e2] at p
    exact p
  | add _ _ h1 h2 =>
    rename_i f g f' g' _ _
    have p := Pl.add h1 h2
    have e1 : (fun x : Rat => z * f x + z * f' x) = fun x => z * (f x + f' x) := by funext x; grind
    have e2 : (fun x : Rat => z * g x + z * g' x) = fun x => z * (g x + g' x) := by funext x; grind
    rw [e1, e2] at p
    exact p
theorem Pl.cst {n : Nat} (c : Rat) : Pl n (fun _ => c) (fun _ => 0) := by
  have p := Pl.mon (n := n) 0 (by omega) c
  have e1 : (fun x : Rat => c * x ^ 0) = fun _ => c := by funext x; simp
  have e2 : (fun x : Rat => c * (((0 : Nat) : Rat) * x ^ (0 - 1))) = fun _ => (0 : Rat) := by
    funext x
    have : ((0 : Nat) : Rat) = 0 := rfl
    rw [this]
    grind
  rw [e1, e2] at p
  exact p
theorem hor_pl {z N : Rat} : ∀ (l : List Rat) (n : Nat), l.length ≤ n + 1 → Pl n (fun x => hor (z * (N + x)) l) (fun x => z * hor (z * (N + x)) (derL l))
  | [], n, _ => by
    have p := Pl.cst (n := n) 0
    have e2 : (fun x : Rat => z * hor (z * (N + x)) (derL [])) = fun _ => 0 := by funext x; simp [derL, wts, hor]
    rw [e2]
    exact p
  | [c], n, _ => by
    have p := Pl.cst (n := n) c
    have e1 : (fun x : Rat => hor (z * (N + x)) [c]) = fun _ => c := by funext x; simp only [hor]; grind
    have e2 : (fun x : Rat => z * hor (z * (N + x)) (derL [c])) = fun _ => 0 := by funext x; simp [derL, wts, hor]
    rw [e1, e2]
    exact p
  | c :: d :: cs, 0, h => by simp at h
  | c :: d :: cs, n + 1, h => by
    have ih := hor_pl (z := z) (N := N) (d :: cs) n (by simpa using h)
    have p := Pl.add (Pl.smul z (Pl.mulX (-N) ih)) (Pl.cst (n := n + 1) c)
    have e1 : (fun x : Rat => z * ((x - -N) * hor (z * (N + x)) (d :: cs)) + c) = fun x => hor (z * (N + x)) (c :: d :: cs) := by
      funext x
      show _ = hor (z * (N + x)) (d :: cs) * (z * (N + x)) + c
      generalize hor (z * (N + x)) (d :: cs) = y
      grind
    have e2 : (fun x : Rat => z * (hor (z * (N + x)) (d :: cs) + (x - -N) * (z * hor (z * (N + x)) (derL (d :: cs)))) + 0) = fun x => z * hor (z * (N + x)) (derL (c :: d :: cs)) := by
      funext x
      have e := der_cons (t := z * (N + x)) (c := c) (cs := d :: cs)
      rw [e]
      generalize hor (z * (N + x)) (d :: cs) = y
      generalize hor (z * (N + x)) (derL (d :: cs)) = u
      clear p e1 ih e
      grind
    rw [e1, e2] at p
    exact p
section
variable {as bs c : List Rat} {lead z : Rat} {L n : Nat}
/-- a rule of an order d or more is exact for polynomials of a degree up to d -/
theorem exact_on (hl : bs.length = as.length + 1) (hz : ∀ i, i < c.length → lm (gt (as ++ [lead])) (gt bs) (as.length + 1) i = 0) (hc : c ≠ []) (N : Nat) :
    sm (fun j => gt (as ++ [lead]) j * hor (z * nq (N + j)) c) (as.length + 1) = z * psh bs (derL c) z N (as.length + 1) := by
  have h0 : 0 < c.length := List.length_pos_iff.mpr hc
  have p := hor_pl (z := z) (N := nq N) c (c.length - 1) (by omega)
  have q := lin_zero (a := gt (as ++ [lead])) (b := gt bs) (K := as.length + 1) p fun i hi => hz i (by omega)
  have en : ∀ j : Nat, nq N + (j : Rat) = nq (N + j) := fun j => by
    unfold nq
    rw [Int.natCast_add, Rat.intCast_add]
    rfl
  have e : lin (gt (as ++ [lead])) (gt bs) (fun x => hor (z * (nq N + x)) c) (fun x => z * hor (z * (nq N + x)) (derL c)) (as.length + 1) = sm (fun j => gt (as ++ [lead]) j * hor (z * nq (N + j)) c) (as.length + 1) + -z * psh bs (derL c) z N (as.length + 1) := by
    unfold lin psh
    rw [← sm_mul, ← sm_add]
    refine sm_congr _ fun j _ => ?_
    show gt (as ++ [lead]) j * hor (z * (nq N + (j : Rat))) c - gt bs j * (z * hor (z * (nq N + (j : Rat))) (derL c)) = _
    rw [en j]
    grind
  rw [e] at q
  grind
theorem run_worths (nz : lead ≠ 0) (hl : bs.length = as.length + 1) (hz : ∀ i, i < c.length → lm (gt (as ++ [lead])) (gt bs) (as.length + 1) i = 0) (hc : c ≠ []) : ∀ i,
    runR (as ++ [lead]) as.length ((List.range as.length).map fun m => hor (z * nq m) c) (fun i => z * psh bs (derL c) z i (as.length + 1)) i = (List.range (as.length + i)).map fun m => hor (z * nq m) c
  | 0 => rfl
  | i + 1 => by
    have ih := run_worths nz hl hz hc i
    have lk : gt (as ++ [lead]) as.length = lead := by unfold gt; simp
    have ex := exact_on (z := z) hl hz hc i
    show runR (as ++ [lead]) as.length _ _ i ++ [stepR (as ++ [lead]) as.length (runR (as ++ [lead]) as.length _ _ i) i _] = _
    rw [ih, show as.length + (i + 1) = as.length + i + 1 by omega, List.range_succ, List.map_append]
    congr 1
    show [_] = [hor (z * nq (as.length + i)) c]
    congr 1
    unfold stepR
    rw [lk]
    have e : sm (fun j => gt (as ++ [lead]) j * gt ((List.range (as.length + i)).map fun m => hor (z * nq m) c) (i + j)) as.length = sm (fun j => gt (as ++ [lead]) j * hor (z * nq (i + j)) c) as.length := sm_congr _ fun j hj => by rw [gt_range (by omega)]
    rw [e]
    have e2 : sm (fun j => gt (as ++ [lead]) j * hor (z * nq (i + j)) c) (as.length + 1) = sm (fun j => gt (as ++ [lead]) j * hor (z * nq (i + j)) c) as.length + lead * hor (z * nq (as.length + i)) c := by
      show sm _ as.length + gt (as ++ [lead]) as.length * hor (z * nq (i + as.length)) c = _
      rw [lk, Nat.add_comm i]
    rw [e2] at ex
    show (z * psh bs (derL c) z i (as.length + 1) - _) / lead = _
    rw [← ex]
    grind
end
end Dn
namespace Dn
open PySem PySem.Spec PyProof.Rows L2
theorem ShG.okT {n B : Nat} {ds : List D} (h : ShG n B (.tup ds)) (hn : n ≤ 30) (hB : B ≤ 510) : okS (.tup ds) = true := by
  have hs := PyData.shown_le_bulk 1921 (by decide) _ h.l
  have hbk := Nat.le_trans h.b hB
  have h3 : (1921 + 2) * (toP (.tup ds)).bulk ≤ (1921 + 2) * 510 := Nat.mul_le_mul_left _ hbk
  have hz : (toP (.tup ds)).shown.length ≤ SZ := by show _ ≤ 1000000; omega
  have hp := Nat.le_trans h.p hn
  simp only [okS, isSq, Bool.and_eq_true, Bool.not_eq_true', decide_eq_true_eq, Bool.true_and]
  exact ⟨⟨⟨h.s, h.h⟩, hp⟩, hz⟩
theorem sh_eR {q : Rat} (h : Rb 1800 q) : ShG 1 2 (eR q) := by
  have := ShG.tup (n := 0) (B := 0) (ds := [.int q.num, .int q.den]) fun d hd => by
    simp only [List.mem_cons, List.not_mem_nil, or_false] at hd
    rcases hd with rfl | rfl
    · exact ShG.int (h.1.mono (by omega))
    · exact ShG.int (h.2.mono (by omega))
  exact this
theorem sh_eT {l : List Rat} (h : ∀ q ∈ l, Rb 1800 q) (hl : l.length ≤ 20) : ShG 2 60 (eT l) := by
  have := ShG.tup (n := 1) (B := 2) (ds := l.map eR) fun d hd => by
    obtain ⟨q, hq, rfl⟩ := List.mem_map.mp hd
    exact sh_eR (h q hq)
  rw [List.length_map] at this
  exact this.mono (Nat.le_refl _) (by omega)
/-- two texts of one row -/
theorem repr_eT {l : List Rat} (h : ∀ q ∈ l, Rb 1800 q) (hl : l.length ≤ 20) : ∃ x, ∀ Q : D → Prop, OW (reprQ (eT l)) Q ↔ Q (.str x) := by
  have : okS (eT l) = true := (sh_eT h hl).okT (by omega) (by omega)
  exact ⟨_, fun Q => ow_eq (by unfold reprQ; rw [if_pos this])⟩
theorem repr_lost : ∃ x, ∀ Q : D → Prop, OW (reprQ (.str "lost")) Q ↔ Q (.str x) := by
  refine ⟨reprText "lost", fun Q => ow_eq ?_⟩
  have h1 : okS (.str "lost") = false := rfl
  have h2 : (reprText ("lost" : Str)).length ≤ 1000000 := by decide +kernel
  unfold reprQ reprS
  rw [if_neg (by rw [h1]; decide)]
  exact if_pos h2
theorem neS_same {x : Str} {Q : D → Prop} : OW (neS (.str x) (.str x)) Q ↔ Q (.bl false) := by simp [neS]
theorem eqS_same {x : Str} {Q : D → Prop} : OW (eqS (.str x) (.str x)) Q ↔ Q (.bl true) := by simp [eqS]
section
variable {as bs : List Rat} {lead : Rat}
theorem len_eT {l : List Rat} {Q : D → Prop} : OW (lenQ (eT l)) Q ↔ Q (.int (l.length : Nat)) := by simp [eT]
theorem bs_last (hl : bs.length = as.length + 1) {Q : D → Prop} : OW (ixQ (eT bs) (.int (-1))) Q ↔ Q (eR (gt bs as.length)) := by
  have hne : bs ≠ [] := fun z => by rw [z] at hl; simp at hl
  rw [show gt bs as.length = lastR bs from ?_]
  · exact ix_last hne
  · have e := split_last hne
    have e2 : bs.dropLast.length = as.length := by simp [hl]
    generalize lastR bs = x at *
    rw [e, ← e2]
    unfold gt
    simp
theorem a_last {Q : D → Prop} : OW (ixQ (eT (as ++ [lead])) (.int (-1))) Q ↔ Q (eR lead) := by rw [eT_app]; exact at_last
end
end Dn
namespace Dn
open PySem PySem.Spec PyProof.Rows L2
theorem wts_range : ∀ (l : List Rat) (j : Nat), wts j l = (List.range l.length).map fun i => nq (j + i) * gt l i
  | [], _ => rfl
  | c :: cs, j => by
    rw [List.length_cons, List.range_succ_eq_map, List.map_cons, List.map_map]
    show nq j * c :: wts (j + 1) cs = _
    rw [wts_range cs (j + 1)]
    congr 1
    refine List.map_congr_left fun i _ => ?_
    show nq (j + 1 + i) * gt cs i = nq (j + (i + 1)) * gt (c :: cs) (i + 1)
    rw [show j + 1 + i = j + (i + 1) by omega]
    rfl
theorem der_range {c : List Rat} : ((List.range c.length).map fun j => nq j * gt c j).drop 1 = derL c := by
  cases c with
  | nil => rfl
  | cons a cs =>
    show _ = wts 1 cs
    rw [wts_range, List.length_cons, List.range_succ_eq_map, List.map_cons, List.drop_succ_cons, List.drop_zero, List.map_map]
    refine List.map_congr_left fun i _ => ?_
    show nq (i + 1) * gt (a :: cs) (i + 1) = nq (1 + i) * gt cs i
    rw [Nat.add_comm 1]
    rfl
theorem der_len {c : List Rat} : (derL c).length = c.length - 1 := by
  rw [← der_range]
  simp
theorem der_last {rs : List Rat} {x : Rat} (hx : x ≠ 0) : derL (rs ++ [x]) = [] ∨ ∃ p' y, derL (rs ++ [x]) = p' ++ [y] ∧ y ≠ 0 := by
  cases rs with
  | nil => exact .inl rfl
  | cons a rs =>
    right
    refine ⟨(List.range rs.length).map fun i => nq (1 + i) * gt (rs ++ [x]) i, nq (1 + rs.length) * x, ?_, ?_⟩
    · show wts 1 (rs ++ [x]) = _
      rw [wts_range, List.length_append, List.length_singleton, List.range_succ, List.map_append]
      congr 1
      show [nq (1 + rs.length) * gt (rs ++ [x]) rs.length] = _
      congr 2
      unfold gt
      simp
    · intro z
      rcases Rat.mul_eq_zero.mp z with z | z
      · unfold nq at z
        have := Rat.intCast_eq_zero_iff.mp z
        omega
      · exact hx z
theorem der_gd {c : List Rat} (h : ∀ x ∈ c, Gd 6 24 x) (hl : c.length ≤ 5) : ∀ x ∈ derL c, Gd 6 96 x := by
  rw [← der_range]
  intro x hx
  obtain ⟨j, hj, rfl⟩ := List.mem_map.mp (List.mem_of_mem_drop hx)
  have hj' := List.mem_range.mp hj
  have g : Gd 1 4 (nq j) := Gd.int _ (by rw [Int.natAbs_natCast]; omega)
  exact g.mul (gd_gt h j)
section
variable {as bs p starts : List Rat} {lead z : Rat} {L : Nat}
theorem t_law_slopes (hg : RuleG as lead bs) (h4 : as.length ≤ 4) (hz : Gd 6 30 z) (hp : ∀ c ∈ p, Gd 6 96 c) (p4 : p.length ≤ 4) (hL : L ≤ 8) (ls : starts.length = as.length) (hs : ∀ x ∈ starts, Gd (6 ^ 5) (5000 ^ 5) x) :
    f_law_grown [eRule as lead bs, eT starts, .int (L : Nat), eL (slpL p z (as.length + L + 1)), eR 0] = some (eT (runR (as ++ [lead]) as.length starts (fun i => z * psh bs p z i (as.length + 1)) L)) := by
  obtain ⟨b1, b2, b3⟩ := slope_bounds hg h4 hz hp p4 hL ls hs
  have key : ∀ i, i < L → ∀ j, j ≤ as.length + 1 → z * psh bs p z i j = sm (fun t => gt bs t * gt (slpL p z (as.length + L + 1)) (i + t)) j := fun i hi j hj => by
    unfold psh
    rw [← sm_mul]
    refine sm_congr _ fun t ht => ?_
    unfold slpL
    rw [gt_range (by omega)]
    grind
  have hP : ∀ i, i < L → (fun i => z * psh bs p z i (as.length + 1)) i = (fun i => sm (fun t => gt bs t * gt (slpL p z (as.length + L + 1)) (i + t)) (as.length + 1)) i := fun i hi => key i hi _ (Nat.le_refl _)
  have w' := b2.congr hP
  have e := t_law_grownB (q := 0) hg.ok (by omega) (fun x hx => by
    obtain ⟨m, hm, rfl⟩ := List.mem_map.mp hx
    have hm' := List.mem_range.mp hm
    refine (hz.mul (hor_gd (t_gd hz (show m ≤ 80 by omega)) p hp 4 p4)).rb (by decide) ?_ ?_
    · decide +kernel
    · decide +kernel) (by simp [slpL]) w' (fun i hi j hj => by
    rw [← key i hi j hj, ← runR_congr i fun t ht => hP t (by omega)]
    exact b3 i hi j hj)
  rw [e, runR_congr L hP]
end
theorem t_order_of {as bs : List Rat} {lead : Rat} {n : Nat} (hg : RuleG as lead bs) (o : IsOrd (as ++ [lead]) bs n) : f_order_of [eRule as lead bs] = some (.int ((n : Int) - 1)) := by
  obtain ⟨M, w⟩ := hg.rows
  refine ow_of (funV_ow ?_)
  simp [den_order_of, t_check_rule hg.ok, t_order_told w hg.len hg.most o]
theorem ord_lm {as bs : List Rat} {lead : Rat} {n i : Nat} (o : IsOrd (as ++ [lead]) bs n) (hi : i < n) : lm (gt (as ++ [lead])) (gt bs) (as.length + 1) i = 0 := by
  have := o.zero i hi
  unfold defR at this
  rw [List.length_append, List.length_singleton] at this
  have hf : ((fac i : Nat) : Rat) ≠ 0 := fac_ne i
  grind
end Dn
namespace Dn
open PySem PySem.Spec PyProof.Rows L2
theorem lc_smalls {i : Nat} {ds : List D} {s : D} {ev : VE} {Q : List D × D → Prop} (h : SK s) (q : ∀ (rs : List Rat) (s' : D), rs.length = ds.length → (∀ r ∈ rs, Gd 6 24 r) → SK s' → Q (rs.map eR, s')) : OW (lcF (nameG i) yesB (callS f_law_small nilA) ds s ev) Q :=
  lc_small h q
/-- numbers of a test run -/
def NumP (as : List Rat) (lead : Rat) (bs : List Rat) (q : Rat) : Prop := Rb 200 q ∧ (gt (numsF (as ++ [lead]) bs q) as.length = 0 ∨ Gd 6 24 q)
def Ev (a b c d e f g h i j k l m n : Option D) : VE := [none, a, b, c, d, e, f, g, h, i, j, k, l, m, n, none, none]
theorem ne_lost {l : List Rat} {Q : D → Prop} : OW (neQ (eT l) (.str "lost")) Q ↔ Q (.bl true) := by
  have h1 : okN 20 (eT l) = true := by
    simp only [eT, okN, List.all_eq_true]
    intro d hd
    obtain ⟨q, _, rfl⟩ := List.mem_map.mp hd
    exact okN_eR'
  have h2 : okN 20 (.str "lost") = true := by decide +kernel
  refine ow_eq ?_
  unfold neQ
  rw [h1, h2]
  rfl
theorem lost_lost {Q : D → Prop} : OW (neQ (.str "lost") (.str "lost")) Q ↔ Q (.bl false) := by
  have h2 : okN 20 (.str "lost") = true := by decide +kernel
  refine ow_eq ?_
  unfold neQ
  rw [h2]
  simp [eqD]
structure PolyS (p : List Rat) : Prop where
  gp : ∀ c ∈ p, Gd 6 96 c
  p4 : p.length ≤ 4
  pn : p = [] ∨ ∃ p' z, p = p' ++ [z] ∧ z ≠ 0
theorem rat_pos2 {a b : Int} (ha : 0 < a) (hb : 0 < b) : 0 < Rat.divInt a b := by
  rw [Rat.divInt_eq_div]
  have h1 : (0 : Rat) < (a : Rat) := Rat.intCast_pos.mpr ha
  have h2 : (0 : Rat) < (b : Rat) := Rat.intCast_pos.mpr hb
  have e : (a : Rat) / (b : Rat) * (b : Rat) = (a : Rat) := by grind
  refine Rat.not_le.mp fun z => ?_
  have := Rat.mul_le_mul_of_nonneg_right z (Rat.le_of_lt h2)
  grind
theorem cut_take {l : List D} {m : Nat} {z : Int} (hz : z = ((m : Nat) : Int)) (hm : m ≤ l.length) : cutD l none (some z) = l.take m := by
  subst hz
  unfold cutD
  have e1 : HT.sIx l.length 0 none = 0 := rfl
  have e2 : HT.sIx l.length l.length (some ((m : Nat) : Int)) = m := by
    simp only [HT.sIx]
    rw [if_neg (by omega), Int.toNat_natCast]
    omega
  rw [e1, e2, List.drop_zero, Nat.sub_zero]
theorem nums_last {as bs : List Rat} {lead q : Rat} (hl : bs.length = as.length + 1) : gt (numsF (as ++ [lead]) bs q) as.length = lead - q * gt bs as.length := by
  rw [numsF_gt (by simp) (by omega)]
  congr 1
  unfold gt
  simp
theorem t_law_right {sk : D} (hs : SK sk) : OW (f_law_right sk []) fun r => r.1 = .bl true ∧ SK r.2 := by
  refine funS_ow ?_
  unfold den_law_right
  refine sw_step (fun s ev => SK s ∧ ∃ as lead bs, RuleG as lead bs ∧ as.length ≤ 4 ∧ ev = [none, some (eRule as lead bs), none, none, none, none, none, none, none, none, none, none, none, none, none, none, none]) ?_ ?_
  · simp
    refine OW.mono (t_drawn_ruleM (m := 4) (by decide) (by decide) hs) fun q hq => ?_
    obtain ⟨as, lead, bs, e, hg, h4, hs⟩ := hq
    rw [e]
    exact ⟨hs, as, lead, bs, hg, h4, rfl⟩
  rintro s ev ⟨hs, as, lead, bs, hg, h4, rfl⟩
  have h := hg.ok
  have hl := hg.len
  have hpos := hg.pos
  obtain ⟨M, w⟩ := hg.rows
  refine sw_step (fun s ev => SK s ∧ ∃ (L : Nat) (q : Rat), L ≤ 8 ∧ Gd 6 24 q ∧ ev = [none, some (eRule as lead bs), some (.int (as.length : Nat)), some (.int (L : Nat)), some (eR q), none, none, none, none, none, none, none, none, none, none, none, none]) ?_ ?_
  · simp [q_rule0, len_eT]
    refine ow_pull hs (by decide) (by decide) fun v s v1 v2 hs => ?_
    refine ow_small hs fun x s hx hs => ?_
    obtain ⟨L, rfl⟩ := Int.eq_ofNat_of_zero_le v1
    exact ⟨hs, L, by omega, x, hx, rfl, rfl⟩
  rintro s ev ⟨hs, L, q, hL, hq, rfl⟩
  have rbk : Rb 200 (gt bs as.length) := h.sb _ (gt_mem (by omega))
  refine sw_step (fun s ev => SK s ∧ ∃ q : Rat, NumP as lead bs q ∧ ev = [none, some (eRule as lead bs), some (.int (as.length : Nat)), some (.int (L : Nat)), some (eR q), none, none, none, none, none, none, none, none, none, none, none, none]) ?_ ?_
  · have q0 : NumP as lead bs q := ⟨hq.rb (by decide) (by decide) (by decide), .inr hq⟩
    simp
    refine ow_pull hs (by decide) (by decide) fun v s v1 v2 hs => ?_
    simp [q_eqI, q_rule1, q_rule0, bs_last hl, a_last, ne_num]
    by_cases hv : v = 0
    · right
      refine ⟨hv, ?_⟩
      by_cases hb : gt bs as.length = 0
      · left
        exact ⟨hb, hs, q, q0, rfl⟩
      · right
        refine ⟨hb, ?_⟩
        simp [t_law_over h.sl rbk (by omega) hb]
        obtain ⟨Y, y0, y1, hy⟩ := quot_of w.h0 (gd_gt w.gb as.length) hb
        have g := hy lead _ (w.ga lead (by simp))
        refine ⟨hs, lead / gt bs as.length, ⟨g.rb y0 (Nat.lt_of_le_of_lt y1 (by decide)) (by decide), .inl ?_⟩, rfl⟩
        rw [nums_last hl]
        grind
    · left
      exact ⟨hv, hs, q, q0, rfl⟩
  rintro s ev ⟨hs, q, ⟨rq, hnum⟩, rfl⟩
  refine sw_step (fun s ev => SK s ∧ ∃ starts : List Rat, starts.length = as.length ∧ (∀ x ∈ starts, Gd 6 24 x) ∧ ev = [none, some (eRule as lead bs), some (.int (as.length : Nat)), some (.int (L : Nat)), some (eR q), some (eT starts), none, none, none, none, none, none, none, none, none, none, none]) ?_ ?_
  · simp
    refine ⟨by omega, lc_smalls hs fun rs s' hl2 hr hs => ?_⟩
    rw [upTo_length] at hl2
    refine ⟨by rw [List.length_map]; omega, ?_⟩
    simp
    exact ⟨hs, rs, hl2, hr, rfl⟩
  rintro s ev ⟨hs, starts, ls, gst, rfl⟩
  refine sw_step (fun s ev => SK s ∧ ev = [none, some (eRule as lead bs), some (.int (as.length : Nat)), some (.int (L : Nat)), some (eR q), some (eT starts), some (.str "lost"), none, none, none, none, none, none, none, none, none, none]) ?_ ?_
  · simp [hs]
  rintro s ev ⟨hs, rfl⟩
  -- the first run is told alike
  refine sw_step (fun s ev => SK s ∧ ∃ due x, ev = [none, some (eRule as lead bs), some (.int (as.length : Nat)), some (.int (L : Nat)), some (eR q), some (eT starts), some due, none, none, none, none, none, none, none, none, none, none] ∧
    (∀ Q : D → Prop, OW (reprQ due) Q ↔ Q (.str x)) ∧ f_law_told [eRule as lead bs, eR q, eT starts, .int (L : Nat)] = some due ∧ (due = .str "lost" ∨ (f_test_run [eRule as lead bs, eR q, eT starts, .int (L : Nat)] = some due ∧ ∀ Q : D → Prop, OW (neQ due (.str "lost")) Q ↔ Q (.bl true)))) ?_ ?_
  · simp [q_rule1, q_rule0, bs_last hl, a_last, t_law_times rq rbk (by omega), q_neR]
    by_cases hz : gt (numsF (as ++ [lead]) bs q) as.length = 0
    · left
      have hz2 := hz
      rw [nums_last hl] at hz2
      obtain ⟨x, hx⟩ := repr_lost
      exact ⟨by grind, hs, ⟨x, hx⟩, t_told_lost h rq (by omega) ls hz⟩
    · right
      have hz2 := hz
      rw [nums_last hl] at hz2
      refine ⟨by grind, ?_⟩
      have gq := hnum.resolve_left hz
      have rb := test_bounds hg h4 gq hL ls gst hz
      have tt := ((t_test h rq (by omega) ls).2 rb).2
      simp [t_law_grownA h (by omega) rq rb]
      obtain ⟨x, hx⟩ := repr_eT (rb.bv L (Nat.le_refl _)) (by rw [runR_len]; omega)
      exact ⟨hs, ⟨x, hx⟩, t_told_ok h rq (by omega) ls rb, .inr ⟨tt, fun Q => ne_lost⟩⟩
  rintro s ev ⟨hs, due, x, rfl, hx, htold, htest⟩
  refine sw_step (fun s ev => SK s ∧ ∃ due, ev = [none, some (eRule as lead bs), some (.int (as.length : Nat)), some (.int (L : Nat)), some (eR q), some (eT starts), some due, none, none, none, none, none, none, none, none, none, none] ∧ (∀ Q : D → Prop, OW (reprQ due) Q ↔ Q (.str x)) ∧ (due = .str "lost" ∨ (f_test_run [eRule as lead bs, eR q, eT starts, .int (L : Nat)] = some due ∧ ∀ Q : D → Prop, OW (neQ due (.str "lost")) Q ↔ Q (.bl true)))) ?_ ?_
  · simp [htold, hx, neS_same]
    exact ⟨hs, htest⟩
  rintro s ev ⟨hs, due, rfl, hx, htest⟩
  refine sw_step (fun s ev => SK s ∧ ∃ due : Option D, ev = [none, some (eRule as lead bs), some (.int (as.length : Nat)), some (.int (L : Nat)), some (eR q), some (eT starts), due, none, none, none, none, none, none, none, none, none, none]) ?_ ?_
  · rcases htest with rfl | ⟨ht, hn⟩
    · have : ∀ Q : D → Prop, OW (neQ (.str "lost") (.str "lost")) Q ↔ Q (.bl false) := fun Q => lost_lost
      simp [this, hs]
    · simp [hn, ht, hx, neS_same, hs]
  rintro s ev ⟨hs, due0, rfl⟩
  refine sw_step (fun s ev => SK s ∧ ∃ p : List Rat, PolyS p ∧ ev = [none, some (eRule as lead bs), some (.int (as.length : Nat)), some (.int (L : Nat)), some (eR q), some (eT starts), due0, some (eL p), none, none, none, none, none, none, none, none, none]) ?_ ?_
  · simp
    refine ow_pull hs (by decide) (by decide) fun v s v1 v2 hs => ?_
    refine ⟨v, rfl, by omega, by omega, lc_smalls hs fun rs s' hl2 hr hs => ?_⟩
    rw [upTo_length] at hl2
    refine ⟨by rw [List.length_map]; omega, ?_⟩
    simp
    refine ow_pull hs (by decide) (by decide) fun u s u1 u2 hs => ?_
    simp [t_law_f (n := 32) (bt_of (show (1 + u).natAbs < 1000 by omega)) (bt_of (show (2 : Int).natAbs < 1000 by decide)) (by decide) (by decide)]
    refine ⟨by omega, hs, rs ++ [Rat.divInt (1 + u) 2], ⟨fun c hc => ?_, by simp; omega, .inr ⟨rs, _, rfl, ?_⟩⟩, by simp [eL]⟩
    · rcases List.mem_append.mp hc with hc | hc
      · exact (hr c hc).mono (by decide)
      · rw [List.mem_singleton.mp hc]
        exact Gd.div_int (by decide) 3 (by decide) (by omega)
    · have := rat_pos2 (a := 1 + u) (b := 2) (by omega) (by decide)
      grind
  rintro s ev ⟨hs, p0, hp0, rfl⟩
  refine sw_step (fun s ev => SK s ∧ ∃ p : List Rat, PolyS p ∧ ev = [none, some (eRule as lead bs), some (.int (as.length : Nat)), some (.int (L : Nat)), some (eR q), some (eT starts), due0, some (eL p), none, none, none, none, none, none, none, none, none]) ?_ ?_
  · simp
    refine ow_pull hs (by decide) (by decide) fun v s v1 v2 hs => ?_
    by_cases hv : 0 < v
    · simp [gtP, hv]
      exact ⟨hs, p0, hp0, rfl⟩
    · simp [gtP, hv]
      exact ⟨hs, [], ⟨by simp, by simp, .inl rfl⟩, by simp [eL]⟩
  rintro s ev ⟨hs, p, hp, rfl⟩
  refine sw_step (fun s ev => SK s ∧ ∃ z : Rat, 0 < z ∧ Gd 6 30 z ∧ ev = [none, some (eRule as lead bs), some (.int (as.length : Nat)), some (.int (L : Nat)), some (eR q), some (eT starts), due0, some (eL p), some (eR z), none, none, none, none, none, none, none, none]) ?_ ?_
  · simp
    refine ow_pull hs (by decide) (by decide) fun v s v1 v2 hs => ?_
    refine ow_pull hs (by decide) (by decide) fun u s u1 u2 hs => ?_
    simp [t_law_f (n := 32) (bt_of (show (1 + v).natAbs < 1000 by omega)) (bt_of (show (1 + u).natAbs < 1000 by omega)) (by decide) (by omega)]
    refine ⟨hs, _, rat_pos2 (by omega) (by omega), ?_, rfl⟩
    have hu : u = 0 ∨ u = 1 ∨ u = 2 := by omega
    rcases hu with rfl | rfl | rfl
    · exact Gd.div_int (by decide) 6 (by decide) (by omega)
    · exact Gd.div_int (by decide) 3 (by decide) (by omega)
    · exact Gd.div_int (by decide) 2 (by decide) (by omega)
  rintro s ev ⟨hs, z, z0, gz, rfl⟩
  have rz : Rb 100 z := gz.rb (by decide) (by decide) (by decide)
  obtain ⟨gp, p4, pn⟩ := hp
  refine sw_step (fun s ev => SK s ∧ ev = [none, some (eRule as lead bs), some (.int (as.length : Nat)), some (.int (L : Nat)), some (eR q), some (eT starts), due0, some (eL p), some (eR z), some (eL ((List.range (as.length + L + 1)).map fun m => z * nq m)), none, none, none, none, none, none, none]) ?_ ?_
  · simp only [sw_asg, ew_lc, iw_rng1, ew_bin, ew_c, ew_var', List.getElem?_cons_succ, List.getElem?_cons_zero, vw_val, q_add]
    refine ⟨(as.length : Int) + (L : Int) + 1, rfl, by omega, by omega, ?_⟩
    rw [show ((as.length : Int) + (L : Int) + 1).toNat = as.length + L + 1 by omega]
    refine lc_rule (upTo 0 (as.length + L + 1)) (fun i s acc => SK s ∧ acc = (List.range i).map fun m => eR (z * nq m)) 0 _ [] (fun i d s acc hd hi => ?_) ⟨hs, rfl⟩ fun s xs hi => ?_
    · obtain ⟨hs, rfl⟩ := hi
      obtain ⟨hil, rfl⟩ := upTo_at hd
      rw [Nat.zero_add]
      simp [wipeV, nq_tup, t_law_times (nq_rb (m := i) (by omega)) rz (by omega), List.range_succ, hs]
      rw [Rat.mul_comm]
    · obtain ⟨hs, hx⟩ := hi
      rw [List.nil_append, upTo_length, Nat.zero_add] at hx
      subst hx
      refine ⟨by simp; omega, ?_⟩
      simp [eL, hs]
  rintro s ev ⟨hs, rfl⟩
  have gst5 : ∀ x ∈ starts, Gd (6 ^ 5) (5000 ^ 5) x := fun x hx => by
    have := (gst x hx).up (6 ^ 4)
    rw [show 6 * 6 ^ 4 = 6 ^ 5 from rfl] at this
    exact this.mono (by decide)
  obtain ⟨b1, b2, b3⟩ := slope_bounds hg h4 gz gp p4 hL ls gst5
  have hor4 : ∀ m, m ≤ 80 → HorB p (z * nq m) := fun m hm => hor_b gz hm gp (Nat.le_trans p4 (show 4 ≤ 5 by omega)) (by omega)
  have gr := t_law_slopes hg h4 gz gp p4 hL ls gst5
  have sr := t_slope_run h rz z0 (show L ≤ 60 by omega) ls (by omega) pn hor4 b1 b2
  obtain ⟨V, hV, lV, hVe⟩ : ∃ V : List Rat, (∀ x ∈ V, Rb 1800 x) ∧ V.length ≤ 20 ∧ V = runR (as ++ [lead]) as.length starts (fun i => z * psh bs p z i (as.length + 1)) L := ⟨_, b2.bv L (Nat.le_refl _), by rw [runR_len]; omega, rfl⟩
  rw [← hVe] at gr sr
  refine sw_step (fun s ev => SK s ∧ ev = [none, some (eRule as lead bs), some (.int (as.length : Nat)), some (.int (L : Nat)), some (eR q), some (eT starts), some (eT V), some (eL p), some (eR z), some (eL ((List.range (as.length + L + 1)).map fun m => z * nq m)), none, none, none, none, none, none, none]) ?_ ?_
  · simp only [sw_asg, ew_call, aw_cons, aw_nil, ew_lc, iw_seq, ew_c, ew_tup, ew_var', List.getElem?_cons_succ, List.getElem?_cons_zero, vw_val]
    refine ⟨((List.range (as.length + L + 1)).map fun m => z * nq m).map eR, .inl rfl, ?_⟩
    rw [List.map_map]
    refine lc_map (eR ∘ fun m => z * nq m) (fun m => eR (z * hor (z * nq m) p)) (List.range (as.length + L + 1)) _ (fun m hm => ?_) ?_
    · have hm' := List.mem_range.mp hm
      have hb := hor4 m (by omega)
      have r2 : Rb 500 (hor (z * nq m) p) := by simpa using hb.bh 0
      simp [wipeV, t_law_at hb, t_law_times rz r2 (by omega)]
    · refine ⟨by simp; omega, by simp, ?_⟩
      have e : (List.range (as.length + L + 1)).map (fun m => eR (z * hor (z * nq m) p)) = (slpL p z (as.length + L + 1)).map eR := by simp [slpL]
      rw [e, zero_eR]
      unfold eL at gr
      rw [ow_eq gr]
      simp [hs]
  rintro s ev ⟨hs, rfl⟩
  refine sw_step (fun s ev => SK s ∧ ev = [none, some (eRule as lead bs), some (.int (as.length : Nat)), some (.int (L : Nat)), some (eR q), some (eT starts), some (eT V), some (eL p), some (eR z), some (eL ((List.range (as.length + L + 1)).map fun m => z * nq m)), some (.lst [eT V]), none, none, none, none, none, none]) ?_ ?_
  · have : ∀ Q : D → Prop, OW (tupQ (eL p)) Q ↔ Q (eT p) := fun Q => ow_eq rfl
    simp [this, sr, hs]
  rintro s ev ⟨hs, rfl⟩
  refine sw_step (fun s ev => SK s ∧ ev = [none, some (eRule as lead bs), some (.int (as.length : Nat)), some (.int (L : Nat)), some (eR q), some (eT starts), some (eT V), some (eL p), some (eR z), some (eL ((List.range (as.length + L + 1)).map fun m => z * nq m)), some (.lst [eT V, eT V]), none, none, none, none, none, none]) ?_ ?_
  · have : ∀ Q : D → Prop, OW (tupQ (eL p)) Q ↔ Q (eT p) := fun Q => ow_eq rfl
    rw [sw_app (ds := [eT V]) rfl]
    simp [this, sr, hs]
    show 1 < 1000000
    omega
  rintro s ev ⟨hs, rfl⟩
  refine sw_step (fun s ev => SK s ∧ ∃ told, ev = [none, some (eRule as lead bs), some (.int (as.length : Nat)), some (.int (L : Nat)), some (eR q), some (eT starts), some (eT V), some (eL p), some (eR z), some (eL ((List.range (as.length + L + 1)).map fun m => z * nq m)), told, none, none, none, none, none, none]) ?_ ?_
  · have hsh := ShG.lst (n := 2) (B := 60) (ds := [eT V, eT V]) fun d hd => by
      simp only [List.mem_cons, List.not_mem_nil, or_false] at hd
      rcases hd with rfl | rfl <;> exact sh_eT hV lV
    simp
    refine repr_same hsh (by omega) (by simp) ?_
    simp [hs]
  rintro s ev ⟨hs, told, rfl⟩
  obtain ⟨n, o⟩ := ord_exists (as := as) (bs := bs) hg.nz
  refine sw_step (fun s ev => SK s ∧ ev = [none, some (eRule as lead bs), some (.int (as.length : Nat)), some (.int (L : Nat)), some (eR q), some (eT starts), some (eT V), some (eL p), some (eR z), some (eL ((List.range (as.length + L + 1)).map fun m => z * nq m)), told, some (.int ((n : Int) - 1)), none, none, none, none, none]) ?_ ?_
  · simp [t_order_of hg o, hs]
  rintro s ev ⟨hs, rfl⟩
  refine sw_stepR (fun s ev => SK s ∧ 1 ≤ n ∧ ev = [none, some (eRule as lead bs), some (.int (as.length : Nat)), some (.int (L : Nat)), some (eR q), some (eT starts), some (eT V), some (eL p), some (eR z), some (eL ((List.range (as.length + L + 1)).map fun m => z * nq m)), told, some (.int ((n : Int) - 1)), none, none, none, none, none]) ?_ ?_
  · have e0 : ∀ Q : D → Prop, OW (isQ "int" isi_int (.int ((n : Int) - 1))) Q ↔ Q (.bl true) := fun Q => by simp [isQ, tyN, isi_int]
    simp [e0, ltP]
    by_cases hn : 1 ≤ n
    · left
      exact ⟨by omega, hs, hn⟩
    · right
      exact ⟨by omega, hs⟩
  rintro s ev ⟨hs, hn, rfl⟩
  refine sw_step (fun s ev => SK s ∧ ∃ rs : List Rat, rs.length ≤ 4 ∧ rs.length < n ∧ (∀ r ∈ rs, Gd 6 24 r) ∧ ev = [none, some (eRule as lead bs), some (.int (as.length : Nat)), some (.int (L : Nat)), some (eR q), some (eT starts), some (eT V), some (eL p), some (eR z), some (eL ((List.range (as.length + L + 1)).map fun m => z * nq m)), told, some (.int ((n : Int) - 1)), some (eL (rs ++ [fr 2 3])), none, none, none, none]) ?_ ?_
  · have e23 : (.tup [.int 2, .int 3] : D) = eR (fr 2 3) := rfl
    obtain ⟨d, hd⟩ : ∃ d : Nat, (if (4 : Int) < (n : Int) - 1 then (4 : Int) else (n : Int) - 1) = (d : Nat) := ⟨_, (Int.toNat_of_nonneg (by split <;> omega)).symm⟩
    simp only [sw_asg, ew_lc, iw_rng1, ew_bin, ew_c, ew_var', List.getElem?_cons_succ, List.getElem?_cons_zero, vw_val, q_min, hd]
    refine ⟨(d : Nat), rfl, by split at hd <;> omega, by split at hd <;> omega, ?_⟩
    rw [Int.toNat_natCast]
    refine lc_smalls hs fun rs s' hl2 hr hs => ?_
    rw [upTo_length] at hl2
    have hd4 : d ≤ 4 ∧ d < n := by split at hd <;> omega
    refine ⟨by rw [List.length_map]; show rs.length ≤ 1000000; omega, ?_⟩
    simp [e23]
    exact ⟨by omega, hs, rs, by omega, by omega, hr, by simp [eL]⟩
  rintro s ev ⟨hs, rs, hr4, hrn, gr0, rfl⟩
  obtain ⟨c, hc⟩ : ∃ c, c = rs ++ [fr 2 3] := ⟨_, rfl⟩
  have gc : ∀ x ∈ c, Gd 6 24 x := fun x hx => by
    rw [hc] at hx
    rcases List.mem_append.mp hx with hx | hx
    · exact gr0 x hx
    · rw [List.mem_singleton.mp hx]
      exact gd_of (by decide +kernel)
  have lc5 : c.length ≤ 5 := by rw [hc]; simp; omega
  have lcn : c.length ≤ n := by rw [hc]; simp; omega
  have cne : c ≠ [] := by rw [hc]; simp
  have dl := der_last (rs := rs) (x := fr 2 3) (by decide +kernel)
  rw [← hc] at dl ⊢
  have gc96 : ∀ x ∈ c, Gd 6 96 x := fun x hx => (gc x hx).mono (by decide)
  have hor5 : ∀ m, m ≤ 80 → HorB c (z * nq m) := fun m hm => hor_b gz hm gc96 lc5 (by omega)
  have gd := der_gd gc lc5
  have ld : (derL c).length ≤ 4 := by rw [der_len]; omega
  refine sw_step (fun s ev => SK s ∧ ev = [none, some (eRule as lead bs), some (.int (as.length : Nat)), some (.int (L : Nat)), some (eR q), some (eT starts), some (eT V), some (eL p), some (eR z), some (eL ((List.range (as.length + L + 1)).map fun m => z * nq m)), told, some (.int ((n : Int) - 1)), some (eL c), some (eT (derL c)), none, none, none]) ?_ ?_
  · simp only [sw_asg, ew_un, ew_sl, ew_lc, iw_enumA, ew_c, ew_var', List.getElem?_cons_succ, List.getElem?_cons_zero, vw_val]
    refine ⟨c.map eR, .inl rfl, ?_⟩
    rw [enumL_eL]
    refine lc_map (fun n => D.tup [.int (n : Nat), eR (gt c n)]) (fun n => eR (nq n * gt c n)) (List.range c.length) _ (fun m hm => ?_) ?_
    · have hm' := List.mem_range.mp hm
      have r1 := (gc _ (gt_mem hm')).rb (n := 10) (by decide) (by decide) (by decide)
      simp [wipeV, nq_tup, t_law_times (nq_rb (m := m) (by omega)) r1 (by omega)]
    · refine ⟨by simp; omega, ?_⟩
      have e1 : (List.range c.length).map (fun n => eR (nq n * gt c n)) = ((List.range c.length).map fun n => nq n * gt c n).map eR := by simp
      have e2 : ∀ (l : List Rat) (Q : D → Prop), OW (slQ (some 1) none (.lst (l.map eR))) Q ↔ Q (eL (l.drop 1)) := fun l Q => by
        refine ow_eq ?_
        show some (D.lst (cutD (l.map eR) (some 1) none)) = _
        congr 2
        unfold cutD
        have a1 : HT.sIx (l.map eR).length 0 (some 1) = min 1 (l.map eR).length := by
          simp only [HT.sIx]
          rw [if_neg (by omega)]
          rfl
        have a2 : HT.sIx (l.map eR).length (l.map eR).length none = (l.map eR).length := rfl
        rw [a1, a2]
        cases l with
        | nil => rfl
        | cons a l =>
          simp
          exact List.take_of_length_le (by simp)
      rw [e1]
      simp [e2, -List.map_map]
      rw [← List.drop_one, der_range]
      simp [eL, eT, hs]
  rintro s ev ⟨hs, rfl⟩
  obtain ⟨W, hW⟩ : ∃ W : List Rat, W = (List.range (as.length + L)).map fun m => hor (z * nq m) c := ⟨_, rfl⟩
  refine sw_step (fun s ev => SK s ∧ ev = [none, some (eRule as lead bs), some (.int (as.length : Nat)), some (.int (L : Nat)), some (eR q), some (eT starts), some (eT V), some (eL p), some (eR z), some (eL ((List.range (as.length + L + 1)).map fun m => z * nq m)), told, some (.int ((n : Int) - 1)), some (eL c), some (eT (derL c)), some (eT W), none, none]) ?_ ?_
  · simp only [sw_asg, ew_un, ew_lc, iw_seq, ew_sl, pw_no, pw_some, ew_bin, ew_c, ew_var', List.getElem?_cons_succ, List.getElem?_cons_zero, vw_val, q_add]
    refine ⟨(as.length : Int) + (L : Int), rfl, ?_⟩
    have esl : ∀ Q : D → Prop, OW (slQ none (some ((as.length : Int) + (L : Int))) (eL ((List.range (as.length + L + 1)).map fun m => z * nq m))) Q ↔ Q (.lst ((List.range (as.length + L)).map fun m => eR (z * nq m))) := fun Q => by
      refine ow_eq ?_
      show some (D.lst (cutD _ _ _)) = _
      rw [cut_take (m := as.length + L) (by simp) (by simp only [List.length_map, List.length_range]; omega)]
      congr 2
      rw [← List.map_take, ← List.map_take, List.take_range, Nat.min_eq_left (by omega), List.map_map]
      rfl
    rw [esl]
    refine ⟨_, .inl rfl, lc_map (fun m => eR (z * nq m)) (fun m => eR (hor (z * nq m) c)) (List.range (as.length + L)) _ (fun m hm => ?_) ?_⟩
    · have hm' := List.mem_range.mp hm
      simp [wipeV, t_law_at (hor5 m (by omega))]
    · refine ⟨by simp; omega, ?_⟩
      have e : (List.range (as.length + L)).map (fun m => eR (hor (z * nq m) c)) = W.map eR := by rw [hW]; simp
      rw [e]
      simp [eT, hs]
  rintro s ev ⟨hs, rfl⟩
  obtain ⟨st2, hst2⟩ : ∃ st2 : List Rat, st2 = (List.range as.length).map fun m => hor (z * nq m) c := ⟨_, rfl⟩
  have l2 : st2.length = as.length := by rw [hst2]; simp
  have g2 : ∀ x ∈ st2, Gd (6 ^ 5) (5000 ^ 5) x := fun x hx => by
    rw [hst2] at hx
    obtain ⟨m, hm, rfl⟩ := List.mem_map.mp hx
    have hm' := List.mem_range.mp hm
    exact hor_gd (t_gd gz (by omega)) c gc96 5 lc5
  obtain ⟨d1, d2, d3⟩ := slope_bounds hg h4 gz gd ld hL l2 g2
  have hord : ∀ m, m ≤ 80 → HorB (derL c) (z * nq m) := fun m hm => hor_b gz hm gd (Nat.le_trans ld (show 4 ≤ 5 by omega)) (by omega)
  have sr2 := t_slope_run h rz z0 (show L ≤ 60 by omega) l2 (by omega) dl hord d1 d2
  have rw1 := run_worths (z := z) hg.nz hl (fun i hi => ord_lm o (Nat.lt_of_lt_of_le hi lcn)) cne L
  have hV2 := d2.bv L (Nat.le_refl _)
  rw [← hst2] at rw1
  rw [rw1, ← hW] at sr2 hV2
  have lW : W.length = as.length + L := by rw [hW]; simp
  obtain ⟨x, hx⟩ := repr_eT hV2 (by omega)
  have est : ∀ Q : D → Prop, OW (slQ none (some ((as.length : Nat) : Int)) (eT W)) Q ↔ Q (eT st2) := fun Q => by
    refine ow_eq ?_
    show some (D.tup (cutD _ _ _)) = _
    rw [cut_take (m := as.length) rfl (by rw [List.length_map]; omega), hst2, hW]
    unfold eT
    rw [← List.map_take, ← List.map_take, List.take_range, Nat.min_eq_left (by omega)]
  simp [est, sr2, hx, eqS_same, hs]
end Dn
namespace Dn
open PySem PySem.Spec PyProof.Rows L2
theorem f_law_true (ns : List Int) (hl : ns.length ≤ 63) (hb : ∀ z ∈ ns, PySem.Builtin.Int.intBits z ≤ 1048576) : f_law [.scr (ns.map .int)] = some (.bl true) := by
  refine ow_of (funV_ow ?_)
  unfold den_law
  rw [sw_ret, ew_un, ew_lc, iw_rng1]
  have hn : ∃ n : Nat, n ≤ 100 ∧ (if (if (3 : Int) < ((ns.map D.int).length : Nat) then (3 : Int) else ((ns.map D.int).length : Nat)) > 1 then (if (3 : Int) < ((ns.map D.int).length : Nat) then (3 : Int) else ((ns.map D.int).length : Nat)) else 1) = (n : Nat) := by
    refine ⟨_, ?_, (Int.toNat_of_nonneg ?_).symm⟩
    · split <;> split <;> omega
    · split <;> split <;> omega
  obtain ⟨n, hn1, hn2⟩ := hn
  simp only [ew_bin, ew_un, ew_c, ew_var', env0_def, List.map_cons, List.map_nil, List.cons_append, List.getElem?_cons_zero, vw_val, q_lenS, q_min, q_max, hn2]
  refine ⟨_, rfl, by omega, by omega, ?_⟩
  rw [Int.toNat_natCast]
  refine lc_rule (upTo 0 n) (fun i s acc => s = .non ∧ acc = List.replicate i (.bl true)) 0 .non [] (fun i d s acc hd hi => ?_) ⟨rfl, rfl⟩ fun s xs hi => ?_
  · obtain ⟨rfl, rfl⟩ := hi
    obtain ⟨hin, rfl⟩ := upTo_get _ _ _ _ hd
    rw [Int.zero_add, Nat.zero_add]
    simp [wipeV]
    refine OW.mono (t_law_sack (ns := ns) (turn := i) (by omega)) fun d hd => ?_
    obtain ⟨ks, rfl, hk⟩ := hd
    refine ⟨ks, rfl, OW.mono (t_law_right hk) fun r hr => ?_⟩
    rw [hr.1, List.replicate_succ']
  · obtain ⟨rfl, hx⟩ := hi
    rw [List.nil_append] at hx
    rw [hx, upTo_length]
    refine ⟨by simp; omega, ?_⟩
    rw [all_true (by simp)]
    simp
end Dn
open PySem PySem.W PyProof.Rows
set_option maxHeartbeats 0 in
theorem PySem.Challenge.cw_legsteps_k73_whole_runs_holds : PySem.Challenge.rw_legsteps_k73_whole_runs.Holds := by
  w_on; o_law; k_head; (case hw => w_witness2)
  k_fill
  refine Dn.walk_G (l := PySem.Challenge.rw_legsteps_k73_whole_runs) (n := 63) (k := 10) (x := "script") (f := Dn.f_law) rfl (by decide) rfl ⟨rfl, by decide, by decide⟩ (fun w h Y => PySem.W.kIn_of Y) ?F Dn.f_law_true
  case F =>
    intro w mg fa h KX G hmg
    refine' Dn.top KX G hmg ?z_len ?z_range ?z_zip ?z_enumerate ?z_reversed ?z_list ?z_tuple ?z_abs ?z_max ?z_min ?z_int ?z_bool ?z_str ?z_isinstance ?z_all ?z_any ?z_sum ?z_repr ?z_divmod ?z_gcd ?a_is_whole ?l_is_whole ?c_is_whole ?k_is_whole ?a_are_wholes ?l_are_wholes ?c_are_wholes ?k_are_wholes ?a_is_between ?l_is_between ?c_is_between ?k_is_between ?a_divisor_of ?l_divisor_of ?c_divisor_of ?k_divisor_of ?a_is_reduced ?l_is_reduced ?c_is_reduced ?k_is_reduced ?a_raised ?l_raised ?c_raised ?k_raised ?a_is_ratio ?l_is_ratio ?c_is_ratio ?k_is_ratio ?a_ratio_with ?l_ratio_with ?c_ratio_with ?k_ratio_with ?a_ratio_sum ?l_ratio_sum ?c_ratio_sum ?k_ratio_sum ?a_ratio_less ?l_ratio_less ?c_ratio_less ?k_ratio_less ?a_ratio_product ?l_ratio_product ?c_ratio_product ?k_ratio_product ?a_ratio_over ?l_ratio_over ?c_ratio_over ?k_ratio_over ?a_are_ratios ?l_are_ratios ?c_are_ratios ?k_are_ratios ?a_is_parts ?l_is_parts ?c_is_parts ?k_is_parts ?a_sum_of_parts ?l_sum_of_parts ?c_sum_of_parts ?k_sum_of_parts ?a_is_ruled ?l_is_ruled ?c_is_ruled ?k_is_ruled ?a_many_steps ?l_many_steps ?c_many_steps ?k_many_steps ?a_defect ?l_defect ?c_defect ?k_defect ?a_order_told ?l_order_told ?c_order_told ?k_order_told ?a_check_fraction ?l_check_fraction ?c_check_fraction ?k_check_fraction ?a_check_polynomial ?l_check_polynomial ?c_check_polynomial ?k_check_polynomial ?a_check_rule ?l_check_rule ?c_check_rule ?k_check_rule ?a_check_number ?l_check_number ?c_check_number ?k_check_number ?a_check_starts ?l_check_starts ?c_check_starts ?k_check_starts ?a_check_size ?l_check_size ?c_check_size ?k_check_size ?a_told_at ?l_told_at ?c_told_at ?k_told_at ?a_run_on ?l_run_on ?c_run_on ?k_run_on ?a_test_run ?l_test_run ?c_test_run ?k_test_run ?a_push_of ?l_push_of ?c_push_of ?k_push_of ?a_slope_run ?l_slope_run ?c_slope_run ?k_slope_run ?a_order_of ?l_order_of ?c_order_of ?k_order_of ?a_law_sack ?l_law_sack ?c_law_sack ?k_law_sack ?a_law_pull ?l_law_pull ?c_law_pull ?k_law_pull ?a_law_pick ?l_law_pick ?c_law_pick ?k_law_pick ?a_law_f ?l_law_f ?c_law_f ?k_law_f ?a_law_plus ?l_law_plus ?c_law_plus ?k_law_plus ?a_law_less ?l_law_less ?c_law_less ?k_law_less ?a_law_times ?l_law_times ?c_law_times ?k_law_times ?a_law_over ?l_law_over ?c_law_over ?k_law_over ?a_law_product ?l_law_product ?c_law_product ?k_law_product ?a_law_known ?l_law_known ?c_law_known ?k_law_known ?a_law_small ?l_law_small ?c_law_small ?k_law_small ?a_law_drawn_first ?l_law_drawn_first ?c_law_drawn_first ?k_law_drawn_first ?a_law_drawn_rule ?l_law_drawn_rule ?c_law_drawn_rule ?k_law_drawn_rule ?a_law_at ?l_law_at ?c_law_at ?k_law_at ?a_law_grown ?l_law_grown ?c_law_grown ?k_law_grown ?a_law_told ?l_law_told ?c_law_told ?k_law_told ?a_law_right ?l_law_right ?c_law_right ?k_law_right ?a_law ?l_law ?c_law ?k_law ?y_ZERO ?w_ZERO ?u_ZERO ?y_MOST_STEPS ?y_LONGEST ?a_LostStep ?k_LostStep ?x_LostStep ?s_LostStep ?t_LostStep ?m_LostStep
    (case z_len => k_is)
    (case z_range => k_is)
    (case z_zip => k_is)
    (case z_enumerate => k_is)
    (case z_reversed => k_is)
    (case z_list => k_is)
    (case z_tuple => k_is)
    (case z_abs => k_is)
    (case z_max => k_is)
    (case z_min => k_is)
    (case z_int => k_is)
    (case z_bool => k_is)
    (case z_str => k_is)
    (case z_isinstance => k_is)
    (case z_all => k_is)
    (case z_any => k_is)
    (case z_sum => k_is)
    (case z_repr => k_is)
    (case z_divmod => k_is)
    (case z_gcd => k_is)
    (case a_is_whole => k_is)
    (case l_is_whole => k_is)
    (case c_is_whole => k_is)
    (case k_is_whole => k_is)
    (case a_are_wholes => k_is)
    (case l_are_wholes => k_is)
    (case c_are_wholes => k_is)
    (case k_are_wholes => k_is)
    (case a_is_between => k_is)
    (case l_is_between => k_is)
    (case c_is_between => k_is)
    (case k_is_between => k_is)
    (case a_divisor_of => k_is)
    (case l_divisor_of => k_is)
    (case c_divisor_of => k_is)
    (case k_divisor_of => k_is)
    (case a_is_reduced => k_is)
    (case l_is_reduced => k_is)
    (case c_is_reduced => k_is)
    (case k_is_reduced => k_is)
    (case a_raised => k_is)
    (case l_raised => k_is)
    (case c_raised => k_is)
    (case k_raised => k_is)
    (case a_is_ratio => k_is)
    (case l_is_ratio => k_is)
    (case c_is_ratio => k_is)
    (case k_is_ratio => k_is)
    (case a_ratio_with => k_is)
    (case l_ratio_with => k_is)
    (case c_ratio_with => k_is)
    (case k_ratio_with => k_is)
    (case a_ratio_sum => k_is)
    (case l_ratio_sum => k_is)
    (case c_ratio_sum => k_is)
    (case k_ratio_sum => k_is)
    (case a_ratio_less => k_is)
    (case l_ratio_less => k_is)
    (case c_ratio_less => k_is)
    (case k_ratio_less => k_is)
    (case a_ratio_product => k_is)
    (case l_ratio_product => k_is)
    (case c_ratio_product => k_is)
    (case k_ratio_product => k_is)
    (case a_ratio_over => k_is)
    (case l_ratio_over => k_is)
    (case c_ratio_over => k_is)
    (case k_ratio_over => k_is)
    (case a_are_ratios => k_is)
    (case l_are_ratios => k_is)
    (case c_are_ratios => k_is)
    (case k_are_ratios => k_is)
    (case a_is_parts => k_is)
    (case l_is_parts => k_is)
    (case c_is_parts => k_is)
    (case k_is_parts => k_is)
    (case a_sum_of_parts => k_is)
    (case l_sum_of_parts => k_is)
    (case c_sum_of_parts => k_is)
    (case k_sum_of_parts => k_is)
    (case a_is_ruled => k_is)
    (case l_is_ruled => k_is)
    (case c_is_ruled => k_is)
    (case k_is_ruled => k_is)
    (case a_many_steps => k_is)
    (case l_many_steps => k_is)
    (case c_many_steps => k_is)
    (case k_many_steps => k_is)
    (case a_defect => k_is)
    (case l_defect => k_is)
    (case c_defect => k_is)
    (case k_defect => k_is)
    (case a_order_told => k_is)
    (case l_order_told => k_is)
    (case c_order_told => k_is)
    (case k_order_told => k_is)
    (case a_check_fraction => k_is)
    (case l_check_fraction => k_is)
    (case c_check_fraction => k_is)
    (case k_check_fraction => k_is)
    (case a_check_polynomial => k_is)
    (case l_check_polynomial => k_is)
    (case c_check_polynomial => k_is)
    (case k_check_polynomial => k_is)
    (case a_check_rule => k_is)
    (case l_check_rule => k_is)
    (case c_check_rule => k_is)
    (case k_check_rule => k_is)
    (case a_check_number => k_is)
    (case l_check_number => k_is)
    (case c_check_number => k_is)
    (case k_check_number => k_is)
    (case a_check_starts => k_is)
    (case l_check_starts => k_is)
    (case c_check_starts => k_is)
    (case k_check_starts => k_is)
    (case a_check_size => k_is)
    (case l_check_size => k_is)
    (case c_check_size => k_is)
    (case k_check_size => k_is)
    (case a_told_at => k_is)
    (case l_told_at => k_is)
    (case c_told_at => k_is)
    (case k_told_at => k_is)
    (case a_run_on => k_is)
    (case l_run_on => k_is)
    (case c_run_on => k_is)
    (case k_run_on => k_is)
    (case a_test_run => k_is)
    (case l_test_run => k_is)
    (case c_test_run => k_is)
    (case k_test_run => k_is)
    (case a_push_of => k_is)
    (case l_push_of => k_is)
    (case c_push_of => k_is)
    (case k_push_of => k_is)
    (case a_slope_run => k_is)
    (case l_slope_run => k_is)
    (case c_slope_run => k_is)
    (case k_slope_run => k_is)
    (case a_order_of => k_is)
    (case l_order_of => k_is)
    (case c_order_of => k_is)
    (case k_order_of => k_is)
    (case a_law_sack => k_is)
    (case l_law_sack => k_is)
    (case c_law_sack => k_is)
    (case k_law_sack => k_is)
    (case a_law_pull => k_is)
    (case l_law_pull => k_is)
    (case c_law_pull => k_is)
    (case k_law_pull => k_is)
    (case a_law_pick => k_is)
    (case l_law_pick => k_is)
    (case c_law_pick => k_is)
    (case k_law_pick => k_is)
    (case a_law_f => k_is)
    (case l_law_f => k_is)
    (case c_law_f => k_is)
    (case k_law_f => k_is)
    (case a_law_plus => k_is)
    (case l_law_plus => k_is)
    (case c_law_plus => k_is)
    (case k_law_plus => k_is)
    (case a_law_less => k_is)
    (case l_law_less => k_is)
    (case c_law_less => k_is)
    (case k_law_less => k_is)
    (case a_law_times => k_is)
    (case l_law_times => k_is)
    (case c_law_times => k_is)
    (case k_law_times => k_is)
    (case a_law_over => k_is)
    (case l_law_over => k_is)
    (case c_law_over => k_is)
    (case k_law_over => k_is)
    (case a_law_product => k_is)
    (case l_law_product => k_is)
    (case c_law_product => k_is)
    (case k_law_product => k_is)
    (case a_law_known => k_is)
    (case l_law_known => k_is)
    (case c_law_known => k_is)
    (case k_law_known => k_is)
    (case a_law_small => k_is)
    (case l_law_small => k_is)
    (case c_law_small => k_is)
    (case k_law_small => k_is)
    (case a_law_drawn_first => k_is)
    (case l_law_drawn_first => k_is)
    (case c_law_drawn_first => k_is)
    (case k_law_drawn_first => k_is)
    (case a_law_drawn_rule => k_is)
    (case l_law_drawn_rule => k_is)
    (case c_law_drawn_rule => k_is)
    (case k_law_drawn_rule => k_is)
    (case a_law_at => k_is)
    (case l_law_at => k_is)
    (case c_law_at => k_is)
    (case k_law_at => k_is)
    (case a_law_grown => k_is)
    (case l_law_grown => k_is)
    (case c_law_grown => k_is)
    (case k_law_grown => k_is)
    (case a_law_told => k_is)
    (case l_law_told => k_is)
    (case c_law_told => k_is)
    (case k_law_told => k_is)
    (case a_law_right => k_is)
    (case l_law_right => k_is)
    (case c_law_right => k_is)
    (case k_law_right => k_is)
    (case a_law => k_is)
    (case l_law => k_is)
    (case c_law => k_is)
    (case k_law => k_is)
    (case y_ZERO => k_is)
    (case w_ZERO => k_is)
    (case u_ZERO => decide +kernel)
    (case y_MOST_STEPS => k_is)
    (case y_LONGEST => k_is)
    (case a_LostStep => k_is)
    (case k_LostStep => k_is)
    (case x_LostStep => k_exc)
    (case s_LostStep => k_is)
    (case t_LostStep => k_is)
    (case m_LostStep => k_is)

